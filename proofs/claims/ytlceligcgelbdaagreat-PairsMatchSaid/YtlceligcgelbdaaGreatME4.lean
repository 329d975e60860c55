/- PairsMatch holds: of any filing the pairs of any year are the document's, or the first deal that is wrong; the filing stays, and what is answered may be written over. Of all filings, years. -/
import Derived.ProofKit
import Derived.WalkKit
import Derived.Orders
import Derived.Test.YtlceligcgelbdaaGreatMF6
import Derived.Test.YtlceligcgelbdaaGreatME0
import Derived.Test.YtlceligcgelbdaaGreatME5
import Derived.Test.YtlceligcgelbdaaGreatME2
set_option linter.unusedVariables false
set_option maxRecDepth 100000
namespace Go.Proofs.YtlceligcgelbdaaGreat
open Go.ChangeShapes Go.WideShapes Go.ChangeAt Go.RowKit
open Go.CE
open Go.Eng (aWc)
theorem shF:TT.of Tryz.prog 20 101=some aTa:=by kernel_rfl
theorem shI:TT.of Tryz.prog 20 3=some [.i .i64]:=by kernel_rfl
theorem bLU:laidOutB Tryz.prog=true:=by kernel_rfl
theorem bXq:Go.Eng.callable Tryz.prog 7=true:=by kernel_rfl
theorem bR7:(Tryz.f7.params.toList.all fun t=>Tryz.prog.readableRec t && decide (t<Tryz.prog.types.size))=true:=by kernel_rfl
theorem of_i {z:fR} {cs:List C} (h:TCs z [.i .i64] cs):∃ n:Int,-9223372036854775808≤n∧n<9223372036854775808∧cs=[.v (.int .i64 n)]:=by
 obtain ⟨c,t,rfl,g,h⟩:=fV h
 obtain rfl:=E9 h
 obtain ⟨n,hn,rfl⟩:=bMw g
 have hr : -9223372036854775808≤n∧n<9223372036854775808:=by
  simp [Lit.wf,IntKind.min,IntKind.max,IntKind.bits,IntKind.signed] at hn
  omega
 exact ⟨n,hr.1,hr.2,rfl⟩
theorem bFe:aSD:=by
 intro H enc W base args ds gs before hval hW
 have hW':=hW
 obtain ⟨p,q,hA0,hV,rfl,hfz,hnd⟩:=hW
 have hA:DataW.TrodAll enc Tryz.prog W 0 (fun _=>true) true Tryz.f7.params.toList args.toList ds p:=hA0
 rw [Tryz.params7] at hA hval
 obtain ⟨v0,v1,d0,d1,p0,p1,rfl,rfl,rfl,h0,h1⟩:=trodAll_two hA
 obtain ⟨rfl,rfl⟩:=trodVars_none hV
 obtain ⟨x0,rfl,s0⟩:=okWide_struct Tryz.underlying101 (hval 0 101 v0 rfl rfl)
 obtain ⟨x1,rfl⟩:=okWide_int Tryz.underlying3 (hval 1 3 v1 rfl rfl)
 clear hA0 hA
 simp only [List.append_nil] at hW'
 obtain ⟨n0,f0⟩:=h0
 obtain ⟨n1,f1⟩:=h1
 obtain ⟨us0,a0⟩:=aCW 20 n0 shF f0
 obtain ⟨us1,a1⟩:=aCW 20 n1 shI f1
 obtain ⟨cs0,t1,ρ1,m1,e1,l1,k1,z1,c1,g1,r1⟩:=aN9 (K:=fun b=>b<W.heap.size) (fun b h=>h) a0 .nil (fun _=>none) 0 (bOn W) (fun _=>Iff.rfl)
 obtain ⟨cs1,t2,ρ2,m2,e2,l2,k2,z2,c2,g2,r2⟩:=aN9 (K:=fun b=>b<W.heap.size) (fun b h=>h) a1 t1 ρ1 m1 e1 (fun _=>Iff.rfl)
 obtain ⟨x,c0',c1',c2',c3',c4',c5',c6',c7',c8',c9',c10',c11',hcs,q0,q1,q2,q3,q4,q5,q6,q7,q8,q9,q10,q11⟩:=bBL g1
 obtain ⟨yr,y1,y2,rfl⟩:=of_i g2
 subst hcs
 refine (bPJ (args:=[.agg _,.c (.v (.int .i64 yr))]) (aTM mixed bSi bTF K0 60) bXq e2 (aEw (k:=60) (by omega) (x:=x) (q0.mono z2) (q1.mono z2) (q2.mono z2) (q3.mono z2) (q4.mono z2) (q5.mono z2) (q6.mono z2) (q7.mono z2) (q8.mono z2) (q9.mono z2) (q10.mono z2) (q11.mono z2) y1 y2) rfl (fun k v hk=>?_)).mono fun e W' ⟨he,hb⟩=>?_
 ·match k,hk with
  | 0,hk=>injection hk with hk;subst hk;exact bK5 c1 fun i c h=>by obtain ⟨x,h1,h2⟩:=r1 i c h;exact ⟨x,h1,h2.mono l2⟩
  | 1,hk =>
   injection hk with hk;subst hk
   obtain ⟨y,g3,g4⟩:=r2 0 _ rfl
   have e3:y=.int .i64 x1:=(Option.some.inj g3).symm
   subst e3
   exact .c _ _ g4
 exact ⟨_,he,aWc (tb:=4) rfl rfl (by kernel_rfl) Tryz.underlying4 bLU bR7 hW' hb⟩
theorem pairsMatch_holds:Rows.PairsMatchSaid:=cAp bFe
end Go.Proofs.YtlceligcgelbdaaGreat
