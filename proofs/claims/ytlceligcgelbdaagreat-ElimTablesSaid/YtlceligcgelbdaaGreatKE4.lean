/- ElimTables holds: the eliminated totals are the document's, or there are none. Of all filings, years, members. -/
import Derived.ProofKit
import Derived.WalkKit
import Derived.Orders
import Derived.Test.YtlceligcgelbdaaGreatKF8
import Derived.Test.YtlceligcgelbdaaGreatKE0
import Derived.Test.YtlceligcgelbdaaGreatKE5
import Derived.Test.YtlceligcgelbdaaGreatKE2
set_option linter.unusedVariables false
set_option maxRecDepth 100000
namespace Go.Proofs.YtlceligcgelbdaaGreat
open Go.ChangeShapes Go.WideShapes Go.ChangeAt Go.RowKit
open Go.CE
open Go.Eng (aYb)
theorem shF:TT.of Tryz.prog 20 101=some aUN:=by kernel_rfl
theorem shI:TT.of Tryz.prog 20 3=some [.i .i64]:=by kernel_rfl
theorem shB:TT.of Tryz.prog 20 94=some [.sl 1 [.b]]:=by kernel_rfl
theorem bJp:laidOutB Tryz.prog=true:=by kernel_rfl
theorem bUJ:Go.Eng.callable Tryz.prog 10=true:=by kernel_rfl
theorem bMg:(Tryz.f10.params.toList.all fun t=>Tryz.prog.readableRec t && decide (t<Tryz.prog.types.size))=true:=by kernel_rfl
theorem fsz:Tryz.prog.funcs.size≤1000000:=Nat.le_of_ble_eq_true (by kernel_rfl)
theorem bMC:Tryz.prog.follows .mixedOrders=true:=by kernel_rfl
theorem bWc {z:dA} {cs:List C} (h:TCs z [.i .i64] cs):∃ n:Int,-9223372036854775808≤n∧n<9223372036854775808∧cs=[.v (.int .i64 n)]:=by
 obtain ⟨c,t,rfl,g,h⟩:=eM h
 obtain rfl:=Bw h
 obtain ⟨n,hn,rfl⟩:=bLw g
 have hr : -9223372036854775808≤n∧n<9223372036854775808:=by
  simp [Lit.wf,IntKind.min,IntKind.max,IntKind.bits,IntKind.signed] at hn
  omega
 exact ⟨n,hr.1,hr.2,rfl⟩
theorem bV6 {z:dA} {cs:List C} (h:TCs z [.b] cs):∃ a,RE Value.bool z cs a:=by
 obtain ⟨c0,t0,rfl,g0,h⟩:=eM h
 obtain rfl:=Bw h
 obtain ⟨b0,rfl⟩:=g0.b
 exact ⟨b0,rfl⟩
theorem bIq:aSw:=by
 intro H enc W base args ds gs before hval hW
 have hW':=hW
 obtain ⟨p,q,hA0,hV,rfl,hfz,hnd⟩:=hW
 have hA:DataW.TrodAll enc Tryz.prog W 0 (fun _=>true) true Tryz.f10.params.toList args.toList ds p:=hA0
 rw [Tryz.params10] at hA hval
 obtain ⟨v0,v1,v2,d0,d1,d2,p0,p1,p2,rfl,rfl,rfl,h0,h1,h2⟩:=trodAll_three hA
 obtain ⟨rfl,rfl⟩:=trodVars_none hV
 obtain ⟨x0,rfl,s0⟩:=okWide_struct Tryz.underlying101 (hval 0 101 v0 rfl rfl)
 obtain ⟨x1,rfl⟩:=okWide_int Tryz.underlying3 (hval 1 3 v1 rfl rfl)
 obtain ⟨x2,x3,x4,rfl⟩:=okWide_slice Tryz.underlying94 (hval 2 94 v2 rfl rfl)
 clear hA0 hA
 simp only [List.append_nil] at hW'
 obtain ⟨n0,f0⟩:=h0
 obtain ⟨n1,f1⟩:=h1
 obtain ⟨n2,f2⟩:=h2
 obtain ⟨us0,a0⟩:=Yu 20 n0 shF f0
 obtain ⟨us1,a1⟩:=Yu 20 n1 shI f1
 obtain ⟨us2,a2⟩:=Yu 20 n2 shB f2
 obtain ⟨cs0,t1,ρ1,m1,e1,l1,k1,z1,c1,g1,r1⟩:=aF9 (K:=fun b=>b<W.heap.size) (fun b h=>h) a0 .nil (fun _=>none) 0 (bOq W) (fun _=>Iff.rfl)
 obtain ⟨cs1,t2,ρ2,m2,e2,l2,k2,z2,c2,g2,r2⟩:=aF9 (K:=fun b=>b<W.heap.size) (fun b h=>h) a1 t1 ρ1 m1 e1 (fun _=>Iff.rfl)
 obtain ⟨cs2,t3,ρ3,m3,e3,l3,k3,z3,c3,g3,r3⟩:=aF9 (K:=fun b=>b<W.heap.size) (fun b h=>h) a2 t2 ρ2 m2 e2 (fun _=>Iff.rfl)
 obtain ⟨x,c0',c1',c2',c3',c4',c5',c6',c7',c8',c9',c10',c11',hcs,q0,q1,q2,q3,q4,q5,q6,q7,q8,q9,q10,q11⟩:=bDf g1
 obtain ⟨yr,y1,y2,rfl⟩:=bWc g2
 subst hcs
 obtain ⟨d2',u2,rfl,g7,h⟩:=eM g3
 obtain rfl:=Bw h
 obtain ⟨ms,hm⟩:=g7.sl (R:=RE Value.bool) rfl fun cs h=>bV6 h
 refine (bPl (args:=[.agg _,.c (.v (.int .i64 yr)),.c d2']) (bFc bMC bSb bUH fsz bSP K0 60) bUJ e3 (aFv (k:=60) (by omega) (x:=x) ((q0.mono z2).mono z3) ((q1.mono z2).mono z3) ((q2.mono z2).mono z3) ((q3.mono z2).mono z3) ((q4.mono z2).mono z3) ((q5.mono z2).mono z3) ((q6.mono z2).mono z3) ((q7.mono z2).mono z3) ((q8.mono z2).mono z3) ((q9.mono z2).mono z3) ((q10.mono z2).mono z3) ((q11.mono z2).mono z3) y1 y2 (ms:=ms) hm) rfl (fun k v hk=>?_)).mono fun e W' ⟨he,hb⟩=>?_
 ·match k,hk with
  | 0,hk=>injection hk with hk;subst hk;exact bKZ c1 fun i c h=>by obtain ⟨x,h1,h2⟩:=r1 i c h;exact ⟨x,h1,(h2.mono l2).mono l3⟩
  | 1,hk =>
   injection hk with hk;subst hk
   obtain ⟨y,g3,g4⟩:=r2 0 _ rfl
   have e3:y=.int .i64 x1:=(Option.some.inj g3).symm
   subst e3
   exact .c _ _ (g4.mono l3)
  | 2,hk =>
   injection hk with hk;subst hk
   obtain ⟨y,g3,g4⟩:=r3 0 _ rfl
   have e3:y=.slice x2 x3 x4:=(Option.some.inj g3).symm
   subst e3
   exact .c _ _ g4
 exact ⟨_,he,aYb (tb:=4) rfl rfl (by kernel_rfl) Tryz.underlying4 bJp bMg hW' hb⟩
theorem elimTables_holds:Rows.ElimTablesSaid:=bVb bIq
end Go.Proofs.YtlceligcgelbdaaGreat
