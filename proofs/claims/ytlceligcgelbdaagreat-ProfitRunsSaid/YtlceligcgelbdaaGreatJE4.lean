/- ProfitRuns holds: the ledger is the document's, or there is none; what was handed in stays, and what is answered may be written over. Of all members, goods and sales. -/
import Derived.ProofKit
import Derived.Carry
import Derived.WalkKit
import Derived.Orders
import Derived.Test.YtlceligcgelbdaaGreatJE0
import Derived.Test.YtlceligcgelbdaaGreatJE5
import Derived.Test.YtlceligcgelbdaaGreatJG1
import Derived.Test.YtlceligcgelbdaaGreatJE2
set_option linter.unusedVariables false
set_option maxRecDepth 100000
namespace Go.Proofs.YtlceligcgelbdaaGreat
open Go.ChangeShapes Go.WideShapes Go.ChangeAt Go.RowKit
open Go.CE
open Go.Eng (post_law)
theorem tcs_inv {z:Mem} {a:TT} {ts:List TT} {cs:List C} (h:TCs z (a::ts) cs):∃ c cs',cs=c::cs'∧TC z a c∧TCs z ts cs':=by
 cases h with
 | cons h t=>exact ⟨_,_,rfl,h,t⟩
theorem tcs_nil {z:Mem} {cs:List C} (h:TCs z [] cs):cs=[]:=by
 cases h;rfl
theorem of_u32 {z:Mem} {cs:List C} (h:TCs z [.i .u32] cs):∃ a,RW z cs a:=by
 obtain ⟨c0,t0,rfl,g0,h⟩:=tcs_inv h
 obtain rfl:=tcs_nil h
 obtain ⟨u,h1,h2⟩:=g0
 cases h1 with
 | i _ n hn =>
 cases h2 with
 | v _ =>
 have hr:0≤n∧n<4294967296:=by
  simp [Lit.wf,IntKind.min,IntKind.max,IntKind.bits,IntKind.signed] at hn
  omega
 refine ⟨UInt32.ofNat n.toNat,?_⟩
 show [C.v (.int .u32 n)]=[C.v (.int .u32 (((UInt32.ofNat n.toNat).toNat:Nat):Int))]
 rw [Go.Num.ofNat_toNat (by show _<4294967296;omega),Int.toNat_of_nonneg hr.1]
abbrev sh_rat:List TT:=[.b,.sl 1 [.i .u32],.b,.sl 1 [.i .u32]]
theorem of_rat {z:Mem} {cs:List C} (h:TCs z sh_rat cs):∃ a,RRat z cs a:=by
 obtain ⟨c0,t0,rfl,g0,h⟩:=tcs_inv h
 obtain ⟨c1,t1,rfl,g1,h⟩:=tcs_inv h
 obtain ⟨c2,t2,rfl,g2,h⟩:=tcs_inv h
 obtain ⟨c3,t3,rfl,g3,h⟩:=tcs_inv h
 obtain rfl:=tcs_nil h
 obtain ⟨b0,rfl⟩:=g0.b
 obtain ⟨b1,e1⟩:=g1.sl (R:=RW) rfl fun cs h=>of_u32 h
 obtain ⟨b2,rfl⟩:=g2.b
 obtain ⟨b3,e3⟩:=g3.sl (R:=RW) rfl fun cs h=>of_u32 h
 exact ⟨⟨b0,b1,b2,b3⟩,_,_,rfl,e1,e3⟩
theorem of_b {z:Mem} {cs:List C} (h:TCs z [.b] cs):∃ a,RE Value.bool z cs a:=by
 obtain ⟨c0,t0,rfl,g0,h⟩:=tcs_inv h
 obtain rfl:=tcs_nil h
 obtain ⟨b0,rfl⟩:=g0.b
 exact ⟨b0,rfl⟩
theorem of_bs {z:Mem} {cs:List C} (h:TCs z [.sl 1 [.b]] cs):∃ a,RC 1 (RE Value.bool) z cs a:=by
 obtain ⟨c0,t0,rfl,g0,h⟩:=tcs_inv h
 obtain rfl:=tcs_nil h
 obtain ⟨b0,e0⟩:=g0.sl (R:=RE Value.bool) rfl fun cs h=>of_b h
 exact ⟨b0,_,rfl,e0⟩
abbrev sh_good:List TT:=[.s,.i .i64,.i .i64,.i .i64,.b,.sl 1 [.i .u32],.b,.sl 1 [.i .u32],.b,.sl 1 [.i .u32],.b,.sl 1 [.i .u32]]
theorem tcs_app {z:Mem}:∀ {a b:List TT} {cs:List C},TCs z (a++b) cs→∃ c d,cs=c++d∧TCs z a c∧TCs z b d
 | [],_,cs,h=>⟨[],cs,rfl,.nil,h⟩
 | x::a,b,cs,h=>by
  obtain ⟨c,cs',rfl,h1,h2⟩:=tcs_inv (a:=x) (ts:=a++b) h
  obtain ⟨c1,d1,rfl,h3,h4⟩:=tcs_app h2
  exact ⟨c::c1,d1,rfl,.cons h1 h3,h4⟩
theorem of_good {z:Mem} {cs:List C} (h:TCs z sh_good cs):∃ a,RGood z cs a:=by
 obtain ⟨c0,t0,rfl,g0,h⟩:=tcs_inv h
 obtain ⟨c1,t1,rfl,g1,h⟩:=tcs_inv h
 obtain ⟨c2,t2,rfl,g2,h⟩:=tcs_inv h
 obtain ⟨c3,t3,rfl,g3,h⟩:=tcs_inv h
 obtain ⟨e1,e2,rfl,h1,h2⟩:=tcs_app (a:=sh_rat) (b:=sh_rat) h
 obtain ⟨a,q0,q1,rfl,q2,q3⟩:=of_rat h1
 obtain ⟨b,r0,r1,rfl,r2,r3⟩:=of_rat h2
 obtain ⟨b0,rfl⟩:=g0.s
 obtain ⟨b1,rfl⟩:=g1.i
 obtain ⟨b2,rfl⟩:=g2.i
 obtain ⟨b3,rfl⟩:=g3.i
 exact ⟨⟨b0,b1,b2,b3,a,b⟩,_,_,_,_,rfl,q2,q3,r2,r3⟩
abbrev sh_sale:List TT:=[.s,.i .i64,.b,.sl 1 [.i .u32],.b,.sl 1 [.i .u32]]
theorem of_sale {z:Mem} {cs:List C} (h:TCs z sh_sale cs):∃ a,RSale z cs a:=by
 obtain ⟨c0,t0,rfl,g0,h⟩:=tcs_inv h
 obtain ⟨c1,t1,rfl,g1,h⟩:=tcs_inv h
 obtain ⟨a,q0,q1,rfl,q2,q3⟩:=of_rat h
 obtain ⟨b0,rfl⟩:=g0.s
 obtain ⟨b1,rfl⟩:=g1.i
 exact ⟨⟨b0,b1,a⟩,_,_,rfl,q2,q3⟩
theorem shM:TT.of Tryz.prog 20 56=some [.sl 1 [.sl 1 [.b]]]:=by kernel_rfl
theorem shInt:TT.of Tryz.prog 20 3=some [.i .i64]:=by kernel_rfl
theorem shG:TT.of Tryz.prog 20 57=some [.sl 12 sh_good]:=by kernel_rfl
theorem shS:TT.of Tryz.prog 20 58=some [.sl 6 sh_sale]:=by kernel_rfl
theorem laidOut:laidOutB Tryz.prog=true:=by kernel_rfl
theorem cal4:Go.Eng.callable Tryz.prog 4=true:=by kernel_rfl
theorem fsz:Tryz.prog.funcs.size≤1000000:=Nat.le_of_ble_eq_true (by kernel_rfl)
theorem read4:(Tryz.f4.params.toList.all fun t=>Tryz.prog.readableRec t && decide (t<Tryz.prog.types.size))=true:=by kernel_rfl
theorem mixed3:Tryz.prog.follows .mixedOrders=true:=by kernel_rfl
theorem contract:Contract:=by
 intro H enc W base args ds gs before hval hW
 have hW':=hW
 obtain ⟨p,q,hA0,hV,rfl,hfz,hnd⟩:=hW
 have hA:DataW.TrodAll enc Tryz.prog W 0 (fun _=>true) true Tryz.f4.params.toList args.toList ds p:=hA0
 rw [Tryz.params4] at hA hval
 obtain ⟨v0,v1,v2,v3,d0,d1,d2,d3,p0,p1,p2,p3,rfl,rfl,rfl,h0,h1,h2,h3⟩:=trodAll_four hA
 obtain ⟨rfl,rfl⟩:=trodVars_none hV
 obtain ⟨x0,x7,x8,rfl⟩:=okWide_slice Tryz.underlying56 (hval 0 56 v0 rfl rfl)
 obtain ⟨x1,rfl⟩:=okWide_int Tryz.underlying3 (hval 1 3 v1 rfl rfl)
 obtain ⟨x2,x3,x4,rfl⟩:=okWide_slice Tryz.underlying57 (hval 2 57 v2 rfl rfl)
 obtain ⟨x5,x6,x9,rfl⟩:=okWide_slice Tryz.underlying58 (hval 3 58 v3 rfl rfl)
 clear hA0 hA
 simp only [List.append_nil] at hW'
 obtain ⟨n0,f0⟩:=h0
 obtain ⟨n1,f1⟩:=h1
 obtain ⟨n2,f2⟩:=h2
 obtain ⟨n3,f3⟩:=h3
 obtain ⟨us0,a0⟩:=trod_tree 20 n0 shM f0
 obtain ⟨us1,a1⟩:=trod_tree 20 n1 shInt f1
 obtain ⟨us2,a2⟩:=trod_tree 20 n2 shG f2
 obtain ⟨us3,a3⟩:=trod_tree 20 n3 shS f3
 obtain ⟨cs0,t1,ρ1,m1,e1,l1,k1,z1,c1,g1,r1⟩:=en_trees (K:=fun b=>b<W.heap.size) (fun b h=>h) a0 .nil (fun _=>none) 0 (en_nil W) (fun _=>Iff.rfl)
 obtain ⟨cs1,t2,ρ2,m2,e2,l2,k2,z2,c2,g2,r2⟩:=en_trees (K:=fun b=>b<W.heap.size) (fun b h=>h) a1 t1 ρ1 m1 e1 (fun _=>Iff.rfl)
 obtain ⟨cs2,t3,ρ3,m3,e3,l3,k3,z3,c3,g3,r3⟩:=en_trees (K:=fun b=>b<W.heap.size) (fun b h=>h) a2 t2 ρ2 m2 e2 (fun _=>Iff.rfl)
 obtain ⟨cs3,t4,ρ4,m4,e4,l4,k4,z4,c4,g4,r4⟩:=en_trees (K:=fun b=>b<W.heap.size) (fun b h=>h) a3 t3 ρ3 m3 e3 (fun _=>Iff.rfl)
 obtain ⟨c0,u0,rfl,g5,h⟩:=tcs_inv g1
 obtain rfl:=tcs_nil h
 obtain ⟨ms,hm⟩:=g5.sl (R:=RC 1 (RE Value.bool)) rfl fun cs h=>of_bs h
 obtain ⟨d1',u1,rfl,g6,h⟩:=tcs_inv g2
 obtain rfl:=tcs_nil h
 obtain ⟨pi,rfl⟩:=g6.i
 obtain ⟨d2',u2,rfl,g7,h⟩:=tcs_inv g3
 obtain rfl:=tcs_nil h
 obtain ⟨go,hg⟩:=g7.sl (R:=RGood) rfl fun cs h=>of_good h
 obtain ⟨d3',u3,rfl,g8,h⟩:=tcs_inv g4
 obtain rfl:=tcs_nil h
 obtain ⟨sa,hs⟩:=g8.sl (R:=RSale) rfl fun cs h=>of_sale h
 refine (law_of (args:=[.c c0,.c (.v (.int .i64 pi)),.c d2',.c d3']) (evF_cs mixed3 tS_ok tS_rg fsz hS_ok K0 60) cal4 e4 (c_law22_ProfitRuns (k:=60) (ms:=ms) (goods:=go) (sales:=sa) (by omega) (((hm.mono z2).mono z3).mono z4) (hg.mono z4) hs) rfl (fun k v hk=>?_)).mono fun e W' ⟨he,hb⟩=>?_
 ·match k,hk with
  | 0,hk =>
   injection hk with hk;subst hk
   obtain ⟨y,g3,g4⟩:=r1 0 _ rfl
   have e3:y=.slice x0 x7 x8:=(Option.some.inj g3).symm
   subst e3
   exact .c _ _ (((g4.mono l2).mono l3).mono l4)
  | 1,hk =>
   injection hk with hk;subst hk
   obtain ⟨y,g3,g4⟩:=r2 0 _ rfl
   have e3:y=.int .i64 x1:=(Option.some.inj g3).symm
   subst e3
   exact .c _ _ ((g4.mono l3).mono l4)
  | 2,hk =>
   injection hk with hk;subst hk
   obtain ⟨y,g3,g4⟩:=r3 0 _ rfl
   have e3:y=.slice x2 x3 x4:=(Option.some.inj g3).symm
   subst e3
   exact .c _ _ (g4.mono l4)
  | 3,hk =>
   injection hk with hk;subst hk
   obtain ⟨y,g3,g4⟩:=r4 0 _ rfl
   have e3:y=.slice x5 x6 x9:=(Option.some.inj g3).symm
   subst e3
   exact .c _ _ g4
 exact ⟨_,he,post_law (tb:=4) rfl rfl (by kernel_rfl) Tryz.underlying4 laidOut read4 hW' hb⟩
theorem profitRuns_holds:Rows.ProfitRunsSaid:=said contract
end Go.Proofs.YtlceligcgelbdaaGreat
