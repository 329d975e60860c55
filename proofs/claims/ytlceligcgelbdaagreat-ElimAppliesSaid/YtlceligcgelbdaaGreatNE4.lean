/- ElimApplies holds: any table with any entries is the document's, and so is what they count on the book; the table stays. Of all tables, entries, classes. -/
import Derived.ProofKit
import Derived.WalkKit
import Derived.Orders
import Derived.Test.YtlceligcgelbdaaGreatNF5
import Derived.Test.YtlceligcgelbdaaGreatNE0
import Derived.Test.YtlceligcgelbdaaGreatNE5
import Derived.Test.YtlceligcgelbdaaGreatNE2
set_option linter.unusedVariables false
set_option maxRecDepth 100000
namespace Go.Proofs.YtlceligcgelbdaaGreat
open Go.ChangeShapes Go.WideShapes Go.ChangeAt Go.RowKit
open Go.CE
open Go.Eng (post_law)
theorem tcs_inv {z:Mem} {a:TT} {ts:List TT} {cs:List C} (h:TCs z (a::ts) cs):∃ c cs',cs=c::cs'∧TC z a c∧TCs z ts cs':=by
 cases h with
 | cons h t=>exact ⟨_,_,rfl,h,t⟩
theorem tcs_nil {z:Mem} {cs:List C} (h:TCs z [] cs):cs=[]:=by
 cases h;rfl
theorem of_u32 {z:Mem} {cs:List C} (h:TCs z [.i .u32] cs):∃ a,RW z cs a:=by
 obtain ⟨c0,t0,rfl,g0,h⟩:=tcs_inv h
 obtain rfl:=tcs_nil h
 obtain ⟨u,h1,h2⟩:=g0
 cases h1 with
 | i _ n hn =>
 cases h2 with
 | v _ =>
 have hr:0≤n∧n<4294967296:=by
  simp [Lit.wf,IntKind.min,IntKind.max,IntKind.bits,IntKind.signed] at hn
  omega
 refine ⟨UInt32.ofNat n.toNat,?_⟩
 show [C.v (.int .u32 n)]=[C.v (.int .u32 (((UInt32.ofNat n.toNat).toNat:Nat):Int))]
 rw [Go.Num.ofNat_toNat (by show _<4294967296;omega),Int.toNat_of_nonneg hr.1]
abbrev sh_rat:List TT:=[.b,.sl 1 [.i .u32],.b,.sl 1 [.i .u32]]
theorem of_rat {z:Mem} {cs:List C} (h:TCs z sh_rat cs):∃ a,RRat z cs a:=by
 obtain ⟨c0,t0,rfl,g0,h⟩:=tcs_inv h
 obtain ⟨c1,t1,rfl,g1,h⟩:=tcs_inv h
 obtain ⟨c2,t2,rfl,g2,h⟩:=tcs_inv h
 obtain ⟨c3,t3,rfl,g3,h⟩:=tcs_inv h
 obtain rfl:=tcs_nil h
 obtain ⟨b0,rfl⟩:=g0.b
 obtain ⟨b1,e1⟩:=g1.sl (R:=RW) rfl fun cs h=>of_u32 h
 obtain ⟨b2,rfl⟩:=g2.b
 obtain ⟨b3,e3⟩:=g3.sl (R:=RW) rfl fun cs h=>of_u32 h
 exact ⟨⟨b0,b1,b2,b3⟩,_,_,rfl,e1,e3⟩
theorem of_row {z:Mem} {cs:List C} (h:TCs z [.sl 4 sh_rat] cs):∃ a,RC 4 RRat z cs a:=by
 obtain ⟨c0,t0,rfl,g0,h⟩:=tcs_inv h
 obtain rfl:=tcs_nil h
 obtain ⟨b0,e0⟩:=g0.sl (R:=RRat) rfl fun cs h=>of_rat h
 exact ⟨b0,_,rfl,e0⟩
abbrev sh_en:List TT:=[.i .i64,.i .i64,.b,.sl 1 [.i .u32],.b,.sl 1 [.i .u32]]
theorem of_en {z:Mem} {cs:List C} (h:TCs z sh_en cs):∃ a,REn z cs a:=by
 obtain ⟨c0,t0,rfl,g0,h⟩:=tcs_inv h
 obtain ⟨c1,t1,rfl,g1,h⟩:=tcs_inv h
 obtain ⟨a,q0,q1,rfl,q2,q3⟩:=of_rat h
 obtain ⟨b0,rfl⟩:=g0.i
 obtain ⟨b1,rfl⟩:=g1.i
 exact ⟨⟨b0,b1,a⟩,_,_,rfl,q2,q3⟩
abbrev sh_cl:List TT:=[.s,.i .u8,.b,.sl 1 [.i .u32],.b,.sl 1 [.i .u32]]
theorem of_cl {z:Mem} {cs:List C} (h:TCs z sh_cl cs):∃ a,RClass z cs a:=by
 obtain ⟨c0,t0,rfl,g0,h⟩:=tcs_inv h
 obtain ⟨c1,t1,rfl,g1,h⟩:=tcs_inv h
 obtain ⟨a,q0,q1,rfl,q2,q3⟩:=of_rat h
 obtain ⟨b0,rfl⟩:=g0.s
 obtain ⟨b1,rfl⟩:=g1.i
 exact ⟨⟨b0,b1,a⟩,_,_,rfl,q2,q3⟩
theorem shT:TT.of Tryz.prog 20 24=some [.sl 1 [.sl 4 sh_rat]]:=by kernel_rfl
theorem shE:TT.of Tryz.prog 20 25=some [.sl 6 sh_en]:=by kernel_rfl
theorem shC:TT.of Tryz.prog 20 26=some [.sl 6 sh_cl]:=by kernel_rfl
theorem laidOut:laidOutB Tryz.prog=true:=by kernel_rfl
theorem cal3:Go.Eng.callable Tryz.prog 3=true:=by kernel_rfl
theorem fsz:Tryz.prog.funcs.size≤1000000:=Nat.le_of_ble_eq_true (by kernel_rfl)
theorem read3:(Tryz.f3.params.toList.all fun t=>Tryz.prog.readableRec t && decide (t<Tryz.prog.types.size))=true:=by kernel_rfl
theorem mixed3:Tryz.prog.follows .mixedOrders=true:=by kernel_rfl
theorem contract:Contract:=by
 intro H enc W base args ds gs before hval hW
 have hW':=hW
 obtain ⟨p,q,hA0,hV,rfl,hfz,hnd⟩:=hW
 have hA:DataW.TrodAll enc Tryz.prog W 0 (fun _=>true) true Tryz.f3.params.toList args.toList ds p:=hA0
 rw [Tryz.params3] at hA hval
 obtain ⟨v0,v1,v2,d0,d1,d2,p0,p1,p2,rfl,rfl,rfl,h0,h1,h2⟩:=trodAll_three hA
 obtain ⟨rfl,rfl⟩:=trodVars_none hV
 obtain ⟨x0,rfl,s0⟩:=okWide_struct Tryz.underlying24 (hval 0 24 v0 rfl rfl)
 obtain ⟨x1,x5,x6,rfl⟩:=okWide_slice Tryz.underlying25 (hval 1 25 v1 rfl rfl)
 obtain ⟨x2,x3,x4,rfl⟩:=okWide_slice Tryz.underlying26 (hval 2 26 v2 rfl rfl)
 clear hA0 hA
 simp only [List.append_nil] at hW'
 obtain ⟨n0,f0⟩:=h0
 obtain ⟨n1,f1⟩:=h1
 obtain ⟨n2,f2⟩:=h2
 obtain ⟨us0,a0⟩:=trod_tree 20 n0 shT f0
 obtain ⟨us1,a1⟩:=trod_tree 20 n1 shE f1
 obtain ⟨us2,a2⟩:=trod_tree 20 n2 shC f2
 obtain ⟨cs0,t1,ρ1,m1,e1,l1,k1,z1,c1,g1,r1⟩:=en_trees (K:=fun b=>b<W.heap.size) (fun b h=>h) a0 .nil (fun _=>none) 0 (en_nil W) (fun _=>Iff.rfl)
 obtain ⟨cs1,t2,ρ2,m2,e2,l2,k2,z2,c2,g2,r2⟩:=en_trees (K:=fun b=>b<W.heap.size) (fun b h=>h) a1 t1 ρ1 m1 e1 (fun _=>Iff.rfl)
 obtain ⟨cs2,t3,ρ3,m3,e3,l3,k3,z3,c3,g3,r3⟩:=en_trees (K:=fun b=>b<W.heap.size) (fun b h=>h) a2 t2 ρ2 m2 e2 (fun _=>Iff.rfl)
 obtain ⟨c0,u0,rfl,g5,h⟩:=tcs_inv g1
 obtain rfl:=tcs_nil h
 obtain ⟨tb,hx⟩:=g5.sl (R:=RC 4 RRat) rfl fun cs h=>of_row h
 obtain ⟨d1',u1,rfl,g6,h⟩:=tcs_inv g2
 obtain rfl:=tcs_nil h
 obtain ⟨en,he⟩:=g6.sl (R:=REn) rfl fun cs h=>of_en h
 obtain ⟨d2',u2,rfl,g7,h⟩:=tcs_inv g3
 obtain rfl:=tcs_nil h
 obtain ⟨cl,hc⟩:=g7.sl (R:=RClass) rfl fun cs h=>of_cl h
 refine (law_of (args:=[.agg [c0],.c d1',.c d2']) (evF_cs mixed3 tS_ok tS_rg fsz hS_ok K0 60) cal3 e3 (c_law21_ElimApplies (k:=60) (t:=tb) (l:=en) (cs:=cl) (by omega) ((hx.mono z2).mono z3) (he.mono z3) hc) rfl (fun k v hk=>?_)).mono fun e W' ⟨he,hb⟩=>?_
 ·match k,hk with
  | 0,hk=>injection hk with hk;subst hk;exact agg_rep c1 fun i c h=>by obtain ⟨x,h1,h2⟩:=r1 i c h;exact ⟨x,h1,(h2.mono l2).mono l3⟩
  | 1,hk =>
   injection hk with hk;subst hk
   obtain ⟨y,g3,g4⟩:=r2 0 _ rfl
   have e3:y=.slice x1 x5 x6:=(Option.some.inj g3).symm
   subst e3
   exact .c _ _ (g4.mono l3)
  | 2,hk =>
   injection hk with hk;subst hk
   obtain ⟨y,g3,g4⟩:=r3 0 _ rfl
   have e3:y=.slice x2 x3 x4:=(Option.some.inj g3).symm
   subst e3
   exact .c _ _ g4
 exact ⟨_,he,post_law (tb:=4) rfl rfl (by kernel_rfl) Tryz.underlying4 laidOut read3 hW' hb⟩
theorem elimApplies_holds:Rows.ElimAppliesSaid:=said contract
end Go.Proofs.YtlceligcgelbdaaGreat
