/- PairsBoth holds: of any pairs it is told alike whether both are members, and whether they are the same. Of all pairs and members. -/
import Derived.ProofKit
import Derived.WalkKit
import Derived.Orders
import Derived.Test.YtlceligcgelbdaaGreatBD5
import Derived.Test.YtlceligcgelbdaaGreatBE0
import Derived.Test.YtlceligcgelbdaaGreatBE5
import Derived.Test.YtlceligcgelbdaaGreatBE2
set_option linter.unusedVariables false
set_option maxRecDepth 100000
namespace Go.Proofs.YtlceligcgelbdaaGreat
open Go.ChangeShapes Go.WideShapes Go.ChangeAt Go.RowKit
open Go.CE
open Go.Eng (post_law)
theorem tcs_inv {z:Mem} {a:TT} {ts:List TT} {cs:List C} (h:TCs z (a::ts) cs):∃ c cs',cs=c::cs'∧TC z a c∧TCs z ts cs':=by
 cases h with
 | cons h t=>exact ⟨_,_,rfl,h,t⟩
theorem tcs_nil {z:Mem} {cs:List C} (h:TCs z [] cs):cs=[]:=by
 cases h;rfl
theorem of_u32 {z:Mem} {cs:List C} (h:TCs z [.i .u32] cs):∃ a,RW z cs a:=by
 obtain ⟨c0,t0,rfl,g0,h⟩:=tcs_inv h
 obtain rfl:=tcs_nil h
 obtain ⟨u,h1,h2⟩:=g0
 cases h1 with
 | i _ n hn =>
 cases h2 with
 | v _ =>
 have hr:0≤n∧n<4294967296:=by
  simp [Lit.wf,IntKind.min,IntKind.max,IntKind.bits,IntKind.signed] at hn
  omega
 refine ⟨UInt32.ofNat n.toNat,?_⟩
 show [C.v (.int .u32 n)]=[C.v (.int .u32 (((UInt32.ofNat n.toNat).toNat:Nat):Int))]
 rw [Go.Num.ofNat_toNat (by show _<4294967296;omega),Int.toNat_of_nonneg hr.1]
theorem of_bl {z:Mem} {cs:List C} (h:TCs z [.b] cs):∃ a,RE Value.bool z cs a:=by
 obtain ⟨c0,t0,rfl,g0,h⟩:=tcs_inv h
 obtain rfl:=tcs_nil h
 obtain ⟨b,rfl⟩:=g0.b
 exact ⟨b,rfl⟩
abbrev sh_pair:List TT:=[.s,.i .u8,.i .i64,.i .i64,.i .i64,.i .i64,.b,.sl 1 [.i .u32],.b,.sl 1 [.i .u32]]
theorem of_pair {z:Mem} {cs:List C} (h:TCs z sh_pair cs):∃ (s:List UInt8) (k p q i o:Int) (n m:Bool) (c d:C) (l r:List UInt32),cs=[.v (.string (bs s)),.v (.int .u8 k),.v (.int .i64 p),.v (.int .i64 q),.v (.int .i64 i),.v (.int .i64 o),.v (.bool n),c,.v (.bool m),d]∧CZ 1 RW z c l∧CZ 1 RW z d r:=by
 obtain ⟨c0,t0,rfl,g0,h⟩:=tcs_inv h
 obtain ⟨c1,t1,rfl,g1,h⟩:=tcs_inv h
 obtain ⟨c2,t2,rfl,g2,h⟩:=tcs_inv h
 obtain ⟨c3,t3,rfl,g3,h⟩:=tcs_inv h
 obtain ⟨c4,t4,rfl,g4,h⟩:=tcs_inv h
 obtain ⟨c5,t5,rfl,g5,h⟩:=tcs_inv h
 obtain ⟨c6,t6,rfl,g6,h⟩:=tcs_inv h
 obtain ⟨c7,t7,rfl,g7,h⟩:=tcs_inv h
 obtain ⟨c8,t8,rfl,g8,h⟩:=tcs_inv h
 obtain ⟨c9,t9,rfl,g9,h⟩:=tcs_inv h
 obtain rfl:=tcs_nil h
 obtain ⟨b0,rfl⟩:=g0.s
 obtain ⟨b1,rfl⟩:=g1.i
 obtain ⟨b2,rfl⟩:=g2.i
 obtain ⟨b3,rfl⟩:=g3.i
 obtain ⟨b4,rfl⟩:=g4.i
 obtain ⟨b5,rfl⟩:=g5.i
 obtain ⟨b6,rfl⟩:=g6.b
 obtain ⟨b7,e7⟩:=g7.sl (R:=RW) rfl fun cs h=>of_u32 h
 obtain ⟨b8,rfl⟩:=g8.b
 obtain ⟨b9,e9⟩:=g9.sl (R:=RW) rfl fun cs h=>of_u32 h
 exact ⟨b0.data.toList,b1,b2,b3,b4,b5,b6,b8,_,_,b7,b9,by rw [bs_of],e7,e9⟩
theorem shP:TT.of Tryz.prog 20 116=some sh_pair:=by kernel_rfl
theorem shM:TT.of Tryz.prog 20 94=some [.sl 1 [.b]]:=by kernel_rfl
theorem laidOut:laidOutB Tryz.prog=true:=by kernel_rfl
theorem cal8:Go.Eng.callable Tryz.prog 8=true:=by kernel_rfl
theorem read8:(Tryz.f8.params.toList.all fun t=>Tryz.prog.readableRec t && decide (t<Tryz.prog.types.size))=true:=by kernel_rfl
theorem contract:Contract:=by
 intro H enc W base args ds gs before hval hW
 have hW':=hW
 obtain ⟨p,q,hA0,hV,rfl,hfz,hnd⟩:=hW
 have hA:DataW.TrodAll enc Tryz.prog W 0 (fun _=>true) true Tryz.f8.params.toList args.toList ds p:=hA0
 rw [Tryz.params8] at hA hval
 obtain ⟨v0,v1,v2,d0,d1,d2,p0,p1,p2,rfl,rfl,rfl,h0,h1,h2⟩:=trodAll_three hA
 obtain ⟨rfl,rfl⟩:=trodVars_none hV
 obtain ⟨x0,rfl,s0⟩:=okWide_struct Tryz.underlying116 (hval 0 116 v0 rfl rfl)
 obtain ⟨x1,rfl,s1⟩:=okWide_struct Tryz.underlying116 (hval 1 116 v1 rfl rfl)
 obtain ⟨x2,x3,x4,rfl⟩:=okWide_slice Tryz.underlying94 (hval 2 94 v2 rfl rfl)
 clear hA0 hA
 simp only [List.append_nil] at hW'
 obtain ⟨n0,f0⟩:=h0
 obtain ⟨n1,f1⟩:=h1
 obtain ⟨n2,f2⟩:=h2
 obtain ⟨us0,a0⟩:=trod_tree 20 n0 shP f0
 obtain ⟨us1,a1⟩:=trod_tree 20 n1 shP f1
 obtain ⟨us2,a2⟩:=trod_tree 20 n2 shM f2
 obtain ⟨cs0,t1,ρ1,m1,e1,l1,k1,z1,c1,g1,r1⟩:=en_trees (K:=fun b=>b<W.heap.size) (fun b h=>h) a0 .nil (fun _=>none) 0 (en_nil W) (fun _=>Iff.rfl)
 obtain ⟨cs1,t2,ρ2,m2,e2,l2,k2,z2,c2,g2,r2⟩:=en_trees (K:=fun b=>b<W.heap.size) (fun b h=>h) a1 t1 ρ1 m1 e1 (fun _=>Iff.rfl)
 obtain ⟨cs2,t3,ρ3,m3,e3,l3,k3,z3,c3,g3,r3⟩:=en_trees (K:=fun b=>b<W.heap.size) (fun b h=>h) a2 t2 ρ2 m2 e2 (fun _=>Iff.rfl)
 obtain ⟨s1,k1',p1',q1,i1,o1,n1',m1',c1',d1',l1',r1',rfl,hx1,hy1⟩:=of_pair g1
 obtain ⟨s2,k2',p2',q2,i2,o2,n2',m2',c2',d2',l2',r2',rfl,hx2,hy2⟩:=of_pair g2
 obtain ⟨c0,t0,rfl,g5,h⟩:=tcs_inv g3
 obtain rfl:=tcs_nil h
 obtain ⟨ms,hv⟩:=g5.sl (R:=RE Value.bool) rfl fun cs h=>of_bl h
 refine (law_of (args:=[.agg _,.agg _,.c c0]) (evF_sound mixed tS_ok hS_ok K0 40) cal8 e3 (c_law20_PairsBoth (k:=40) (s1:=s1) (k1:=k1') (p1:=p1') (q1:=q1) (i1:=i1) (o1:=o1) (n1:=n1') (m1:=m1') (s2:=s2) (k2:=k2') (p2:=p2') (q2:=q2) (i2:=i2) (o2:=o2) (n2:=n2') (m2:=m2') (by omega) ((hx1.mono z2).mono z3) ((hy1.mono z2).mono z3) (hx2.mono z3) (hy2.mono z3) hv) rfl (fun k v hk=>?_)).mono fun e W' ⟨he,hb⟩=>?_
 ·match k,hk with
  | 0,hk=>injection hk with hk;subst hk;exact agg_rep c1 fun i c h=>by obtain ⟨x,h1,h2⟩:=r1 i c h;exact ⟨x,h1,(h2.mono l2).mono l3⟩
  | 1,hk=>injection hk with hk;subst hk;exact agg_rep c2 fun i c h=>by obtain ⟨x,h1,h2⟩:=r2 i c h;exact ⟨x,h1,h2.mono l3⟩
  | 2,hk =>
   injection hk with hk;subst hk
   obtain ⟨y,g3,g4⟩:=r3 0 _ rfl
   have e3:y=.slice x2 x3 x4:=(Option.some.inj g3).symm
   subst e3
   exact .c _ _ g4
 exact ⟨_,he,post_law (tb:=4) rfl rfl (by kernel_rfl) Tryz.underlying4 laidOut read8 hW' hb⟩
theorem pairsBoth_holds:Rows.PairsBothSaid:=said contract
end Go.Proofs.YtlceligcgelbdaaGreat
