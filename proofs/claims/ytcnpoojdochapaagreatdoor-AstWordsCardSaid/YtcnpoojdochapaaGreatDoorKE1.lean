/- What a filing's cells are. -/
import Derived.WalkKit
import Derived.Orders
import Derived.Test.YtcnpoojdochapaaGreatDoorKC0
import Derived.Test.YtcnpoojdochapaaGreatDoorKE0
set_option linter.unusedVariables false
namespace Go.Proofs.YtcnpoojdochapaaGreatDoor
open Go.CE Go.RowKit
theorem tcs_inv {z:Mem} {a:TT} {as:List TT} {cs:List C} (h:TCs z (a::as) cs):∃ c cs',cs=c::cs'∧TC z a c∧TCs z as cs':=by
 cases h with
 | cons h t=>exact ⟨_,_,rfl,h,t⟩
theorem tcs_nil {z:Mem} {cs:List C} (h:TCs z [] cs):cs=[]:=by
 cases h;rfl
abbrev sh_u32:List TT:=[.i .u32]
abbrev sh_str:List TT:=[.s]
theorem tc_iw {z:Mem} {k:IntKind} {c:C} (h:TC z (.i k) c):∃ n:Int,(Lit.int k n).wf=true∧c=.v (.int k n):=by
 obtain ⟨u,h1,h2⟩:=h
 cases h1 with
 | i _ n hn =>
  cases h2 with
  | v _=>exact ⟨n,hn,rfl⟩
theorem of_u32 {z:Mem} {cs:List C} (h:TCs z sh_u32 cs):∃ a,RW z cs a:=by
 obtain ⟨c0,t0,rfl,g0,h⟩:=tcs_inv h
 obtain rfl:=tcs_nil h
 obtain ⟨n,hn,rfl⟩:=tc_iw g0
 have hr:0≤n∧n<4294967296:=by
  simp [Lit.wf,IntKind.min,IntKind.max,IntKind.bits,IntKind.signed] at hn
  omega
 refine ⟨UInt32.ofNat n.toNat,?_⟩
 show [C.v (.int .u32 n)]=[C.v (.int .u32 (((UInt32.ofNat n.toNat).toNat:Nat):Int))]
 rw [Go.Num.ofNat_toNat (by show _<4294967296;omega),Int.toNat_of_nonneg hr.1]
theorem of_str {z:Mem} {cs:List C} (h:TCs z sh_str cs):∃ a,RS z cs a:=by
 obtain ⟨c0,t0,rfl,g0,h⟩:=tcs_inv h
 obtain rfl:=tcs_nil h
 obtain ⟨b0,rfl⟩:=g0.s
 exact ⟨b0,rfl⟩
abbrev sh_rat:List TT:=[.b,.sl 1 sh_u32,.b,.sl 1 sh_u32]
theorem of_rat {z:Mem} {cs:List C} (h:TCs z sh_rat cs):∃ a,RRat z cs a:=by
 obtain ⟨c0,t0,rfl,g0,h⟩:=tcs_inv h
 obtain ⟨c1,t1,rfl,g1,h⟩:=tcs_inv h
 obtain ⟨c2,t2,rfl,g2,h⟩:=tcs_inv h
 obtain ⟨c3,t3,rfl,g3,h⟩:=tcs_inv h
 obtain rfl:=tcs_nil h
 obtain ⟨b0,rfl⟩:=g0.b
 obtain ⟨b1,e1⟩:=g1.sl (R:=RW) rfl fun cs h=>of_u32 h
 obtain ⟨b2,rfl⟩:=g2.b
 obtain ⟨b3,e3⟩:=g3.sl (R:=RW) rfl fun cs h=>of_u32 h
 exact ⟨⟨b0,b1,b2,b3⟩,_,_,rfl,e1,e3⟩
end Go.Proofs.YtcnpoojdochapaaGreatDoor
