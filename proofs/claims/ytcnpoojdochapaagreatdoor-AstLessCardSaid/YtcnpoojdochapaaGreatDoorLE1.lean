/- What a filing's cells are. -/
import Derived.WalkKit
import Derived.Orders
import Derived.Test.YtcnpoojdochapaaGreatDoorLC0
import Derived.Test.YtcnpoojdochapaaGreatDoorLE0
set_option linter.unusedVariables false
namespace Go.Proofs.YtcnpoojdochapaaGreatDoor
open Go.CE Go.RowKit
theorem tcs_inv {z:Mem} {a:TT} {as:List TT} {cs:List C} (h:TCs z (a::as) cs):∃ c cs',cs=c::cs'∧TC z a c∧TCs z as cs':=by
 cases h with
 | cons h t=>exact ⟨_,_,rfl,h,t⟩
theorem tcs_nil {z:Mem} {cs:List C} (h:TCs z [] cs):cs=[]:=by
 cases h;rfl
abbrev sh_u32:List TT:=[.i .u32]
abbrev sh_str:List TT:=[.s]
theorem tc_iw {z:Mem} {k:IntKind} {c:C} (h:TC z (.i k) c):∃ n:Int,(Lit.int k n).wf=true∧c=.v (.int k n):=by
 obtain ⟨u,h1,h2⟩:=h
 cases h1 with
 | i _ n hn =>
  cases h2 with
  | v _=>exact ⟨n,hn,rfl⟩
theorem of_u32 {z:Mem} {cs:List C} (h:TCs z sh_u32 cs):∃ a,RW z cs a:=by
 obtain ⟨c0,t0,rfl,g0,h⟩:=tcs_inv h
 obtain rfl:=tcs_nil h
 obtain ⟨n,hn,rfl⟩:=tc_iw g0
 have hr:0≤n∧n<4294967296:=by
  simp [Lit.wf,IntKind.min,IntKind.max,IntKind.bits,IntKind.signed] at hn
  omega
 refine ⟨UInt32.ofNat n.toNat,?_⟩
 show [C.v (.int .u32 n)]=[C.v (.int .u32 (((UInt32.ofNat n.toNat).toNat:Nat):Int))]
 rw [Go.Num.ofNat_toNat (by show _<4294967296;omega),Int.toNat_of_nonneg hr.1]
theorem of_str {z:Mem} {cs:List C} (h:TCs z sh_str cs):∃ a,RS z cs a:=by
 obtain ⟨c0,t0,rfl,g0,h⟩:=tcs_inv h
 obtain rfl:=tcs_nil h
 obtain ⟨b0,rfl⟩:=g0.s
 exact ⟨b0,rfl⟩
abbrev sh_bracket:List TT:=[.b,.sl 1 sh_u32,.b,.sl 1 sh_u32,.b,.sl 1 sh_u32,.b,.sl 1 sh_u32]
theorem of_bracket {z:Mem} {cs:List C} (h:TCs z sh_bracket cs):∃ a,RBracket z cs a:=by
 obtain ⟨c0,t0,rfl,g0,h⟩:=tcs_inv h
 obtain ⟨c1,t1,rfl,g1,h⟩:=tcs_inv h
 obtain ⟨c2,t2,rfl,g2,h⟩:=tcs_inv h
 obtain ⟨c3,t3,rfl,g3,h⟩:=tcs_inv h
 obtain ⟨c4,t4,rfl,g4,h⟩:=tcs_inv h
 obtain ⟨c5,t5,rfl,g5,h⟩:=tcs_inv h
 obtain ⟨c6,t6,rfl,g6,h⟩:=tcs_inv h
 obtain ⟨c7,t7,rfl,g7,h⟩:=tcs_inv h
 obtain rfl:=tcs_nil h
 obtain ⟨b0,rfl⟩:=g0.b
 obtain ⟨b1,e1⟩:=g1.sl (R:=RW) rfl fun cs h=>of_u32 h
 obtain ⟨b2,rfl⟩:=g2.b
 obtain ⟨b3,e3⟩:=g3.sl (R:=RW) rfl fun cs h=>of_u32 h
 obtain ⟨b4,rfl⟩:=g4.b
 obtain ⟨b5,e5⟩:=g5.sl (R:=RW) rfl fun cs h=>of_u32 h
 obtain ⟨b6,rfl⟩:=g6.b
 obtain ⟨b7,e7⟩:=g7.sl (R:=RW) rfl fun cs h=>of_u32 h
 exact ⟨⟨⟨b0,b1,b2,b3⟩,⟨b4,b5,b6,b7⟩⟩,_,_,_,_,rfl,e1,e3,e5,e7⟩
abbrev sh_class:List TT:=[.s,.i .u8,.b,.sl 1 sh_u32,.b,.sl 1 sh_u32]
theorem of_class {z:Mem} {cs:List C} (h:TCs z sh_class cs):∃ a,RClass z cs a:=by
 obtain ⟨c0,t0,rfl,g0,h⟩:=tcs_inv h
 obtain ⟨c1,t1,rfl,g1,h⟩:=tcs_inv h
 obtain ⟨c2,t2,rfl,g2,h⟩:=tcs_inv h
 obtain ⟨c3,t3,rfl,g3,h⟩:=tcs_inv h
 obtain ⟨c4,t4,rfl,g4,h⟩:=tcs_inv h
 obtain ⟨c5,t5,rfl,g5,h⟩:=tcs_inv h
 obtain rfl:=tcs_nil h
 obtain ⟨b0,rfl⟩:=g0.s
 obtain ⟨b1,rfl⟩:=g1.i
 obtain ⟨b2,rfl⟩:=g2.b
 obtain ⟨b3,e3⟩:=g3.sl (R:=RW) rfl fun cs h=>of_u32 h
 obtain ⟨b4,rfl⟩:=g4.b
 obtain ⟨b5,e5⟩:=g5.sl (R:=RW) rfl fun cs h=>of_u32 h
 exact ⟨⟨b0,b1,⟨b2,b3,b4,b5⟩⟩,_,_,rfl,e3,e5⟩
abbrev sh_hold:List TT:=[.s,.s,.b,.sl 1 sh_u32,.b,.sl 1 sh_u32]
theorem of_hold {z:Mem} {cs:List C} (h:TCs z sh_hold cs):∃ a,RHold z cs a:=by
 obtain ⟨c0,t0,rfl,g0,h⟩:=tcs_inv h
 obtain ⟨c1,t1,rfl,g1,h⟩:=tcs_inv h
 obtain ⟨c2,t2,rfl,g2,h⟩:=tcs_inv h
 obtain ⟨c3,t3,rfl,g3,h⟩:=tcs_inv h
 obtain ⟨c4,t4,rfl,g4,h⟩:=tcs_inv h
 obtain ⟨c5,t5,rfl,g5,h⟩:=tcs_inv h
 obtain rfl:=tcs_nil h
 obtain ⟨b0,rfl⟩:=g0.s
 obtain ⟨b1,rfl⟩:=g1.s
 obtain ⟨b2,rfl⟩:=g2.b
 obtain ⟨b3,e3⟩:=g3.sl (R:=RW) rfl fun cs h=>of_u32 h
 obtain ⟨b4,rfl⟩:=g4.b
 obtain ⟨b5,e5⟩:=g5.sl (R:=RW) rfl fun cs h=>of_u32 h
 exact ⟨⟨b0,b1,⟨b2,b3,b4,b5⟩⟩,_,_,rfl,e3,e5⟩
abbrev sh_book:List TT:=[.s,.s,.b,.sl 1 sh_u32,.b,.sl 1 sh_u32]
theorem of_book {z:Mem} {cs:List C} (h:TCs z sh_book cs):∃ a,RBook z cs a:=by
 obtain ⟨c0,t0,rfl,g0,h⟩:=tcs_inv h
 obtain ⟨c1,t1,rfl,g1,h⟩:=tcs_inv h
 obtain ⟨c2,t2,rfl,g2,h⟩:=tcs_inv h
 obtain ⟨c3,t3,rfl,g3,h⟩:=tcs_inv h
 obtain ⟨c4,t4,rfl,g4,h⟩:=tcs_inv h
 obtain ⟨c5,t5,rfl,g5,h⟩:=tcs_inv h
 obtain rfl:=tcs_nil h
 obtain ⟨b0,rfl⟩:=g0.s
 obtain ⟨b1,rfl⟩:=g1.s
 obtain ⟨b2,rfl⟩:=g2.b
 obtain ⟨b3,e3⟩:=g3.sl (R:=RW) rfl fun cs h=>of_u32 h
 obtain ⟨b4,rfl⟩:=g4.b
 obtain ⟨b5,e5⟩:=g5.sl (R:=RW) rfl fun cs h=>of_u32 h
 exact ⟨⟨b0,b1,⟨b2,b3,b4,b5⟩⟩,_,_,rfl,e3,e5⟩
abbrev sh_deal:List TT:=[.b,.s,.i .u8,.s,.s,.s,.b,.sl 1 sh_u32,.b,.sl 1 sh_u32]
theorem of_deal {z:Mem} {cs:List C} (h:TCs z sh_deal cs):∃ a,RDeal z cs a:=by
 obtain ⟨c0,t0,rfl,g0,h⟩:=tcs_inv h
 obtain ⟨c1,t1,rfl,g1,h⟩:=tcs_inv h
 obtain ⟨c2,t2,rfl,g2,h⟩:=tcs_inv h
 obtain ⟨c3,t3,rfl,g3,h⟩:=tcs_inv h
 obtain ⟨c4,t4,rfl,g4,h⟩:=tcs_inv h
 obtain ⟨c5,t5,rfl,g5,h⟩:=tcs_inv h
 obtain ⟨c6,t6,rfl,g6,h⟩:=tcs_inv h
 obtain ⟨c7,t7,rfl,g7,h⟩:=tcs_inv h
 obtain ⟨c8,t8,rfl,g8,h⟩:=tcs_inv h
 obtain ⟨c9,t9,rfl,g9,h⟩:=tcs_inv h
 obtain rfl:=tcs_nil h
 obtain ⟨b0,rfl⟩:=g0.b
 obtain ⟨b1,rfl⟩:=g1.s
 obtain ⟨b2,rfl⟩:=g2.i
 obtain ⟨b3,rfl⟩:=g3.s
 obtain ⟨b4,rfl⟩:=g4.s
 obtain ⟨b5,rfl⟩:=g5.s
 obtain ⟨b6,rfl⟩:=g6.b
 obtain ⟨b7,e7⟩:=g7.sl (R:=RW) rfl fun cs h=>of_u32 h
 obtain ⟨b8,rfl⟩:=g8.b
 obtain ⟨b9,e9⟩:=g9.sl (R:=RW) rfl fun cs h=>of_u32 h
 exact ⟨⟨b0,b1,b2,b3,b4,b5,⟨b6,b7,b8,b9⟩⟩,_,_,rfl,e7,e9⟩
abbrev sh_stock:List TT:=[.s,.b,.sl 1 sh_u32,.b,.sl 1 sh_u32,.b,.sl 1 sh_u32,.b,.sl 1 sh_u32]
theorem of_stock {z:Mem} {cs:List C} (h:TCs z sh_stock cs):∃ a,RStock z cs a:=by
 obtain ⟨c0,t0,rfl,g0,h⟩:=tcs_inv h
 obtain ⟨c1,t1,rfl,g1,h⟩:=tcs_inv h
 obtain ⟨c2,t2,rfl,g2,h⟩:=tcs_inv h
 obtain ⟨c3,t3,rfl,g3,h⟩:=tcs_inv h
 obtain ⟨c4,t4,rfl,g4,h⟩:=tcs_inv h
 obtain ⟨c5,t5,rfl,g5,h⟩:=tcs_inv h
 obtain ⟨c6,t6,rfl,g6,h⟩:=tcs_inv h
 obtain ⟨c7,t7,rfl,g7,h⟩:=tcs_inv h
 obtain ⟨c8,t8,rfl,g8,h⟩:=tcs_inv h
 obtain rfl:=tcs_nil h
 obtain ⟨b0,rfl⟩:=g0.s
 obtain ⟨b1,rfl⟩:=g1.b
 obtain ⟨b2,e2⟩:=g2.sl (R:=RW) rfl fun cs h=>of_u32 h
 obtain ⟨b3,rfl⟩:=g3.b
 obtain ⟨b4,e4⟩:=g4.sl (R:=RW) rfl fun cs h=>of_u32 h
 obtain ⟨b5,rfl⟩:=g5.b
 obtain ⟨b6,e6⟩:=g6.sl (R:=RW) rfl fun cs h=>of_u32 h
 obtain ⟨b7,rfl⟩:=g7.b
 obtain ⟨b8,e8⟩:=g8.sl (R:=RW) rfl fun cs h=>of_u32 h
 exact ⟨⟨b0,⟨b1,b2,b3,b4⟩,⟨b5,b6,b7,b8⟩⟩,_,_,_,_,rfl,e2,e4,e6,e8⟩
abbrev sh_sold:List TT:=[.s,.b,.sl 1 sh_u32,.b,.sl 1 sh_u32]
theorem of_sold {z:Mem} {cs:List C} (h:TCs z sh_sold cs):∃ a,RSold z cs a:=by
 obtain ⟨c0,t0,rfl,g0,h⟩:=tcs_inv h
 obtain ⟨c1,t1,rfl,g1,h⟩:=tcs_inv h
 obtain ⟨c2,t2,rfl,g2,h⟩:=tcs_inv h
 obtain ⟨c3,t3,rfl,g3,h⟩:=tcs_inv h
 obtain ⟨c4,t4,rfl,g4,h⟩:=tcs_inv h
 obtain rfl:=tcs_nil h
 obtain ⟨b0,rfl⟩:=g0.s
 obtain ⟨b1,rfl⟩:=g1.b
 obtain ⟨b2,e2⟩:=g2.sl (R:=RW) rfl fun cs h=>of_u32 h
 obtain ⟨b3,rfl⟩:=g3.b
 obtain ⟨b4,e4⟩:=g4.sl (R:=RW) rfl fun cs h=>of_u32 h
 exact ⟨⟨b0,⟨b1,b2,b3,b4⟩⟩,_,_,rfl,e2,e4⟩
abbrev sh_year:List TT:=[.i .i64,.sl 6 sh_hold,.sl 6 sh_book,.sl 10 sh_deal,.sl 9 sh_stock,.sl 5 sh_sold]
theorem of_year {z:Mem} {cs:List C} (h:TCs z sh_year cs):∃ a,RYear z cs a:=by
 obtain ⟨c0,t0,rfl,g0,h⟩:=tcs_inv h
 obtain ⟨c1,t1,rfl,g1,h⟩:=tcs_inv h
 obtain ⟨c2,t2,rfl,g2,h⟩:=tcs_inv h
 obtain ⟨c3,t3,rfl,g3,h⟩:=tcs_inv h
 obtain ⟨c4,t4,rfl,g4,h⟩:=tcs_inv h
 obtain ⟨c5,t5,rfl,g5,h⟩:=tcs_inv h
 obtain rfl:=tcs_nil h
 obtain ⟨b0,rfl⟩:=g0.i
 obtain ⟨b1,e1⟩:=g1.sl (R:=RHold) rfl fun cs h=>of_hold h
 obtain ⟨b2,e2⟩:=g2.sl (R:=RBook) rfl fun cs h=>of_book h
 obtain ⟨b3,e3⟩:=g3.sl (R:=RDeal) rfl fun cs h=>of_deal h
 obtain ⟨b4,e4⟩:=g4.sl (R:=RStock) rfl fun cs h=>of_stock h
 obtain ⟨b5,e5⟩:=g5.sl (R:=RSold) rfl fun cs h=>of_sold h
 exact ⟨⟨b0,b1,b2,b3,b4,b5⟩,_,_,_,_,_,rfl,e1,e2,e3,e4,e5⟩
abbrev sh_filing:List TT:=[.s,.s,.sl 8 sh_bracket,.b,.sl 1 sh_u32,.b,.sl 1 sh_u32,.b,.sl 1 sh_u32,.b,.sl 1 sh_u32,.i .i64,.i .i64,.b,.sl 1 sh_u32,.b,.sl 1 sh_u32,.b,.sl 1 sh_u32,.b,.sl 1 sh_u32,.i .i64,.sl 6 sh_class,.sl 1 sh_str,.sl 6 sh_year]
theorem of_filing {z:Mem} {cs:List C} (h:TCs z sh_filing cs):∃ a,RFiling z cs a:=by
 obtain ⟨c0,t0,rfl,g0,h⟩:=tcs_inv h
 obtain ⟨c1,t1,rfl,g1,h⟩:=tcs_inv h
 obtain ⟨c2,t2,rfl,g2,h⟩:=tcs_inv h
 obtain ⟨c3,t3,rfl,g3,h⟩:=tcs_inv h
 obtain ⟨c4,t4,rfl,g4,h⟩:=tcs_inv h
 obtain ⟨c5,t5,rfl,g5,h⟩:=tcs_inv h
 obtain ⟨c6,t6,rfl,g6,h⟩:=tcs_inv h
 obtain ⟨c7,t7,rfl,g7,h⟩:=tcs_inv h
 obtain ⟨c8,t8,rfl,g8,h⟩:=tcs_inv h
 obtain ⟨c9,t9,rfl,g9,h⟩:=tcs_inv h
 obtain ⟨c10,t10,rfl,g10,h⟩:=tcs_inv h
 obtain ⟨c11,t11,rfl,g11,h⟩:=tcs_inv h
 obtain ⟨c12,t12,rfl,g12,h⟩:=tcs_inv h
 obtain ⟨c13,t13,rfl,g13,h⟩:=tcs_inv h
 obtain ⟨c14,t14,rfl,g14,h⟩:=tcs_inv h
 obtain ⟨c15,t15,rfl,g15,h⟩:=tcs_inv h
 obtain ⟨c16,t16,rfl,g16,h⟩:=tcs_inv h
 obtain ⟨c17,t17,rfl,g17,h⟩:=tcs_inv h
 obtain ⟨c18,t18,rfl,g18,h⟩:=tcs_inv h
 obtain ⟨c19,t19,rfl,g19,h⟩:=tcs_inv h
 obtain ⟨c20,t20,rfl,g20,h⟩:=tcs_inv h
 obtain ⟨c21,t21,rfl,g21,h⟩:=tcs_inv h
 obtain ⟨c22,t22,rfl,g22,h⟩:=tcs_inv h
 obtain ⟨c23,t23,rfl,g23,h⟩:=tcs_inv h
 obtain ⟨c24,t24,rfl,g24,h⟩:=tcs_inv h
 obtain rfl:=tcs_nil h
 obtain ⟨b0,rfl⟩:=g0.s
 obtain ⟨b1,rfl⟩:=g1.s
 obtain ⟨b2,e2⟩:=g2.sl (R:=RBracket) rfl fun cs h=>of_bracket h
 obtain ⟨b3,rfl⟩:=g3.b
 obtain ⟨b4,e4⟩:=g4.sl (R:=RW) rfl fun cs h=>of_u32 h
 obtain ⟨b5,rfl⟩:=g5.b
 obtain ⟨b6,e6⟩:=g6.sl (R:=RW) rfl fun cs h=>of_u32 h
 obtain ⟨b7,rfl⟩:=g7.b
 obtain ⟨b8,e8⟩:=g8.sl (R:=RW) rfl fun cs h=>of_u32 h
 obtain ⟨b9,rfl⟩:=g9.b
 obtain ⟨b10,e10⟩:=g10.sl (R:=RW) rfl fun cs h=>of_u32 h
 obtain ⟨b11,rfl⟩:=g11.i
 obtain ⟨b12,rfl⟩:=g12.i
 obtain ⟨b13,rfl⟩:=g13.b
 obtain ⟨b14,e14⟩:=g14.sl (R:=RW) rfl fun cs h=>of_u32 h
 obtain ⟨b15,rfl⟩:=g15.b
 obtain ⟨b16,e16⟩:=g16.sl (R:=RW) rfl fun cs h=>of_u32 h
 obtain ⟨b17,rfl⟩:=g17.b
 obtain ⟨b18,e18⟩:=g18.sl (R:=RW) rfl fun cs h=>of_u32 h
 obtain ⟨b19,rfl⟩:=g19.b
 obtain ⟨b20,e20⟩:=g20.sl (R:=RW) rfl fun cs h=>of_u32 h
 obtain ⟨b21,rfl⟩:=g21.i
 obtain ⟨b22,e22⟩:=g22.sl (R:=RClass) rfl fun cs h=>of_class h
 obtain ⟨b23,e23⟩:=g23.sl (R:=RS) rfl fun cs h=>of_str h
 obtain ⟨b24,e24⟩:=g24.sl (R:=RYear) rfl fun cs h=>of_year h
 exact ⟨⟨b0,b1,b2,⟨b3,b4,b5,b6⟩,⟨b7,b8,b9,b10⟩,b11,b12,⟨b13,b14,b15,b16⟩,⟨b17,b18,b19,b20⟩,b21,b22,b23,b24⟩,_,_,_,_,_,_,_,_,_,_,_,_,rfl,e2,e4,e6,e8,e10,e14,e16,e18,e20,e22,e23,e24⟩
end Go.Proofs.YtcnpoojdochapaaGreatDoor
