/- What a filing's cells are. -/
import Derived.WalkKit
import Derived.Orders
import Derived.Test.YtcnpoojdochapaaGreatDoorRC0
import Derived.Test.YtcnpoojdochapaaGreatDoorRE0
set_option linter.unusedVariables false
namespace Go.Proofs.YtcnpoojdochapaaGreatDoor
open Go.CE Go.RowKit
theorem eM {z:dE} {a:TT} {as:List TT} {cs:List C} (h:TCs z (a::as) cs):∃ c cs',cs=c::cs'∧TC z a c∧TCs z as cs':=by
 cases h with
 | cons h t=>exact ⟨_,_,rfl,h,t⟩
theorem J6 {z:dE} {cs:List C} (h:TCs z [] cs):cs=[]:=by
 cases h;rfl
abbrev vW:List TT:=[.i .u32]
abbrev bGu:List TT:=[.s]
theorem bSB {z:dE} {k:IntKind} {c:C} (h:TC z (.i k) c):∃ n:Int,(Lit.int k n).wf=true∧c=.v (.int k n):=by
 obtain ⟨u,h1,h2⟩:=h
 cases h1 with
 | i _ n hn =>
  cases h2 with
  | v _=>exact ⟨n,hn,rfl⟩
theorem wE {z:dE} {cs:List C} (h:TCs z vW cs):∃ a,RW z cs a:=by
 obtain ⟨c0,t0,rfl,g0,h⟩:=eM h
 obtain rfl:=J6 h
 obtain ⟨n,hn,rfl⟩:=bSB g0
 have hr:0≤n∧n<4294967296:=by
  simp [Lit.wf,IntKind.min,IntKind.max,IntKind.bits,IntKind.signed] at hn
  omega
 refine ⟨UInt32.ofNat n.toNat,?_⟩
 show [C.v (.int .u32 n)]=[C.v (.int .u32 (((UInt32.ofNat n.toNat).toNat:Nat):Int))]
 rw [Go.Num.ofNat_toNat (by show _<4294967296;omega),Int.toNat_of_nonneg hr.1]
theorem bQz {z:dE} {cs:List C} (h:TCs z bGu cs):∃ a,RS z cs a:=by
 obtain ⟨c0,t0,rfl,g0,h⟩:=eM h
 obtain rfl:=J6 h
 obtain ⟨b0,rfl⟩:=g0.s
 exact ⟨b0,rfl⟩
abbrev aTW:List TT:=[.b,.sl 1 vW,.b,.sl 1 vW,.b,.sl 1 vW,.b,.sl 1 vW]
theorem aZo {z:dE} {cs:List C} (h:TCs z aTW cs):∃ a,pS z cs a:=by
 obtain ⟨c0,t0,rfl,g0,h⟩:=eM h
 obtain ⟨c1,t1,rfl,g1,h⟩:=eM h
 obtain ⟨c2,t2,rfl,g2,h⟩:=eM h
 obtain ⟨c3,t3,rfl,g3,h⟩:=eM h
 obtain ⟨c4,t4,rfl,g4,h⟩:=eM h
 obtain ⟨c5,t5,rfl,g5,h⟩:=eM h
 obtain ⟨c6,t6,rfl,g6,h⟩:=eM h
 obtain ⟨c7,t7,rfl,g7,h⟩:=eM h
 obtain rfl:=J6 h
 obtain ⟨b0,rfl⟩:=g0.b
 obtain ⟨b1,e1⟩:=g1.sl (R:=RW) rfl fun cs h=>wE h
 obtain ⟨b2,rfl⟩:=g2.b
 obtain ⟨b3,e3⟩:=g3.sl (R:=RW) rfl fun cs h=>wE h
 obtain ⟨b4,rfl⟩:=g4.b
 obtain ⟨b5,e5⟩:=g5.sl (R:=RW) rfl fun cs h=>wE h
 obtain ⟨b6,rfl⟩:=g6.b
 obtain ⟨b7,e7⟩:=g7.sl (R:=RW) rfl fun cs h=>wE h
 exact ⟨⟨⟨b0,b1,b2,b3⟩,⟨b4,b5,b6,b7⟩⟩,_,_,_,_,rfl,e1,e3,e5,e7⟩
abbrev aXC:List TT:=[.s,.i .u8,.b,.sl 1 vW,.b,.sl 1 vW]
theorem bGI {z:dE} {cs:List C} (h:TCs z aXC cs):∃ a,xP z cs a:=by
 obtain ⟨c0,t0,rfl,g0,h⟩:=eM h
 obtain ⟨c1,t1,rfl,g1,h⟩:=eM h
 obtain ⟨c2,t2,rfl,g2,h⟩:=eM h
 obtain ⟨c3,t3,rfl,g3,h⟩:=eM h
 obtain ⟨c4,t4,rfl,g4,h⟩:=eM h
 obtain ⟨c5,t5,rfl,g5,h⟩:=eM h
 obtain rfl:=J6 h
 obtain ⟨b0,rfl⟩:=g0.s
 obtain ⟨b1,rfl⟩:=g1.i
 obtain ⟨b2,rfl⟩:=g2.b
 obtain ⟨b3,e3⟩:=g3.sl (R:=RW) rfl fun cs h=>wE h
 obtain ⟨b4,rfl⟩:=g4.b
 obtain ⟨b5,e5⟩:=g5.sl (R:=RW) rfl fun cs h=>wE h
 exact ⟨⟨b0,b1,⟨b2,b3,b4,b5⟩⟩,_,_,rfl,e3,e5⟩
abbrev aZI:List TT:=[.s,.s,.b,.sl 1 vW,.b,.sl 1 vW]
theorem bJm {z:dE} {cs:List C} (h:TCs z aZI cs):∃ a,Hh z cs a:=by
 obtain ⟨c0,t0,rfl,g0,h⟩:=eM h
 obtain ⟨c1,t1,rfl,g1,h⟩:=eM h
 obtain ⟨c2,t2,rfl,g2,h⟩:=eM h
 obtain ⟨c3,t3,rfl,g3,h⟩:=eM h
 obtain ⟨c4,t4,rfl,g4,h⟩:=eM h
 obtain ⟨c5,t5,rfl,g5,h⟩:=eM h
 obtain rfl:=J6 h
 obtain ⟨b0,rfl⟩:=g0.s
 obtain ⟨b1,rfl⟩:=g1.s
 obtain ⟨b2,rfl⟩:=g2.b
 obtain ⟨b3,e3⟩:=g3.sl (R:=RW) rfl fun cs h=>wE h
 obtain ⟨b4,rfl⟩:=g4.b
 obtain ⟨b5,e5⟩:=g5.sl (R:=RW) rfl fun cs h=>wE h
 exact ⟨⟨b0,b1,⟨b2,b3,b4,b5⟩⟩,_,_,rfl,e3,e5⟩
abbrev aZK:List TT:=[.s,.s,.b,.sl 1 vW,.b,.sl 1 vW]
theorem bKO {z:dE} {cs:List C} (h:TCs z aZK cs):∃ a,Hi z cs a:=by
 obtain ⟨c0,t0,rfl,g0,h⟩:=eM h
 obtain ⟨c1,t1,rfl,g1,h⟩:=eM h
 obtain ⟨c2,t2,rfl,g2,h⟩:=eM h
 obtain ⟨c3,t3,rfl,g3,h⟩:=eM h
 obtain ⟨c4,t4,rfl,g4,h⟩:=eM h
 obtain ⟨c5,t5,rfl,g5,h⟩:=eM h
 obtain rfl:=J6 h
 obtain ⟨b0,rfl⟩:=g0.s
 obtain ⟨b1,rfl⟩:=g1.s
 obtain ⟨b2,rfl⟩:=g2.b
 obtain ⟨b3,e3⟩:=g3.sl (R:=RW) rfl fun cs h=>wE h
 obtain ⟨b4,rfl⟩:=g4.b
 obtain ⟨b5,e5⟩:=g5.sl (R:=RW) rfl fun cs h=>wE h
 exact ⟨⟨b0,b1,⟨b2,b3,b4,b5⟩⟩,_,_,rfl,e3,e5⟩
abbrev aZA:List TT:=[.b,.s,.i .u8,.s,.s,.s,.b,.sl 1 vW,.b,.sl 1 vW]
theorem bLh {z:dE} {cs:List C} (h:TCs z aZA cs):∃ a,Ez z cs a:=by
 obtain ⟨c0,t0,rfl,g0,h⟩:=eM h
 obtain ⟨c1,t1,rfl,g1,h⟩:=eM h
 obtain ⟨c2,t2,rfl,g2,h⟩:=eM h
 obtain ⟨c3,t3,rfl,g3,h⟩:=eM h
 obtain ⟨c4,t4,rfl,g4,h⟩:=eM h
 obtain ⟨c5,t5,rfl,g5,h⟩:=eM h
 obtain ⟨c6,t6,rfl,g6,h⟩:=eM h
 obtain ⟨c7,t7,rfl,g7,h⟩:=eM h
 obtain ⟨c8,t8,rfl,g8,h⟩:=eM h
 obtain ⟨c9,t9,rfl,g9,h⟩:=eM h
 obtain rfl:=J6 h
 obtain ⟨b0,rfl⟩:=g0.b
 obtain ⟨b1,rfl⟩:=g1.s
 obtain ⟨b2,rfl⟩:=g2.i
 obtain ⟨b3,rfl⟩:=g3.s
 obtain ⟨b4,rfl⟩:=g4.s
 obtain ⟨b5,rfl⟩:=g5.s
 obtain ⟨b6,rfl⟩:=g6.b
 obtain ⟨b7,e7⟩:=g7.sl (R:=RW) rfl fun cs h=>wE h
 obtain ⟨b8,rfl⟩:=g8.b
 obtain ⟨b9,e9⟩:=g9.sl (R:=RW) rfl fun cs h=>wE h
 exact ⟨⟨b0,b1,b2,b3,b4,b5,⟨b6,b7,b8,b9⟩⟩,_,_,rfl,e7,e9⟩
abbrev aXP:List TT:=[.s,.b,.sl 1 vW,.b,.sl 1 vW,.b,.sl 1 vW,.b,.sl 1 vW]
theorem bDf {z:dE} {cs:List C} (h:TCs z aXP cs):∃ a,Bm z cs a:=by
 obtain ⟨c0,t0,rfl,g0,h⟩:=eM h
 obtain ⟨c1,t1,rfl,g1,h⟩:=eM h
 obtain ⟨c2,t2,rfl,g2,h⟩:=eM h
 obtain ⟨c3,t3,rfl,g3,h⟩:=eM h
 obtain ⟨c4,t4,rfl,g4,h⟩:=eM h
 obtain ⟨c5,t5,rfl,g5,h⟩:=eM h
 obtain ⟨c6,t6,rfl,g6,h⟩:=eM h
 obtain ⟨c7,t7,rfl,g7,h⟩:=eM h
 obtain ⟨c8,t8,rfl,g8,h⟩:=eM h
 obtain rfl:=J6 h
 obtain ⟨b0,rfl⟩:=g0.s
 obtain ⟨b1,rfl⟩:=g1.b
 obtain ⟨b2,e2⟩:=g2.sl (R:=RW) rfl fun cs h=>wE h
 obtain ⟨b3,rfl⟩:=g3.b
 obtain ⟨b4,e4⟩:=g4.sl (R:=RW) rfl fun cs h=>wE h
 obtain ⟨b5,rfl⟩:=g5.b
 obtain ⟨b6,e6⟩:=g6.sl (R:=RW) rfl fun cs h=>wE h
 obtain ⟨b7,rfl⟩:=g7.b
 obtain ⟨b8,e8⟩:=g8.sl (R:=RW) rfl fun cs h=>wE h
 exact ⟨⟨b0,⟨b1,b2,b3,b4⟩,⟨b5,b6,b7,b8⟩⟩,_,_,_,_,rfl,e2,e4,e6,e8⟩
abbrev bAk:List TT:=[.s,.b,.sl 1 vW,.b,.sl 1 vW]
theorem bLo {z:dE} {cs:List C} (h:TCs z bAk cs):∃ a,Ik z cs a:=by
 obtain ⟨c0,t0,rfl,g0,h⟩:=eM h
 obtain ⟨c1,t1,rfl,g1,h⟩:=eM h
 obtain ⟨c2,t2,rfl,g2,h⟩:=eM h
 obtain ⟨c3,t3,rfl,g3,h⟩:=eM h
 obtain ⟨c4,t4,rfl,g4,h⟩:=eM h
 obtain rfl:=J6 h
 obtain ⟨b0,rfl⟩:=g0.s
 obtain ⟨b1,rfl⟩:=g1.b
 obtain ⟨b2,e2⟩:=g2.sl (R:=RW) rfl fun cs h=>wE h
 obtain ⟨b3,rfl⟩:=g3.b
 obtain ⟨b4,e4⟩:=g4.sl (R:=RW) rfl fun cs h=>wE h
 exact ⟨⟨b0,⟨b1,b2,b3,b4⟩⟩,_,_,rfl,e2,e4⟩
abbrev aZv:List TT:=[.i .i64,.sl 6 aZI,.sl 6 aZK,.sl 10 aZA,.sl 9 aXP,.sl 5 bAk]
theorem bJu {z:dE} {cs:List C} (h:TCs z aZv cs):∃ a,Ak z cs a:=by
 obtain ⟨c0,t0,rfl,g0,h⟩:=eM h
 obtain ⟨c1,t1,rfl,g1,h⟩:=eM h
 obtain ⟨c2,t2,rfl,g2,h⟩:=eM h
 obtain ⟨c3,t3,rfl,g3,h⟩:=eM h
 obtain ⟨c4,t4,rfl,g4,h⟩:=eM h
 obtain ⟨c5,t5,rfl,g5,h⟩:=eM h
 obtain rfl:=J6 h
 obtain ⟨b0,rfl⟩:=g0.i
 obtain ⟨b1,e1⟩:=g1.sl (R:=Hh) rfl fun cs h=>bJm h
 obtain ⟨b2,e2⟩:=g2.sl (R:=Hi) rfl fun cs h=>bKO h
 obtain ⟨b3,e3⟩:=g3.sl (R:=Ez) rfl fun cs h=>bLh h
 obtain ⟨b4,e4⟩:=g4.sl (R:=Bm) rfl fun cs h=>bDf h
 obtain ⟨b5,e5⟩:=g5.sl (R:=Ik) rfl fun cs h=>bLo h
 exact ⟨⟨b0,b1,b2,b3,b4,b5⟩,_,_,_,_,_,rfl,e1,e2,e3,e4,e5⟩
abbrev aUu:List TT:=[.s,.s,.sl 8 aTW,.b,.sl 1 vW,.b,.sl 1 vW,.b,.sl 1 vW,.b,.sl 1 vW,.i .i64,.i .i64,.b,.sl 1 vW,.b,.sl 1 vW,.b,.sl 1 vW,.b,.sl 1 vW,.i .i64,.sl 6 aXC,.sl 1 bGu,.sl 6 aZv]
theorem bAs {z:dE} {cs:List C} (h:TCs z aUu cs):∃ a,J8 z cs a:=by
 obtain ⟨c0,t0,rfl,g0,h⟩:=eM h
 obtain ⟨c1,t1,rfl,g1,h⟩:=eM h
 obtain ⟨c2,t2,rfl,g2,h⟩:=eM h
 obtain ⟨c3,t3,rfl,g3,h⟩:=eM h
 obtain ⟨c4,t4,rfl,g4,h⟩:=eM h
 obtain ⟨c5,t5,rfl,g5,h⟩:=eM h
 obtain ⟨c6,t6,rfl,g6,h⟩:=eM h
 obtain ⟨c7,t7,rfl,g7,h⟩:=eM h
 obtain ⟨c8,t8,rfl,g8,h⟩:=eM h
 obtain ⟨c9,t9,rfl,g9,h⟩:=eM h
 obtain ⟨c10,t10,rfl,g10,h⟩:=eM h
 obtain ⟨c11,t11,rfl,g11,h⟩:=eM h
 obtain ⟨c12,t12,rfl,g12,h⟩:=eM h
 obtain ⟨c13,t13,rfl,g13,h⟩:=eM h
 obtain ⟨c14,t14,rfl,g14,h⟩:=eM h
 obtain ⟨c15,t15,rfl,g15,h⟩:=eM h
 obtain ⟨c16,t16,rfl,g16,h⟩:=eM h
 obtain ⟨c17,t17,rfl,g17,h⟩:=eM h
 obtain ⟨c18,t18,rfl,g18,h⟩:=eM h
 obtain ⟨c19,t19,rfl,g19,h⟩:=eM h
 obtain ⟨c20,t20,rfl,g20,h⟩:=eM h
 obtain ⟨c21,t21,rfl,g21,h⟩:=eM h
 obtain ⟨c22,t22,rfl,g22,h⟩:=eM h
 obtain ⟨c23,t23,rfl,g23,h⟩:=eM h
 obtain ⟨c24,t24,rfl,g24,h⟩:=eM h
 obtain rfl:=J6 h
 obtain ⟨b0,rfl⟩:=g0.s
 obtain ⟨b1,rfl⟩:=g1.s
 obtain ⟨b2,e2⟩:=g2.sl (R:=pS) rfl fun cs h=>aZo h
 obtain ⟨b3,rfl⟩:=g3.b
 obtain ⟨b4,e4⟩:=g4.sl (R:=RW) rfl fun cs h=>wE h
 obtain ⟨b5,rfl⟩:=g5.b
 obtain ⟨b6,e6⟩:=g6.sl (R:=RW) rfl fun cs h=>wE h
 obtain ⟨b7,rfl⟩:=g7.b
 obtain ⟨b8,e8⟩:=g8.sl (R:=RW) rfl fun cs h=>wE h
 obtain ⟨b9,rfl⟩:=g9.b
 obtain ⟨b10,e10⟩:=g10.sl (R:=RW) rfl fun cs h=>wE h
 obtain ⟨b11,rfl⟩:=g11.i
 obtain ⟨b12,rfl⟩:=g12.i
 obtain ⟨b13,rfl⟩:=g13.b
 obtain ⟨b14,e14⟩:=g14.sl (R:=RW) rfl fun cs h=>wE h
 obtain ⟨b15,rfl⟩:=g15.b
 obtain ⟨b16,e16⟩:=g16.sl (R:=RW) rfl fun cs h=>wE h
 obtain ⟨b17,rfl⟩:=g17.b
 obtain ⟨b18,e18⟩:=g18.sl (R:=RW) rfl fun cs h=>wE h
 obtain ⟨b19,rfl⟩:=g19.b
 obtain ⟨b20,e20⟩:=g20.sl (R:=RW) rfl fun cs h=>wE h
 obtain ⟨b21,rfl⟩:=g21.i
 obtain ⟨b22,e22⟩:=g22.sl (R:=xP) rfl fun cs h=>bGI h
 obtain ⟨b23,e23⟩:=g23.sl (R:=RS) rfl fun cs h=>bQz h
 obtain ⟨b24,e24⟩:=g24.sl (R:=Ak) rfl fun cs h=>bJu h
 exact ⟨⟨b0,b1,b2,⟨b3,b4,b5,b6⟩,⟨b7,b8,b9,b10⟩,b11,b12,⟨b13,b14,b15,b16⟩,⟨b17,b18,b19,b20⟩,b21,b22,b23,b24⟩,_,_,_,_,_,_,_,_,_,_,_,_,rfl,e2,e4,e6,e8,e10,e14,e16,e18,e20,e22,e23,e24⟩
end Go.Proofs.YtcnpoojdochapaaGreatDoor
