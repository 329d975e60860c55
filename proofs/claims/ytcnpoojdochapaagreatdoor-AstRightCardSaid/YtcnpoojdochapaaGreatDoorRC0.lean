/- Sorts of structs, as rows of cells. -/
import Derived.WalkKit
import Derived.Orders
import Derived.Test.YtcnpoojdochapaaGreatDoorRA4
set_option linter.unusedVariables false
set_option linter.unusedSimpArgs false
namespace Go.Proofs.YtcnpoojdochapaaGreatDoor
open Go.CE Go.RowKit
structure yR where
 n:Bool
 nm:List UInt32
 d:Bool
 dm:List UInt32
def aVu:RT yR:=fun z cs a=>∃ c0 c1,cs=[.v (.bool a.n),c0,.v (.bool a.d),c1]∧CZ 1 RW z c0 a.nm∧CZ 1 RW z c1 a.dm
theorem Ji {z:dE} {a:yR} {c0 c1:C} (g0:CZ 1 RW z c0 a.nm) (g1:CZ 1 RW z c1 a.dm):aVu z [.v (.bool a.n),c0,.v (.bool a.d),c1] a:=⟨c0,c1,rfl,g0,g1⟩
instance:RMono aVu:=⟨fun hz ⟨c0,c1,h,g0,g1⟩=>⟨c0,c1,h,g0.mono hz,g1.mono hz⟩⟩
theorem yR.ext_iff {a b:yR}:a=b↔a.n=b.n∧a.nm=b.nm∧a.d=b.d∧a.dm=b.dm:=by
 cases a;cases b;simp only [yR.mk.injEq]
structure F3 where
 frm:yR
 rate:yR
def pS:RT F3:=fun z cs a=>∃ c0 c1 c2 c3,cs=[.v (.bool a.frm.n),c0,.v (.bool a.frm.d),c1,.v (.bool a.rate.n),c2,.v (.bool a.rate.d),c3]∧CZ 1 RW z c0 a.frm.nm∧CZ 1 RW z c1 a.frm.dm∧CZ 1 RW z c2 a.rate.nm∧CZ 1 RW z c3 a.rate.dm
theorem aDq {z:dE} {a:F3} {c0 c1 c2 c3:C} (g0:CZ 1 RW z c0 a.frm.nm) (g1:CZ 1 RW z c1 a.frm.dm) (g2:CZ 1 RW z c2 a.rate.nm) (g3:CZ 1 RW z c3 a.rate.dm):pS z [.v (.bool a.frm.n),c0,.v (.bool a.frm.d),c1,.v (.bool a.rate.n),c2,.v (.bool a.rate.d),c3] a:=⟨c0,c1,c2,c3,rfl,g0,g1,g2,g3⟩
instance:RMono pS:=⟨fun hz ⟨c0,c1,c2,c3,h,g0,g1,g2,g3⟩=>⟨c0,c1,c2,c3,h,g0.mono hz,g1.mono hz,g2.mono hz,g3.mono hz⟩⟩
structure V7 where
 name:ByteArray
 kind:Int
 arg:yR
def xP:RT V7:=fun z cs a=>∃ c0 c1,cs=[.v (.string a.name),.v (.int .u8 a.kind),.v (.bool a.arg.n),c0,.v (.bool a.arg.d),c1]∧CZ 1 RW z c0 a.arg.nm∧CZ 1 RW z c1 a.arg.dm
theorem C9 {z:dE} {a:V7} {c0 c1:C} (g0:CZ 1 RW z c0 a.arg.nm) (g1:CZ 1 RW z c1 a.arg.dm):xP z [.v (.string a.name),.v (.int .u8 a.kind),.v (.bool a.arg.n),c0,.v (.bool a.arg.d),c1] a:=⟨c0,c1,rfl,g0,g1⟩
instance:RMono xP:=⟨fun hz ⟨c0,c1,h,g0,g1⟩=>⟨c0,c1,h,g0.mono hz,g1.mono hz⟩⟩
structure aEb where
 owner:ByteArray
 owned:ByteArray
 share:yR
def Hh:RT aEb:=fun z cs a=>∃ c0 c1,cs=[.v (.string a.owner),.v (.string a.owned),.v (.bool a.share.n),c0,.v (.bool a.share.d),c1]∧CZ 1 RW z c0 a.share.nm∧CZ 1 RW z c1 a.share.dm
theorem Ei {z:dE} {a:aEb} {c0 c1:C} (g0:CZ 1 RW z c0 a.share.nm) (g1:CZ 1 RW z c1 a.share.dm):Hh z [.v (.string a.owner),.v (.string a.owned),.v (.bool a.share.n),c0,.v (.bool a.share.d),c1] a:=⟨c0,c1,rfl,g0,g1⟩
instance:RMono Hh:=⟨fun hz ⟨c0,c1,h,g0,g1⟩=>⟨c0,c1,h,g0.mono hz,g1.mono hz⟩⟩
structure aD4 where
 entity:ByteArray
 cls:ByteArray
 amount:yR
def Hi:RT aD4:=fun z cs a=>∃ c0 c1,cs=[.v (.string a.entity),.v (.string a.cls),.v (.bool a.amount.n),c0,.v (.bool a.amount.d),c1]∧CZ 1 RW z c0 a.amount.nm∧CZ 1 RW z c1 a.amount.dm
theorem pW {z:dE} {a:aD4} {c0 c1:C} (g0:CZ 1 RW z c0 a.amount.nm) (g1:CZ 1 RW z c1 a.amount.dm):Hi z [.v (.string a.entity),.v (.string a.cls),.v (.bool a.amount.n),c0,.v (.bool a.amount.d),c1] a:=⟨c0,c1,rfl,g0,g1⟩
instance:RMono Hi:=⟨fun hz ⟨c0,c1,h,g0,g1⟩=>⟨c0,c1,h,g0.mono hz,g1.mono hz⟩⟩
structure aF7 where
 give:Bool
 id:ByteArray
 kind:Int
 payee:ByteArray
 payer:ByteArray
 cls:ByteArray
 amount:yR
def Ez:RT aF7:=fun z cs a=>∃ c0 c1,cs=[.v (.bool a.give),.v (.string a.id),.v (.int .u8 a.kind),.v (.string a.payee),.v (.string a.payer),.v (.string a.cls),.v (.bool a.amount.n),c0,.v (.bool a.amount.d),c1]∧CZ 1 RW z c0 a.amount.nm∧CZ 1 RW z c1 a.amount.dm
theorem aVl {z:dE} {a:aF7} {c0 c1:C} (g0:CZ 1 RW z c0 a.amount.nm) (g1:CZ 1 RW z c1 a.amount.dm):Ez z [.v (.bool a.give),.v (.string a.id),.v (.int .u8 a.kind),.v (.string a.payee),.v (.string a.payer),.v (.string a.cls),.v (.bool a.amount.n),c0,.v (.bool a.amount.d),c1] a:=⟨c0,c1,rfl,g0,g1⟩
instance:RMono Ez:=⟨fun hz ⟨c0,c1,h,g0,g1⟩=>⟨c0,c1,h,g0.mono hz,g1.mono hz⟩⟩
structure aA9 where
 id:ByteArray
 margin:yR
 unsold:yR
def Bm:RT aA9:=fun z cs a=>∃ c0 c1 c2 c3,cs=[.v (.string a.id),.v (.bool a.margin.n),c0,.v (.bool a.margin.d),c1,.v (.bool a.unsold.n),c2,.v (.bool a.unsold.d),c3]∧CZ 1 RW z c0 a.margin.nm∧CZ 1 RW z c1 a.margin.dm∧CZ 1 RW z c2 a.unsold.nm∧CZ 1 RW z c3 a.unsold.dm
theorem aX8 {z:dE} {a:aA9} {c0 c1 c2 c3:C} (g0:CZ 1 RW z c0 a.margin.nm) (g1:CZ 1 RW z c1 a.margin.dm) (g2:CZ 1 RW z c2 a.unsold.nm) (g3:CZ 1 RW z c3 a.unsold.dm):Bm z [.v (.string a.id),.v (.bool a.margin.n),c0,.v (.bool a.margin.d),c1,.v (.bool a.unsold.n),c2,.v (.bool a.unsold.d),c3] a:=⟨c0,c1,c2,c3,rfl,g0,g1,g2,g3⟩
instance:RMono Bm:=⟨fun hz ⟨c0,c1,c2,c3,h,g0,g1,g2,g3⟩=>⟨c0,c1,c2,c3,h,g0.mono hz,g1.mono hz,g2.mono hz,g3.mono hz⟩⟩
structure aF0 where
 id:ByteArray
 share:yR
def Ik:RT aF0:=fun z cs a=>∃ c0 c1,cs=[.v (.string a.id),.v (.bool a.share.n),c0,.v (.bool a.share.d),c1]∧CZ 1 RW z c0 a.share.nm∧CZ 1 RW z c1 a.share.dm
theorem aVm {z:dE} {a:aF0} {c0 c1:C} (g0:CZ 1 RW z c0 a.share.nm) (g1:CZ 1 RW z c1 a.share.dm):Ik z [.v (.string a.id),.v (.bool a.share.n),c0,.v (.bool a.share.d),c1] a:=⟨c0,c1,rfl,g0,g1⟩
instance:RMono Ik:=⟨fun hz ⟨c0,c1,h,g0,g1⟩=>⟨c0,c1,h,g0.mono hz,g1.mono hz⟩⟩
structure tI where
 number:Int
 holds:List aEb
 books:List aD4
 deals:List aF7
 stocks:List aA9
 solds:List aF0
def Ak:RT tI:=fun z cs a=>∃ c0 c1 c2 c3 c4,cs=[.v (.int .i64 a.number),c0,c1,c2,c3,c4]∧CZ 6 Hh z c0 a.holds∧CZ 6 Hi z c1 a.books∧CZ 10 Ez z c2 a.deals∧CZ 9 Bm z c3 a.stocks∧CZ 5 Ik z c4 a.solds
theorem Ou {z:dE} {a:tI} {c0 c1 c2 c3 c4:C} (g0:CZ 6 Hh z c0 a.holds) (g1:CZ 6 Hi z c1 a.books) (g2:CZ 10 Ez z c2 a.deals) (g3:CZ 9 Bm z c3 a.stocks) (g4:CZ 5 Ik z c4 a.solds):Ak z [.v (.int .i64 a.number),c0,c1,c2,c3,c4] a:=⟨c0,c1,c2,c3,c4,rfl,g0,g1,g2,g3,g4⟩
instance:RMono Ak:=⟨fun hz ⟨c0,c1,c2,c3,c4,h,g0,g1,g2,g3,g4⟩=>⟨c0,c1,c2,c3,c4,h,g0.mono hz,g1.mono hz,g2.mono hz,g3.mono hz,g4.mono hz⟩⟩
structure kM where
 name:ByteArray
 parent:ByteArray
 brackets:List F3
 threshold:yR
 cap:yR
 back:Int
 forward:Int
 interest:yR
 floor:yR
 keep:Int
 classes:List V7
 entities:List ByteArray
 years:List tI
abbrev kF (a:kM) (c0 c1 c2 c3 c4 c5 c6 c7 c8 c9 c10 c11:C):List C:=[.v (.string a.name),.v (.string a.parent),c0,.v (.bool a.threshold.n),c1,.v (.bool a.threshold.d),c2,.v (.bool a.cap.n),c3,.v (.bool a.cap.d),c4,.v (.int .i64 a.back),.v (.int .i64 a.forward),.v (.bool a.interest.n),c5,.v (.bool a.interest.d),c6,.v (.bool a.floor.n),c7,.v (.bool a.floor.d),c8,.v (.int .i64 a.keep),c9,c10,c11]
abbrev kR (a:yR) (c0 c1:C):List C:=[.v (.bool a.n),c0,.v (.bool a.d),c1]
def J8:RT kM:=fun z cs a=>∃ c0 c1 c2 c3 c4 c5 c6 c7 c8 c9 c10 c11,cs=[.v (.string a.name),.v (.string a.parent),c0,.v (.bool a.threshold.n),c1,.v (.bool a.threshold.d),c2,.v (.bool a.cap.n),c3,.v (.bool a.cap.d),c4,.v (.int .i64 a.back),.v (.int .i64 a.forward),.v (.bool a.interest.n),c5,.v (.bool a.interest.d),c6,.v (.bool a.floor.n),c7,.v (.bool a.floor.d),c8,.v (.int .i64 a.keep),c9,c10,c11]∧CZ 8 pS z c0 a.brackets∧CZ 1 RW z c1 a.threshold.nm∧CZ 1 RW z c2 a.threshold.dm∧CZ 1 RW z c3 a.cap.nm∧CZ 1 RW z c4 a.cap.dm∧CZ 1 RW z c5 a.interest.nm∧CZ 1 RW z c6 a.interest.dm∧CZ 1 RW z c7 a.floor.nm∧CZ 1 RW z c8 a.floor.dm∧CZ 6 xP z c9 a.classes∧CZ 1 RS z c10 a.entities∧CZ 6 Ak z c11 a.years
theorem Ju {z:dE} {a:kM} {c0 c1 c2 c3 c4 c5 c6 c7 c8 c9 c10 c11:C} (g0:CZ 8 pS z c0 a.brackets) (g1:CZ 1 RW z c1 a.threshold.nm) (g2:CZ 1 RW z c2 a.threshold.dm) (g3:CZ 1 RW z c3 a.cap.nm) (g4:CZ 1 RW z c4 a.cap.dm) (g5:CZ 1 RW z c5 a.interest.nm) (g6:CZ 1 RW z c6 a.interest.dm) (g7:CZ 1 RW z c7 a.floor.nm) (g8:CZ 1 RW z c8 a.floor.dm) (g9:CZ 6 xP z c9 a.classes) (g10:CZ 1 RS z c10 a.entities) (g11:CZ 6 Ak z c11 a.years):J8 z [.v (.string a.name),.v (.string a.parent),c0,.v (.bool a.threshold.n),c1,.v (.bool a.threshold.d),c2,.v (.bool a.cap.n),c3,.v (.bool a.cap.d),c4,.v (.int .i64 a.back),.v (.int .i64 a.forward),.v (.bool a.interest.n),c5,.v (.bool a.interest.d),c6,.v (.bool a.floor.n),c7,.v (.bool a.floor.d),c8,.v (.int .i64 a.keep),c9,c10,c11] a:=⟨c0,c1,c2,c3,c4,c5,c6,c7,c8,c9,c10,c11,rfl,g0,g1,g2,g3,g4,g5,g6,g7,g8,g9,g10,g11⟩
end Go.Proofs.YtcnpoojdochapaaGreatDoor
