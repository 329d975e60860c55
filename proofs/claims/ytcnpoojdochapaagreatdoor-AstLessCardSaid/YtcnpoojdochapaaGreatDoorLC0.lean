/- Sorts of structs, as rows of cells. -/
import Derived.WalkKit
import Derived.Orders
import Derived.Test.YtcnpoojdochapaaGreatDoorLA4
set_option linter.unusedVariables false
set_option linter.unusedSimpArgs false
namespace Go.Proofs.YtcnpoojdochapaaGreatDoor
open Go.CE Go.RowKit
structure PRat where
 n:Bool
 nm:List UInt32
 d:Bool
 dm:List UInt32
def RRat:RT PRat:=fun z cs a=>∃ c0 c1,cs=[.v (.bool a.n),c0,.v (.bool a.d),c1]∧CZ 1 RW z c0 a.nm∧CZ 1 RW z c1 a.dm
theorem mk_rat {z:Mem} {a:PRat} {c0 c1:C} (g0:CZ 1 RW z c0 a.nm) (g1:CZ 1 RW z c1 a.dm):RRat z [.v (.bool a.n),c0,.v (.bool a.d),c1] a:=⟨c0,c1,rfl,g0,g1⟩
instance:RMono RRat:=⟨⟨fun hz ⟨c0,c1,h,g0,g1⟩=>⟨c0,c1,h,g0.mono hz,g1.mono hz⟩,fun ⟨c0,c1,h,g0,g1⟩=>by rw [h];simp [sameL,sI,sB,sameC_s,g0.refl,g1.refl]⟩⟩
structure PBracket where
 frm:PRat
 rate:PRat
def RBracket:RT PBracket:=fun z cs a=>∃ c0 c1 c2 c3,cs=[.v (.bool a.frm.n),c0,.v (.bool a.frm.d),c1,.v (.bool a.rate.n),c2,.v (.bool a.rate.d),c3]∧CZ 1 RW z c0 a.frm.nm∧CZ 1 RW z c1 a.frm.dm∧CZ 1 RW z c2 a.rate.nm∧CZ 1 RW z c3 a.rate.dm
theorem mk_bracket {z:Mem} {a:PBracket} {c0 c1 c2 c3:C} (g0:CZ 1 RW z c0 a.frm.nm) (g1:CZ 1 RW z c1 a.frm.dm) (g2:CZ 1 RW z c2 a.rate.nm) (g3:CZ 1 RW z c3 a.rate.dm):RBracket z [.v (.bool a.frm.n),c0,.v (.bool a.frm.d),c1,.v (.bool a.rate.n),c2,.v (.bool a.rate.d),c3] a:=⟨c0,c1,c2,c3,rfl,g0,g1,g2,g3⟩
instance:RMono RBracket:=⟨⟨fun hz ⟨c0,c1,c2,c3,h,g0,g1,g2,g3⟩=>⟨c0,c1,c2,c3,h,g0.mono hz,g1.mono hz,g2.mono hz,g3.mono hz⟩,fun ⟨c0,c1,c2,c3,h,g0,g1,g2,g3⟩=>by rw [h];simp [sameL,sI,sB,sameC_s,g0.refl,g1.refl,g2.refl,g3.refl]⟩⟩
structure PClass where
 name:ByteArray
 kind:Int
 arg:PRat
def RClass:RT PClass:=fun z cs a=>∃ c0 c1,cs=[.v (.string a.name),.v (.int .u8 a.kind),.v (.bool a.arg.n),c0,.v (.bool a.arg.d),c1]∧CZ 1 RW z c0 a.arg.nm∧CZ 1 RW z c1 a.arg.dm
theorem mk_class {z:Mem} {a:PClass} {c0 c1:C} (g0:CZ 1 RW z c0 a.arg.nm) (g1:CZ 1 RW z c1 a.arg.dm):RClass z [.v (.string a.name),.v (.int .u8 a.kind),.v (.bool a.arg.n),c0,.v (.bool a.arg.d),c1] a:=⟨c0,c1,rfl,g0,g1⟩
instance:RMono RClass:=⟨⟨fun hz ⟨c0,c1,h,g0,g1⟩=>⟨c0,c1,h,g0.mono hz,g1.mono hz⟩,fun ⟨c0,c1,h,g0,g1⟩=>by rw [h];simp [sameL,sI,sB,sameC_s,g0.refl,g1.refl]⟩⟩
structure PHold where
 owner:ByteArray
 owned:ByteArray
 share:PRat
def RHold:RT PHold:=fun z cs a=>∃ c0 c1,cs=[.v (.string a.owner),.v (.string a.owned),.v (.bool a.share.n),c0,.v (.bool a.share.d),c1]∧CZ 1 RW z c0 a.share.nm∧CZ 1 RW z c1 a.share.dm
theorem mk_hold {z:Mem} {a:PHold} {c0 c1:C} (g0:CZ 1 RW z c0 a.share.nm) (g1:CZ 1 RW z c1 a.share.dm):RHold z [.v (.string a.owner),.v (.string a.owned),.v (.bool a.share.n),c0,.v (.bool a.share.d),c1] a:=⟨c0,c1,rfl,g0,g1⟩
instance:RMono RHold:=⟨⟨fun hz ⟨c0,c1,h,g0,g1⟩=>⟨c0,c1,h,g0.mono hz,g1.mono hz⟩,fun ⟨c0,c1,h,g0,g1⟩=>by rw [h];simp [sameL,sI,sB,sameC_s,g0.refl,g1.refl]⟩⟩
structure PBook where
 entity:ByteArray
 cls:ByteArray
 amount:PRat
def RBook:RT PBook:=fun z cs a=>∃ c0 c1,cs=[.v (.string a.entity),.v (.string a.cls),.v (.bool a.amount.n),c0,.v (.bool a.amount.d),c1]∧CZ 1 RW z c0 a.amount.nm∧CZ 1 RW z c1 a.amount.dm
theorem mk_book {z:Mem} {a:PBook} {c0 c1:C} (g0:CZ 1 RW z c0 a.amount.nm) (g1:CZ 1 RW z c1 a.amount.dm):RBook z [.v (.string a.entity),.v (.string a.cls),.v (.bool a.amount.n),c0,.v (.bool a.amount.d),c1] a:=⟨c0,c1,rfl,g0,g1⟩
instance:RMono RBook:=⟨⟨fun hz ⟨c0,c1,h,g0,g1⟩=>⟨c0,c1,h,g0.mono hz,g1.mono hz⟩,fun ⟨c0,c1,h,g0,g1⟩=>by rw [h];simp [sameL,sI,sB,sameC_s,g0.refl,g1.refl]⟩⟩
structure PDeal where
 give:Bool
 id:ByteArray
 kind:Int
 payee:ByteArray
 payer:ByteArray
 cls:ByteArray
 amount:PRat
def RDeal:RT PDeal:=fun z cs a=>∃ c0 c1,cs=[.v (.bool a.give),.v (.string a.id),.v (.int .u8 a.kind),.v (.string a.payee),.v (.string a.payer),.v (.string a.cls),.v (.bool a.amount.n),c0,.v (.bool a.amount.d),c1]∧CZ 1 RW z c0 a.amount.nm∧CZ 1 RW z c1 a.amount.dm
theorem mk_deal {z:Mem} {a:PDeal} {c0 c1:C} (g0:CZ 1 RW z c0 a.amount.nm) (g1:CZ 1 RW z c1 a.amount.dm):RDeal z [.v (.bool a.give),.v (.string a.id),.v (.int .u8 a.kind),.v (.string a.payee),.v (.string a.payer),.v (.string a.cls),.v (.bool a.amount.n),c0,.v (.bool a.amount.d),c1] a:=⟨c0,c1,rfl,g0,g1⟩
instance:RMono RDeal:=⟨⟨fun hz ⟨c0,c1,h,g0,g1⟩=>⟨c0,c1,h,g0.mono hz,g1.mono hz⟩,fun ⟨c0,c1,h,g0,g1⟩=>by rw [h];simp [sameL,sI,sB,sameC_s,g0.refl,g1.refl]⟩⟩
structure PStock where
 id:ByteArray
 margin:PRat
 unsold:PRat
def RStock:RT PStock:=fun z cs a=>∃ c0 c1 c2 c3,cs=[.v (.string a.id),.v (.bool a.margin.n),c0,.v (.bool a.margin.d),c1,.v (.bool a.unsold.n),c2,.v (.bool a.unsold.d),c3]∧CZ 1 RW z c0 a.margin.nm∧CZ 1 RW z c1 a.margin.dm∧CZ 1 RW z c2 a.unsold.nm∧CZ 1 RW z c3 a.unsold.dm
theorem mk_stock {z:Mem} {a:PStock} {c0 c1 c2 c3:C} (g0:CZ 1 RW z c0 a.margin.nm) (g1:CZ 1 RW z c1 a.margin.dm) (g2:CZ 1 RW z c2 a.unsold.nm) (g3:CZ 1 RW z c3 a.unsold.dm):RStock z [.v (.string a.id),.v (.bool a.margin.n),c0,.v (.bool a.margin.d),c1,.v (.bool a.unsold.n),c2,.v (.bool a.unsold.d),c3] a:=⟨c0,c1,c2,c3,rfl,g0,g1,g2,g3⟩
instance:RMono RStock:=⟨⟨fun hz ⟨c0,c1,c2,c3,h,g0,g1,g2,g3⟩=>⟨c0,c1,c2,c3,h,g0.mono hz,g1.mono hz,g2.mono hz,g3.mono hz⟩,fun ⟨c0,c1,c2,c3,h,g0,g1,g2,g3⟩=>by rw [h];simp [sameL,sI,sB,sameC_s,g0.refl,g1.refl,g2.refl,g3.refl]⟩⟩
structure PSold where
 id:ByteArray
 share:PRat
def RSold:RT PSold:=fun z cs a=>∃ c0 c1,cs=[.v (.string a.id),.v (.bool a.share.n),c0,.v (.bool a.share.d),c1]∧CZ 1 RW z c0 a.share.nm∧CZ 1 RW z c1 a.share.dm
theorem mk_sold {z:Mem} {a:PSold} {c0 c1:C} (g0:CZ 1 RW z c0 a.share.nm) (g1:CZ 1 RW z c1 a.share.dm):RSold z [.v (.string a.id),.v (.bool a.share.n),c0,.v (.bool a.share.d),c1] a:=⟨c0,c1,rfl,g0,g1⟩
instance:RMono RSold:=⟨⟨fun hz ⟨c0,c1,h,g0,g1⟩=>⟨c0,c1,h,g0.mono hz,g1.mono hz⟩,fun ⟨c0,c1,h,g0,g1⟩=>by rw [h];simp [sameL,sI,sB,sameC_s,g0.refl,g1.refl]⟩⟩
structure PYear where
 number:Int
 holds:List PHold
 books:List PBook
 deals:List PDeal
 stocks:List PStock
 solds:List PSold
def RYear:RT PYear:=fun z cs a=>∃ c0 c1 c2 c3 c4,cs=[.v (.int .i64 a.number),c0,c1,c2,c3,c4]∧CZ 6 RHold z c0 a.holds∧CZ 6 RBook z c1 a.books∧CZ 10 RDeal z c2 a.deals∧CZ 9 RStock z c3 a.stocks∧CZ 5 RSold z c4 a.solds
theorem mk_year {z:Mem} {a:PYear} {c0 c1 c2 c3 c4:C} (g0:CZ 6 RHold z c0 a.holds) (g1:CZ 6 RBook z c1 a.books) (g2:CZ 10 RDeal z c2 a.deals) (g3:CZ 9 RStock z c3 a.stocks) (g4:CZ 5 RSold z c4 a.solds):RYear z [.v (.int .i64 a.number),c0,c1,c2,c3,c4] a:=⟨c0,c1,c2,c3,c4,rfl,g0,g1,g2,g3,g4⟩
instance:RMono RYear:=⟨⟨fun hz ⟨c0,c1,c2,c3,c4,h,g0,g1,g2,g3,g4⟩=>⟨c0,c1,c2,c3,c4,h,g0.mono hz,g1.mono hz,g2.mono hz,g3.mono hz,g4.mono hz⟩,fun ⟨c0,c1,c2,c3,c4,h,g0,g1,g2,g3,g4⟩=>by rw [h];simp [sameL,sI,sB,sameC_s,g0.refl,g1.refl,g2.refl,g3.refl,g4.refl]⟩⟩
structure PFiling where
 name:ByteArray
 parent:ByteArray
 brackets:List PBracket
 threshold:PRat
 cap:PRat
 back:Int
 forward:Int
 interest:PRat
 floor:PRat
 keep:Int
 classes:List PClass
 entities:List ByteArray
 years:List PYear
def RFiling:RT PFiling:=fun z cs a=>∃ c0 c1 c2 c3 c4 c5 c6 c7 c8 c9 c10 c11,cs=[.v (.string a.name),.v (.string a.parent),c0,.v (.bool a.threshold.n),c1,.v (.bool a.threshold.d),c2,.v (.bool a.cap.n),c3,.v (.bool a.cap.d),c4,.v (.int .i64 a.back),.v (.int .i64 a.forward),.v (.bool a.interest.n),c5,.v (.bool a.interest.d),c6,.v (.bool a.floor.n),c7,.v (.bool a.floor.d),c8,.v (.int .i64 a.keep),c9,c10,c11]∧CZ 8 RBracket z c0 a.brackets∧CZ 1 RW z c1 a.threshold.nm∧CZ 1 RW z c2 a.threshold.dm∧CZ 1 RW z c3 a.cap.nm∧CZ 1 RW z c4 a.cap.dm∧CZ 1 RW z c5 a.interest.nm∧CZ 1 RW z c6 a.interest.dm∧CZ 1 RW z c7 a.floor.nm∧CZ 1 RW z c8 a.floor.dm∧CZ 6 RClass z c9 a.classes∧CZ 1 RS z c10 a.entities∧CZ 6 RYear z c11 a.years
theorem mk_filing {z:Mem} {a:PFiling} {c0 c1 c2 c3 c4 c5 c6 c7 c8 c9 c10 c11:C} (g0:CZ 8 RBracket z c0 a.brackets) (g1:CZ 1 RW z c1 a.threshold.nm) (g2:CZ 1 RW z c2 a.threshold.dm) (g3:CZ 1 RW z c3 a.cap.nm) (g4:CZ 1 RW z c4 a.cap.dm) (g5:CZ 1 RW z c5 a.interest.nm) (g6:CZ 1 RW z c6 a.interest.dm) (g7:CZ 1 RW z c7 a.floor.nm) (g8:CZ 1 RW z c8 a.floor.dm) (g9:CZ 6 RClass z c9 a.classes) (g10:CZ 1 RS z c10 a.entities) (g11:CZ 6 RYear z c11 a.years):RFiling z [.v (.string a.name),.v (.string a.parent),c0,.v (.bool a.threshold.n),c1,.v (.bool a.threshold.d),c2,.v (.bool a.cap.n),c3,.v (.bool a.cap.d),c4,.v (.int .i64 a.back),.v (.int .i64 a.forward),.v (.bool a.interest.n),c5,.v (.bool a.interest.d),c6,.v (.bool a.floor.n),c7,.v (.bool a.floor.d),c8,.v (.int .i64 a.keep),c9,c10,c11] a:=⟨c0,c1,c2,c3,c4,c5,c6,c7,c8,c9,c10,c11,rfl,g0,g1,g2,g3,g4,g5,g6,g7,g8,g9,g10,g11⟩
instance:RMono RFiling:=⟨⟨fun hz ⟨c0,c1,c2,c3,c4,c5,c6,c7,c8,c9,c10,c11,h,g0,g1,g2,g3,g4,g5,g6,g7,g8,g9,g10,g11⟩=>⟨c0,c1,c2,c3,c4,c5,c6,c7,c8,c9,c10,c11,h,g0.mono hz,g1.mono hz,g2.mono hz,g3.mono hz,g4.mono hz,g5.mono hz,g6.mono hz,g7.mono hz,g8.mono hz,g9.mono hz,g10.mono hz,g11.mono hz⟩,fun ⟨c0,c1,c2,c3,c4,c5,c6,c7,c8,c9,c10,c11,h,g0,g1,g2,g3,g4,g5,g6,g7,g8,g9,g10,g11⟩=>by rw [h];simp [sameL,sI,sB,sameC_s,g0.refl,g1.refl,g2.refl,g3.refl,g4.refl,g5.refl,g6.refl,g7.refl,g8.refl,g9.refl,g10.refl,g11.refl]⟩⟩
end Go.Proofs.YtcnpoojdochapaaGreatDoor
