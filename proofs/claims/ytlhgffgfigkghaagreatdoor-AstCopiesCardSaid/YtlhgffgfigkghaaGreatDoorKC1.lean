/- Sorts of structs, as rows of cells. -/
import Derived.WalkKit
import Derived.Orders
import Derived.Test.YtlhgffgfigkghaaGreatDoorKA4
set_option linter.unusedVariables false
set_option linter.unusedSimpArgs false
namespace Go.Proofs.YtlhgffgfigkghaaGreatDoor
open Go.CE Go.RowKit
structure PRat where
 n : Bool
 nm : List Int
 d : Bool
 dm : List Int
def RRat : RT PRat := fun z cs a => ∃ c0 c1, cs = [.v (.bool a.n), c0, .v (.bool a.d), c1] ∧ CZ 1 (RU .u32) z c0 a.nm ∧ CZ 1 (RU .u32) z c1 a.dm
theorem mk_rat {z : Mem} {a : PRat} {c0 c1 : C} (g0 : CZ 1 (RU .u32) z c0 a.nm) (g1 : CZ 1 (RU .u32) z c1 a.dm) : RRat z [.v (.bool a.n), c0, .v (.bool a.d), c1] a := ⟨c0, c1, rfl, g0, g1⟩
instance : RMono RRat := ⟨⟨fun hz ⟨c0, c1, h, g0, g1⟩ => ⟨c0, c1, h, g0.mono hz, g1.mono hz⟩, fun ⟨c0, c1, h, g0, g1⟩ => by rw [h]; simp [sameL, sameC_int, sameC_b, sameC_s, g0.refl, g1.refl]⟩⟩
theorem PRat.ext_iff {a b : PRat} : a = b ↔ a.n = b.n ∧ a.nm = b.nm ∧ a.d = b.d ∧ a.dm = b.dm := by
 cases a; cases b; simp only [PRat.mk.injEq]
structure PBracket where
 frm : PRat
 rate : PRat
def RBracket : RT PBracket := fun z cs a => ∃ c0 c1 c2 c3, cs = [.v (.bool a.frm.n), c0, .v (.bool a.frm.d), c1, .v (.bool a.rate.n), c2, .v (.bool a.rate.d), c3] ∧ CZ 1 (RU .u32) z c0 a.frm.nm ∧ CZ 1 (RU .u32) z c1 a.frm.dm ∧ CZ 1 (RU .u32) z c2 a.rate.nm ∧ CZ 1 (RU .u32) z c3 a.rate.dm
theorem mk_bracket {z : Mem} {a : PBracket} {c0 c1 c2 c3 : C} (g0 : CZ 1 (RU .u32) z c0 a.frm.nm) (g1 : CZ 1 (RU .u32) z c1 a.frm.dm) (g2 : CZ 1 (RU .u32) z c2 a.rate.nm) (g3 : CZ 1 (RU .u32) z c3 a.rate.dm) : RBracket z [.v (.bool a.frm.n), c0, .v (.bool a.frm.d), c1, .v (.bool a.rate.n), c2, .v (.bool a.rate.d), c3] a := ⟨c0, c1, c2, c3, rfl, g0, g1, g2, g3⟩
instance : RMono RBracket := ⟨⟨fun hz ⟨c0, c1, c2, c3, h, g0, g1, g2, g3⟩ => ⟨c0, c1, c2, c3, h, g0.mono hz, g1.mono hz, g2.mono hz, g3.mono hz⟩, fun ⟨c0, c1, c2, c3, h, g0, g1, g2, g3⟩ => by rw [h]; simp [sameL, sameC_int, sameC_b, sameC_s, g0.refl, g1.refl, g2.refl, g3.refl]⟩⟩
theorem PBracket.ext_iff {a b : PBracket} : a = b ↔ a.frm = b.frm ∧ a.rate = b.rate := by
 cases a; cases b; simp only [PBracket.mk.injEq]
structure PClass where
 name : ByteArray
 kind : Int
 arg : PRat
def RClass : RT PClass := fun z cs a => ∃ c0 c1, cs = [.v (.string a.name), .v (.int .u8 a.kind), .v (.bool a.arg.n), c0, .v (.bool a.arg.d), c1] ∧ CZ 1 (RU .u32) z c0 a.arg.nm ∧ CZ 1 (RU .u32) z c1 a.arg.dm
theorem mk_class {z : Mem} {a : PClass} {c0 c1 : C} (g0 : CZ 1 (RU .u32) z c0 a.arg.nm) (g1 : CZ 1 (RU .u32) z c1 a.arg.dm) : RClass z [.v (.string a.name), .v (.int .u8 a.kind), .v (.bool a.arg.n), c0, .v (.bool a.arg.d), c1] a := ⟨c0, c1, rfl, g0, g1⟩
instance : RMono RClass := ⟨⟨fun hz ⟨c0, c1, h, g0, g1⟩ => ⟨c0, c1, h, g0.mono hz, g1.mono hz⟩, fun ⟨c0, c1, h, g0, g1⟩ => by rw [h]; simp [sameL, sameC_int, sameC_b, sameC_s, g0.refl, g1.refl]⟩⟩
theorem PClass.ext_iff {a b : PClass} : a = b ↔ a.name = b.name ∧ a.kind = b.kind ∧ a.arg = b.arg := by
 cases a; cases b; simp only [PClass.mk.injEq]
structure PHold where
 owner : ByteArray
 owned : ByteArray
 share : PRat
def RHold : RT PHold := fun z cs a => ∃ c0 c1, cs = [.v (.string a.owner), .v (.string a.owned), .v (.bool a.share.n), c0, .v (.bool a.share.d), c1] ∧ CZ 1 (RU .u32) z c0 a.share.nm ∧ CZ 1 (RU .u32) z c1 a.share.dm
theorem mk_hold {z : Mem} {a : PHold} {c0 c1 : C} (g0 : CZ 1 (RU .u32) z c0 a.share.nm) (g1 : CZ 1 (RU .u32) z c1 a.share.dm) : RHold z [.v (.string a.owner), .v (.string a.owned), .v (.bool a.share.n), c0, .v (.bool a.share.d), c1] a := ⟨c0, c1, rfl, g0, g1⟩
instance : RMono RHold := ⟨⟨fun hz ⟨c0, c1, h, g0, g1⟩ => ⟨c0, c1, h, g0.mono hz, g1.mono hz⟩, fun ⟨c0, c1, h, g0, g1⟩ => by rw [h]; simp [sameL, sameC_int, sameC_b, sameC_s, g0.refl, g1.refl]⟩⟩
theorem PHold.ext_iff {a b : PHold} : a = b ↔ a.owner = b.owner ∧ a.owned = b.owned ∧ a.share = b.share := by
 cases a; cases b; simp only [PHold.mk.injEq]
structure PBook where
 entity : ByteArray
 cls : ByteArray
 amount : PRat
def RBook : RT PBook := fun z cs a => ∃ c0 c1, cs = [.v (.string a.entity), .v (.string a.cls), .v (.bool a.amount.n), c0, .v (.bool a.amount.d), c1] ∧ CZ 1 (RU .u32) z c0 a.amount.nm ∧ CZ 1 (RU .u32) z c1 a.amount.dm
theorem mk_book {z : Mem} {a : PBook} {c0 c1 : C} (g0 : CZ 1 (RU .u32) z c0 a.amount.nm) (g1 : CZ 1 (RU .u32) z c1 a.amount.dm) : RBook z [.v (.string a.entity), .v (.string a.cls), .v (.bool a.amount.n), c0, .v (.bool a.amount.d), c1] a := ⟨c0, c1, rfl, g0, g1⟩
instance : RMono RBook := ⟨⟨fun hz ⟨c0, c1, h, g0, g1⟩ => ⟨c0, c1, h, g0.mono hz, g1.mono hz⟩, fun ⟨c0, c1, h, g0, g1⟩ => by rw [h]; simp [sameL, sameC_int, sameC_b, sameC_s, g0.refl, g1.refl]⟩⟩
theorem PBook.ext_iff {a b : PBook} : a = b ↔ a.entity = b.entity ∧ a.cls = b.cls ∧ a.amount = b.amount := by
 cases a; cases b; simp only [PBook.mk.injEq]
structure PDeal where
 give : Bool
 id : ByteArray
 kind : Int
 payee : ByteArray
 payer : ByteArray
 cls : ByteArray
 amount : PRat
def RDeal : RT PDeal := fun z cs a => ∃ c0 c1, cs = [.v (.bool a.give), .v (.string a.id), .v (.int .u8 a.kind), .v (.string a.payee), .v (.string a.payer), .v (.string a.cls), .v (.bool a.amount.n), c0, .v (.bool a.amount.d), c1] ∧ CZ 1 (RU .u32) z c0 a.amount.nm ∧ CZ 1 (RU .u32) z c1 a.amount.dm
theorem mk_deal {z : Mem} {a : PDeal} {c0 c1 : C} (g0 : CZ 1 (RU .u32) z c0 a.amount.nm) (g1 : CZ 1 (RU .u32) z c1 a.amount.dm) : RDeal z [.v (.bool a.give), .v (.string a.id), .v (.int .u8 a.kind), .v (.string a.payee), .v (.string a.payer), .v (.string a.cls), .v (.bool a.amount.n), c0, .v (.bool a.amount.d), c1] a := ⟨c0, c1, rfl, g0, g1⟩
instance : RMono RDeal := ⟨⟨fun hz ⟨c0, c1, h, g0, g1⟩ => ⟨c0, c1, h, g0.mono hz, g1.mono hz⟩, fun ⟨c0, c1, h, g0, g1⟩ => by rw [h]; simp [sameL, sameC_int, sameC_b, sameC_s, g0.refl, g1.refl]⟩⟩
theorem PDeal.ext_iff {a b : PDeal} : a = b ↔ a.give = b.give ∧ a.id = b.id ∧ a.kind = b.kind ∧ a.payee = b.payee ∧ a.payer = b.payer ∧ a.cls = b.cls ∧ a.amount = b.amount := by
 cases a; cases b; simp only [PDeal.mk.injEq]
structure PStock where
 id : ByteArray
 margin : PRat
 unsold : PRat
def RStock : RT PStock := fun z cs a => ∃ c0 c1 c2 c3, cs = [.v (.string a.id), .v (.bool a.margin.n), c0, .v (.bool a.margin.d), c1, .v (.bool a.unsold.n), c2, .v (.bool a.unsold.d), c3] ∧ CZ 1 (RU .u32) z c0 a.margin.nm ∧ CZ 1 (RU .u32) z c1 a.margin.dm ∧ CZ 1 (RU .u32) z c2 a.unsold.nm ∧ CZ 1 (RU .u32) z c3 a.unsold.dm
theorem mk_stock {z : Mem} {a : PStock} {c0 c1 c2 c3 : C} (g0 : CZ 1 (RU .u32) z c0 a.margin.nm) (g1 : CZ 1 (RU .u32) z c1 a.margin.dm) (g2 : CZ 1 (RU .u32) z c2 a.unsold.nm) (g3 : CZ 1 (RU .u32) z c3 a.unsold.dm) : RStock z [.v (.string a.id), .v (.bool a.margin.n), c0, .v (.bool a.margin.d), c1, .v (.bool a.unsold.n), c2, .v (.bool a.unsold.d), c3] a := ⟨c0, c1, c2, c3, rfl, g0, g1, g2, g3⟩
instance : RMono RStock := ⟨⟨fun hz ⟨c0, c1, c2, c3, h, g0, g1, g2, g3⟩ => ⟨c0, c1, c2, c3, h, g0.mono hz, g1.mono hz, g2.mono hz, g3.mono hz⟩, fun ⟨c0, c1, c2, c3, h, g0, g1, g2, g3⟩ => by rw [h]; simp [sameL, sameC_int, sameC_b, sameC_s, g0.refl, g1.refl, g2.refl, g3.refl]⟩⟩
theorem PStock.ext_iff {a b : PStock} : a = b ↔ a.id = b.id ∧ a.margin = b.margin ∧ a.unsold = b.unsold := by
 cases a; cases b; simp only [PStock.mk.injEq]
structure PSold where
 id : ByteArray
 share : PRat
def RSold : RT PSold := fun z cs a => ∃ c0 c1, cs = [.v (.string a.id), .v (.bool a.share.n), c0, .v (.bool a.share.d), c1] ∧ CZ 1 (RU .u32) z c0 a.share.nm ∧ CZ 1 (RU .u32) z c1 a.share.dm
theorem mk_sold {z : Mem} {a : PSold} {c0 c1 : C} (g0 : CZ 1 (RU .u32) z c0 a.share.nm) (g1 : CZ 1 (RU .u32) z c1 a.share.dm) : RSold z [.v (.string a.id), .v (.bool a.share.n), c0, .v (.bool a.share.d), c1] a := ⟨c0, c1, rfl, g0, g1⟩
instance : RMono RSold := ⟨⟨fun hz ⟨c0, c1, h, g0, g1⟩ => ⟨c0, c1, h, g0.mono hz, g1.mono hz⟩, fun ⟨c0, c1, h, g0, g1⟩ => by rw [h]; simp [sameL, sameC_int, sameC_b, sameC_s, g0.refl, g1.refl]⟩⟩
theorem PSold.ext_iff {a b : PSold} : a = b ↔ a.id = b.id ∧ a.share = b.share := by
 cases a; cases b; simp only [PSold.mk.injEq]
structure PYear where
 number : Int
 holds : List PHold
 books : List PBook
 deals : List PDeal
 stocks : List PStock
 solds : List PSold
def RYear : RT PYear := fun z cs a => ∃ c0 c1 c2 c3 c4, cs = [.v (.int .i64 a.number), c0, c1, c2, c3, c4] ∧ CZ 6 RHold z c0 a.holds ∧ CZ 6 RBook z c1 a.books ∧ CZ 10 RDeal z c2 a.deals ∧ CZ 9 RStock z c3 a.stocks ∧ CZ 5 RSold z c4 a.solds
theorem mk_year {z : Mem} {a : PYear} {c0 c1 c2 c3 c4 : C} (g0 : CZ 6 RHold z c0 a.holds) (g1 : CZ 6 RBook z c1 a.books) (g2 : CZ 10 RDeal z c2 a.deals) (g3 : CZ 9 RStock z c3 a.stocks) (g4 : CZ 5 RSold z c4 a.solds) : RYear z [.v (.int .i64 a.number), c0, c1, c2, c3, c4] a := ⟨c0, c1, c2, c3, c4, rfl, g0, g1, g2, g3, g4⟩
instance : RMono RYear := ⟨⟨fun hz ⟨c0, c1, c2, c3, c4, h, g0, g1, g2, g3, g4⟩ => ⟨c0, c1, c2, c3, c4, h, g0.mono hz, g1.mono hz, g2.mono hz, g3.mono hz, g4.mono hz⟩, fun ⟨c0, c1, c2, c3, c4, h, g0, g1, g2, g3, g4⟩ => by rw [h]; simp [sameL, sameC_int, sameC_b, sameC_s, g0.refl, g1.refl, g2.refl, g3.refl, g4.refl]⟩⟩
theorem PYear.ext_iff {a b : PYear} : a = b ↔ a.number = b.number ∧ a.holds = b.holds ∧ a.books = b.books ∧ a.deals = b.deals ∧ a.stocks = b.stocks ∧ a.solds = b.solds := by
 cases a; cases b; simp only [PYear.mk.injEq]
structure PFiling where
 name : ByteArray
 parent : ByteArray
 brackets : List PBracket
 threshold : PRat
 cap : PRat
 back : Int
 forward : Int
 interest : PRat
 floor : PRat
 keep : Int
 classes : List PClass
 entities : List ByteArray
 years : List PYear
def RFiling : RT PFiling := fun z cs a => ∃ c0 c1 c2 c3 c4 c5 c6 c7 c8 c9 c10 c11, cs = [.v (.string a.name), .v (.string a.parent), c0, .v (.bool a.threshold.n), c1, .v (.bool a.threshold.d), c2, .v (.bool a.cap.n), c3, .v (.bool a.cap.d), c4, .v (.int .i64 a.back), .v (.int .i64 a.forward), .v (.bool a.interest.n), c5, .v (.bool a.interest.d), c6, .v (.bool a.floor.n), c7, .v (.bool a.floor.d), c8, .v (.int .i64 a.keep), c9, c10, c11] ∧ CZ 8 RBracket z c0 a.brackets ∧ CZ 1 (RU .u32) z c1 a.threshold.nm ∧ CZ 1 (RU .u32) z c2 a.threshold.dm ∧ CZ 1 (RU .u32) z c3 a.cap.nm ∧ CZ 1 (RU .u32) z c4 a.cap.dm ∧ CZ 1 (RU .u32) z c5 a.interest.nm ∧ CZ 1 (RU .u32) z c6 a.interest.dm ∧ CZ 1 (RU .u32) z c7 a.floor.nm ∧ CZ 1 (RU .u32) z c8 a.floor.dm ∧ CZ 6 RClass z c9 a.classes ∧ CZ 1 RS z c10 a.entities ∧ CZ 6 RYear z c11 a.years
theorem mk_filing {z : Mem} {a : PFiling} {c0 c1 c2 c3 c4 c5 c6 c7 c8 c9 c10 c11 : C} (g0 : CZ 8 RBracket z c0 a.brackets) (g1 : CZ 1 (RU .u32) z c1 a.threshold.nm) (g2 : CZ 1 (RU .u32) z c2 a.threshold.dm) (g3 : CZ 1 (RU .u32) z c3 a.cap.nm) (g4 : CZ 1 (RU .u32) z c4 a.cap.dm) (g5 : CZ 1 (RU .u32) z c5 a.interest.nm) (g6 : CZ 1 (RU .u32) z c6 a.interest.dm) (g7 : CZ 1 (RU .u32) z c7 a.floor.nm) (g8 : CZ 1 (RU .u32) z c8 a.floor.dm) (g9 : CZ 6 RClass z c9 a.classes) (g10 : CZ 1 RS z c10 a.entities) (g11 : CZ 6 RYear z c11 a.years) : RFiling z [.v (.string a.name), .v (.string a.parent), c0, .v (.bool a.threshold.n), c1, .v (.bool a.threshold.d), c2, .v (.bool a.cap.n), c3, .v (.bool a.cap.d), c4, .v (.int .i64 a.back), .v (.int .i64 a.forward), .v (.bool a.interest.n), c5, .v (.bool a.interest.d), c6, .v (.bool a.floor.n), c7, .v (.bool a.floor.d), c8, .v (.int .i64 a.keep), c9, c10, c11] a := ⟨c0, c1, c2, c3, c4, c5, c6, c7, c8, c9, c10, c11, rfl, g0, g1, g2, g3, g4, g5, g6, g7, g8, g9, g10, g11⟩
instance : RMono RFiling := ⟨⟨fun hz ⟨c0, c1, c2, c3, c4, c5, c6, c7, c8, c9, c10, c11, h, g0, g1, g2, g3, g4, g5, g6, g7, g8, g9, g10, g11⟩ => ⟨c0, c1, c2, c3, c4, c5, c6, c7, c8, c9, c10, c11, h, g0.mono hz, g1.mono hz, g2.mono hz, g3.mono hz, g4.mono hz, g5.mono hz, g6.mono hz, g7.mono hz, g8.mono hz, g9.mono hz, g10.mono hz, g11.mono hz⟩, fun ⟨c0, c1, c2, c3, c4, c5, c6, c7, c8, c9, c10, c11, h, g0, g1, g2, g3, g4, g5, g6, g7, g8, g9, g10, g11⟩ => by rw [h]; simp [sameL, sameC_int, sameC_b, sameC_s, g0.refl, g1.refl, g2.refl, g3.refl, g4.refl, g5.refl, g6.refl, g7.refl, g8.refl, g9.refl, g10.refl, g11.refl]⟩⟩
theorem PFiling.ext_iff {a b : PFiling} : a = b ↔ a.name = b.name ∧ a.parent = b.parent ∧ a.brackets = b.brackets ∧ a.threshold = b.threshold ∧ a.cap = b.cap ∧ a.back = b.back ∧ a.forward = b.forward ∧ a.interest = b.interest ∧ a.floor = b.floor ∧ a.keep = b.keep ∧ a.classes = b.classes ∧ a.entities = b.entities ∧ a.years = b.years := by
 cases a; cases b; simp only [PFiling.mk.injEq]
abbrev AZ {α : Type} (R : RT α) (z : Mem) (v : AV) (a : α) : Prop := ∃ cs, v = .agg cs ∧ R z cs a
theorem AZ.mono {α : Type} {R : RT α} [RMono R] {z z' : Mem} {v : AV} {a : α} (h : AZ R z v a) (hz : zle z z') : AZ R z' v a := by
 obtain ⟨cs, h1, h2⟩ := h
 exact ⟨cs, h1, RMono.mono hz h2⟩
abbrev EqP {α : Type} (a b : α) (v : AV) (_ : Mem) : Prop := ∃ r : Bool, v = .c (.v (.bool r)) ∧ (r = true ↔ a = b)
theorem at_lt {α : Type} {l : List α} {i : Nat} (h : i < l.length) : ∃ a, l[i]? = some a := ⟨_, List.getElem?_eq_getElem h⟩
theorem b_eqlS (a b : ByteArray) : binW .eql (.string a) (.string b) = some (.bool (decide (a = b))) := by
 show some (Value.bool (bsame a.data.toList b.data.toList)) = _
 rw [bsame_eq]
 congr 2
 rw [Bool.eq_iff_iff]
 simp only [beq_iff_eq, decide_eq_true_eq]
 constructor
 ·intro h
  apply ByteArray.ext
  exact Array.ext' h
 ·intro h; rw [h]
theorem b_neqS (a b : ByteArray) : binW .neq (.string a) (.string b) = some (.bool (!decide (a = b))) := by
 have := b_eqlS a b
 simp only [binW, binS, Option.some.injEq, Value.bool.injEq] at this ⊢
 rw [this]
theorem b_neqB (a b : Bool) : Go.Eng.binBV .neq (.bool a) (.bool b) = some (.bool (!decide (a = b))) := by cases a <;> cases b <;> rfl
theorem eq_step {α : Type} {l r : List α} {i j : Nat} {a b : α} (hp : ∀ j, j < i → l[j]? = r[j]?) (ha : l[i]? = some a) (hb : r[i]? = some b) (h : a = b) (hj : j < i + 1) : l[j]? = r[j]? := by
  rcases Nat.lt_or_ge j i with h1 | h1
  · exact hp j h1
  · have : j = i := by omega
    subst this
    rw [ha, hb, h]
theorem eq_end {α : Type} {l r : List α} {i : Nat} (hl : l.length = r.length) (hp : ∀ j, j < i → l[j]? = r[j]?) (h : l.length ≤ i) : l = r := by
 apply List.ext_getElem?
 intro j
 rcases Nat.lt_or_ge j i with h1 | h1
 ·exact hp j h1
 ·rw [List.getElem?_eq_none (by omega), List.getElem?_eq_none (by omega)]
theorem ne_at {α : Type} {l r : List α} {i : Nat} {a b : α} (ha : l[i]? = some a) (hb : r[i]? = some b) (h : ¬ a = b) : l ≠ r := fun e => by
 subst e
 rw [ha] at hb
 injection hb with hb
 exact h hb
abbrev Sm (x : PRat) : Prop := x.nm.length ≤ 6 ∧ x.dm.length ≤ 6
structure SmY (y : PYear) : Prop where
 l0 : y.holds.length ≤ 40
 l1 : y.books.length ≤ 40
 l2 : y.deals.length ≤ 40
 l3 : y.stocks.length ≤ 40
 l4 : y.solds.length ≤ 40
 r0 : ∀ a, a ∈ y.holds → Sm a.share
 r1 : ∀ a, a ∈ y.books → Sm a.amount
 r2 : ∀ a, a ∈ y.deals → Sm a.amount
 r3 : ∀ a, a ∈ y.stocks → Sm a.margin
 r3' : ∀ a, a ∈ y.stocks → Sm a.unsold
 r4 : ∀ a, a ∈ y.solds → Sm a.share
structure SmF (f : PFiling) : Prop where
 l0 : f.brackets.length ≤ 20
 l1 : f.classes.length ≤ 70
 l2 : f.entities.length ≤ 260
 l3 : f.years.length ≤ 45
 t : Sm f.threshold
 c : Sm f.cap
 i : Sm f.interest
 g : Sm f.floor
 r0 : ∀ a, a ∈ f.brackets → Sm a.frm
 r0' : ∀ a, a ∈ f.brackets → Sm a.rate
 r1 : ∀ a, a ∈ f.classes → Sm a.arg
 y : ∀ a, a ∈ f.years → SmY a
theorem take_snoc {α : Type} {l : List α} {i : Nat} {a : α} (h : l[i]? = some a) : l.take i ++ [a] = l.take (i + 1) := by
 rw [List.take_add_one, h]; rfl
theorem take_all {α : Type} {l : List α} {i : Nat} (h : l.length ≤ i) : l.take i = l := List.take_of_length_le h
theorem mem_step {α : Type} {L : List α} {i : Nat} {a0 : α} {P : α → Prop} (ha : L[i]? = some a0) (h1 : ∀ a, a ∈ L.take i → P a) (h2 : P a0) : ∀ a, a ∈ L.take (i + 1) → P a := by
  rw [← take_snoc ha]
  intro a h
  rcases List.mem_append.1 h with h | h
  · exact h1 a h
  · have : a = a0 := by simpa using h
    subst this; exact h2
structure LnY (y : PYear) : Prop where
 l0 : y.holds.length ≤ 40
 l1 : y.books.length ≤ 40
 l2 : y.deals.length ≤ 40
 l3 : y.stocks.length ≤ 40
 l4 : y.solds.length ≤ 40
structure LnF (f : PFiling) : Prop where
 l0 : f.brackets.length ≤ 20
 l1 : f.classes.length ≤ 70
 l2 : f.entities.length ≤ 260
 l3 : f.years.length ≤ 45
 y : ∀ a, a ∈ f.years → LnY a
structure InY (y : PYear) (l : List PRat) : Prop where
 r0 : ∀ a, a ∈ y.holds → a.share ∈ l
 r1 : ∀ a, a ∈ y.books → a.amount ∈ l
 r2 : ∀ a, a ∈ y.deals → a.amount ∈ l
 r3 : ∀ a, a ∈ y.stocks → a.margin ∈ l ∧ a.unsold ∈ l
 r4 : ∀ a, a ∈ y.solds → a.share ∈ l
theorem InY.mono {y : PYear} {l l' : List PRat} (h : InY y l) (g : ∀ r, r ∈ l → r ∈ l') : InY y l' :=
 ⟨fun a ha => g _ (h.r0 a ha), fun a ha => g _ (h.r1 a ha), fun a ha => g _ (h.r2 a ha), fun a ha => ⟨g _ (h.r3 a ha).1, g _ (h.r3 a ha).2⟩, fun a ha => g _ (h.r4 a ha)⟩
structure InF (f : PFiling) (l : List PRat) : Prop where
 t : f.threshold ∈ l
 c : f.cap ∈ l
 i : f.interest ∈ l
 g : f.floor ∈ l
 r0 : ∀ a, a ∈ f.brackets → a.frm ∈ l ∧ a.rate ∈ l
 r1 : ∀ a, a ∈ f.classes → a.arg ∈ l
 y : ∀ a, a ∈ f.years → InY a l
theorem SmF.of {f : PFiling} {l : List PRat} (h : LnF f) (g : InF f l) (s : ∀ r, r ∈ l → Sm r) : SmF f :=
  ⟨h.l0, h.l1, h.l2, h.l3, s _ g.t, s _ g.c, s _ g.i, s _ g.g, fun a ha => s _ (g.r0 a ha).1, fun a ha => s _ (g.r0 a ha).2, fun a ha => s _ (g.r1 a ha), fun a ha =>
    ⟨(h.y a ha).l0, (h.y a ha).l1, (h.y a ha).l2, (h.y a ha).l3, (h.y a ha).l4, fun b hb => s _ ((g.y a ha).r0 b hb), fun b hb => s _ ((g.y a ha).r1 b hb), fun b hb => s _ ((g.y a ha).r2 b hb),
      fun b hb => s _ ((g.y a ha).r3 b hb).1, fun b hb => s _ ((g.y a ha).r3 b hb).2, fun b hb => s _ ((g.y a ha).r4 b hb)⟩⟩
abbrev K0 : Nat := 18446744073709551616
open Go.CE Go.RowKit
theorem tcs_inv {z : Mem} {a : TT} {as : List TT} {cs : List C} (h : TCs z (a :: as) cs) : ∃ c cs', cs = c :: cs' ∧ TC z a c ∧ TCs z as cs' := by
 cases h with
 | cons h t => exact ⟨_, _, rfl, h, t⟩
theorem tcs_nil {z : Mem} {cs : List C} (h : TCs z [] cs) : cs = [] := by
 cases h; rfl
abbrev sh_u32 : List TT := [.i .u32]
abbrev sh_str : List TT := [.s]
theorem of_u32 {z : Mem} {cs : List C} (h : TCs z sh_u32 cs) : ∃ a, RU .u32 z cs a := by
 obtain ⟨c0, t0, rfl, g0, h⟩ := tcs_inv h
 obtain rfl := tcs_nil h
 obtain ⟨b0, rfl⟩ := g0.i
 exact ⟨b0, rfl⟩
theorem of_str {z : Mem} {cs : List C} (h : TCs z sh_str cs) : ∃ a, RS z cs a := by
 obtain ⟨c0, t0, rfl, g0, h⟩ := tcs_inv h
 obtain rfl := tcs_nil h
 obtain ⟨b0, rfl⟩ := g0.s
 exact ⟨b0, rfl⟩
abbrev sh_bracket : List TT := [.b, .sl 1 sh_u32, .b, .sl 1 sh_u32, .b, .sl 1 sh_u32, .b, .sl 1 sh_u32]
theorem of_bracket {z : Mem} {cs : List C} (h : TCs z sh_bracket cs) : ∃ a, RBracket z cs a := by
 obtain ⟨c0, t0, rfl, g0, h⟩ := tcs_inv h
 obtain ⟨c1, t1, rfl, g1, h⟩ := tcs_inv h
 obtain ⟨c2, t2, rfl, g2, h⟩ := tcs_inv h
 obtain ⟨c3, t3, rfl, g3, h⟩ := tcs_inv h
 obtain ⟨c4, t4, rfl, g4, h⟩ := tcs_inv h
 obtain ⟨c5, t5, rfl, g5, h⟩ := tcs_inv h
 obtain ⟨c6, t6, rfl, g6, h⟩ := tcs_inv h
 obtain ⟨c7, t7, rfl, g7, h⟩ := tcs_inv h
 obtain rfl := tcs_nil h
 obtain ⟨b0, rfl⟩ := g0.b
 obtain ⟨b1, e1⟩ := g1.sl (R := (RU .u32)) rfl fun cs h => of_u32 h
 obtain ⟨b2, rfl⟩ := g2.b
 obtain ⟨b3, e3⟩ := g3.sl (R := (RU .u32)) rfl fun cs h => of_u32 h
 obtain ⟨b4, rfl⟩ := g4.b
 obtain ⟨b5, e5⟩ := g5.sl (R := (RU .u32)) rfl fun cs h => of_u32 h
 obtain ⟨b6, rfl⟩ := g6.b
 obtain ⟨b7, e7⟩ := g7.sl (R := (RU .u32)) rfl fun cs h => of_u32 h
 exact ⟨⟨⟨b0, b1, b2, b3⟩, ⟨b4, b5, b6, b7⟩⟩, _, _, _, _, rfl, e1, e3, e5, e7⟩
abbrev sh_class : List TT := [.s, .i .u8, .b, .sl 1 sh_u32, .b, .sl 1 sh_u32]
theorem of_class {z : Mem} {cs : List C} (h : TCs z sh_class cs) : ∃ a, RClass z cs a := by
 obtain ⟨c0, t0, rfl, g0, h⟩ := tcs_inv h
 obtain ⟨c1, t1, rfl, g1, h⟩ := tcs_inv h
 obtain ⟨c2, t2, rfl, g2, h⟩ := tcs_inv h
 obtain ⟨c3, t3, rfl, g3, h⟩ := tcs_inv h
 obtain ⟨c4, t4, rfl, g4, h⟩ := tcs_inv h
 obtain ⟨c5, t5, rfl, g5, h⟩ := tcs_inv h
 obtain rfl := tcs_nil h
 obtain ⟨b0, rfl⟩ := g0.s
 obtain ⟨b1, rfl⟩ := g1.i
 obtain ⟨b2, rfl⟩ := g2.b
 obtain ⟨b3, e3⟩ := g3.sl (R := (RU .u32)) rfl fun cs h => of_u32 h
 obtain ⟨b4, rfl⟩ := g4.b
 obtain ⟨b5, e5⟩ := g5.sl (R := (RU .u32)) rfl fun cs h => of_u32 h
 exact ⟨⟨b0, b1, ⟨b2, b3, b4, b5⟩⟩, _, _, rfl, e3, e5⟩
abbrev sh_hold : List TT := [.s, .s, .b, .sl 1 sh_u32, .b, .sl 1 sh_u32]
theorem of_hold {z : Mem} {cs : List C} (h : TCs z sh_hold cs) : ∃ a, RHold z cs a := by
 obtain ⟨c0, t0, rfl, g0, h⟩ := tcs_inv h
 obtain ⟨c1, t1, rfl, g1, h⟩ := tcs_inv h
 obtain ⟨c2, t2, rfl, g2, h⟩ := tcs_inv h
 obtain ⟨c3, t3, rfl, g3, h⟩ := tcs_inv h
 obtain ⟨c4, t4, rfl, g4, h⟩ := tcs_inv h
 obtain ⟨c5, t5, rfl, g5, h⟩ := tcs_inv h
 obtain rfl := tcs_nil h
 obtain ⟨b0, rfl⟩ := g0.s
 obtain ⟨b1, rfl⟩ := g1.s
 obtain ⟨b2, rfl⟩ := g2.b
 obtain ⟨b3, e3⟩ := g3.sl (R := (RU .u32)) rfl fun cs h => of_u32 h
 obtain ⟨b4, rfl⟩ := g4.b
 obtain ⟨b5, e5⟩ := g5.sl (R := (RU .u32)) rfl fun cs h => of_u32 h
 exact ⟨⟨b0, b1, ⟨b2, b3, b4, b5⟩⟩, _, _, rfl, e3, e5⟩
abbrev sh_book : List TT := [.s, .s, .b, .sl 1 sh_u32, .b, .sl 1 sh_u32]
theorem of_book {z : Mem} {cs : List C} (h : TCs z sh_book cs) : ∃ a, RBook z cs a := by
 obtain ⟨c0, t0, rfl, g0, h⟩ := tcs_inv h
 obtain ⟨c1, t1, rfl, g1, h⟩ := tcs_inv h
 obtain ⟨c2, t2, rfl, g2, h⟩ := tcs_inv h
 obtain ⟨c3, t3, rfl, g3, h⟩ := tcs_inv h
 obtain ⟨c4, t4, rfl, g4, h⟩ := tcs_inv h
 obtain ⟨c5, t5, rfl, g5, h⟩ := tcs_inv h
 obtain rfl := tcs_nil h
 obtain ⟨b0, rfl⟩ := g0.s
 obtain ⟨b1, rfl⟩ := g1.s
 obtain ⟨b2, rfl⟩ := g2.b
 obtain ⟨b3, e3⟩ := g3.sl (R := (RU .u32)) rfl fun cs h => of_u32 h
 obtain ⟨b4, rfl⟩ := g4.b
 obtain ⟨b5, e5⟩ := g5.sl (R := (RU .u32)) rfl fun cs h => of_u32 h
 exact ⟨⟨b0, b1, ⟨b2, b3, b4, b5⟩⟩, _, _, rfl, e3, e5⟩
abbrev sh_deal : List TT := [.b, .s, .i .u8, .s, .s, .s, .b, .sl 1 sh_u32, .b, .sl 1 sh_u32]
theorem of_deal {z : Mem} {cs : List C} (h : TCs z sh_deal cs) : ∃ a, RDeal z cs a := by
 obtain ⟨c0, t0, rfl, g0, h⟩ := tcs_inv h
 obtain ⟨c1, t1, rfl, g1, h⟩ := tcs_inv h
 obtain ⟨c2, t2, rfl, g2, h⟩ := tcs_inv h
 obtain ⟨c3, t3, rfl, g3, h⟩ := tcs_inv h
 obtain ⟨c4, t4, rfl, g4, h⟩ := tcs_inv h
 obtain ⟨c5, t5, rfl, g5, h⟩ := tcs_inv h
 obtain ⟨c6, t6, rfl, g6, h⟩ := tcs_inv h
 obtain ⟨c7, t7, rfl, g7, h⟩ := tcs_inv h
 obtain ⟨c8, t8, rfl, g8, h⟩ := tcs_inv h
 obtain ⟨c9, t9, rfl, g9, h⟩ := tcs_inv h
 obtain rfl := tcs_nil h
 obtain ⟨b0, rfl⟩ := g0.b
 obtain ⟨b1, rfl⟩ := g1.s
 obtain ⟨b2, rfl⟩ := g2.i
 obtain ⟨b3, rfl⟩ := g3.s
 obtain ⟨b4, rfl⟩ := g4.s
 obtain ⟨b5, rfl⟩ := g5.s
 obtain ⟨b6, rfl⟩ := g6.b
 obtain ⟨b7, e7⟩ := g7.sl (R := (RU .u32)) rfl fun cs h => of_u32 h
 obtain ⟨b8, rfl⟩ := g8.b
 obtain ⟨b9, e9⟩ := g9.sl (R := (RU .u32)) rfl fun cs h => of_u32 h
 exact ⟨⟨b0, b1, b2, b3, b4, b5, ⟨b6, b7, b8, b9⟩⟩, _, _, rfl, e7, e9⟩
abbrev sh_stock : List TT := [.s, .b, .sl 1 sh_u32, .b, .sl 1 sh_u32, .b, .sl 1 sh_u32, .b, .sl 1 sh_u32]
theorem of_stock {z : Mem} {cs : List C} (h : TCs z sh_stock cs) : ∃ a, RStock z cs a := by
 obtain ⟨c0, t0, rfl, g0, h⟩ := tcs_inv h
 obtain ⟨c1, t1, rfl, g1, h⟩ := tcs_inv h
 obtain ⟨c2, t2, rfl, g2, h⟩ := tcs_inv h
 obtain ⟨c3, t3, rfl, g3, h⟩ := tcs_inv h
 obtain ⟨c4, t4, rfl, g4, h⟩ := tcs_inv h
 obtain ⟨c5, t5, rfl, g5, h⟩ := tcs_inv h
 obtain ⟨c6, t6, rfl, g6, h⟩ := tcs_inv h
 obtain ⟨c7, t7, rfl, g7, h⟩ := tcs_inv h
 obtain ⟨c8, t8, rfl, g8, h⟩ := tcs_inv h
 obtain rfl := tcs_nil h
 obtain ⟨b0, rfl⟩ := g0.s
 obtain ⟨b1, rfl⟩ := g1.b
 obtain ⟨b2, e2⟩ := g2.sl (R := (RU .u32)) rfl fun cs h => of_u32 h
 obtain ⟨b3, rfl⟩ := g3.b
 obtain ⟨b4, e4⟩ := g4.sl (R := (RU .u32)) rfl fun cs h => of_u32 h
 obtain ⟨b5, rfl⟩ := g5.b
 obtain ⟨b6, e6⟩ := g6.sl (R := (RU .u32)) rfl fun cs h => of_u32 h
 obtain ⟨b7, rfl⟩ := g7.b
 obtain ⟨b8, e8⟩ := g8.sl (R := (RU .u32)) rfl fun cs h => of_u32 h
 exact ⟨⟨b0, ⟨b1, b2, b3, b4⟩, ⟨b5, b6, b7, b8⟩⟩, _, _, _, _, rfl, e2, e4, e6, e8⟩
abbrev sh_sold : List TT := [.s, .b, .sl 1 sh_u32, .b, .sl 1 sh_u32]
theorem of_sold {z : Mem} {cs : List C} (h : TCs z sh_sold cs) : ∃ a, RSold z cs a := by
 obtain ⟨c0, t0, rfl, g0, h⟩ := tcs_inv h
 obtain ⟨c1, t1, rfl, g1, h⟩ := tcs_inv h
 obtain ⟨c2, t2, rfl, g2, h⟩ := tcs_inv h
 obtain ⟨c3, t3, rfl, g3, h⟩ := tcs_inv h
 obtain ⟨c4, t4, rfl, g4, h⟩ := tcs_inv h
 obtain rfl := tcs_nil h
 obtain ⟨b0, rfl⟩ := g0.s
 obtain ⟨b1, rfl⟩ := g1.b
 obtain ⟨b2, e2⟩ := g2.sl (R := (RU .u32)) rfl fun cs h => of_u32 h
 obtain ⟨b3, rfl⟩ := g3.b
 obtain ⟨b4, e4⟩ := g4.sl (R := (RU .u32)) rfl fun cs h => of_u32 h
 exact ⟨⟨b0, ⟨b1, b2, b3, b4⟩⟩, _, _, rfl, e2, e4⟩
abbrev sh_year : List TT := [.i .i64, .sl 6 sh_hold, .sl 6 sh_book, .sl 10 sh_deal, .sl 9 sh_stock, .sl 5 sh_sold]
theorem of_year {z : Mem} {cs : List C} (h : TCs z sh_year cs) : ∃ a, RYear z cs a := by
 obtain ⟨c0, t0, rfl, g0, h⟩ := tcs_inv h
 obtain ⟨c1, t1, rfl, g1, h⟩ := tcs_inv h
 obtain ⟨c2, t2, rfl, g2, h⟩ := tcs_inv h
 obtain ⟨c3, t3, rfl, g3, h⟩ := tcs_inv h
 obtain ⟨c4, t4, rfl, g4, h⟩ := tcs_inv h
 obtain ⟨c5, t5, rfl, g5, h⟩ := tcs_inv h
 obtain rfl := tcs_nil h
 obtain ⟨b0, rfl⟩ := g0.i
 obtain ⟨b1, e1⟩ := g1.sl (R := RHold) rfl fun cs h => of_hold h
 obtain ⟨b2, e2⟩ := g2.sl (R := RBook) rfl fun cs h => of_book h
 obtain ⟨b3, e3⟩ := g3.sl (R := RDeal) rfl fun cs h => of_deal h
 obtain ⟨b4, e4⟩ := g4.sl (R := RStock) rfl fun cs h => of_stock h
 obtain ⟨b5, e5⟩ := g5.sl (R := RSold) rfl fun cs h => of_sold h
 exact ⟨⟨b0, b1, b2, b3, b4, b5⟩, _, _, _, _, _, rfl, e1, e2, e3, e4, e5⟩
abbrev sh_filing : List TT := [.s, .s, .sl 8 sh_bracket, .b, .sl 1 sh_u32, .b, .sl 1 sh_u32, .b, .sl 1 sh_u32, .b, .sl 1 sh_u32, .i .i64, .i .i64, .b, .sl 1 sh_u32, .b, .sl 1 sh_u32, .b, .sl 1 sh_u32, .b, .sl 1 sh_u32, .i .i64, .sl 6 sh_class, .sl 1 sh_str, .sl 6 sh_year]
theorem of_filing {z : Mem} {cs : List C} (h : TCs z sh_filing cs) : ∃ a, RFiling z cs a := by
 obtain ⟨c0, t0, rfl, g0, h⟩ := tcs_inv h
 obtain ⟨c1, t1, rfl, g1, h⟩ := tcs_inv h
 obtain ⟨c2, t2, rfl, g2, h⟩ := tcs_inv h
 obtain ⟨c3, t3, rfl, g3, h⟩ := tcs_inv h
 obtain ⟨c4, t4, rfl, g4, h⟩ := tcs_inv h
 obtain ⟨c5, t5, rfl, g5, h⟩ := tcs_inv h
 obtain ⟨c6, t6, rfl, g6, h⟩ := tcs_inv h
 obtain ⟨c7, t7, rfl, g7, h⟩ := tcs_inv h
 obtain ⟨c8, t8, rfl, g8, h⟩ := tcs_inv h
 obtain ⟨c9, t9, rfl, g9, h⟩ := tcs_inv h
 obtain ⟨c10, t10, rfl, g10, h⟩ := tcs_inv h
 obtain ⟨c11, t11, rfl, g11, h⟩ := tcs_inv h
 obtain ⟨c12, t12, rfl, g12, h⟩ := tcs_inv h
 obtain ⟨c13, t13, rfl, g13, h⟩ := tcs_inv h
 obtain ⟨c14, t14, rfl, g14, h⟩ := tcs_inv h
 obtain ⟨c15, t15, rfl, g15, h⟩ := tcs_inv h
 obtain ⟨c16, t16, rfl, g16, h⟩ := tcs_inv h
 obtain ⟨c17, t17, rfl, g17, h⟩ := tcs_inv h
 obtain ⟨c18, t18, rfl, g18, h⟩ := tcs_inv h
 obtain ⟨c19, t19, rfl, g19, h⟩ := tcs_inv h
 obtain ⟨c20, t20, rfl, g20, h⟩ := tcs_inv h
 obtain ⟨c21, t21, rfl, g21, h⟩ := tcs_inv h
 obtain ⟨c22, t22, rfl, g22, h⟩ := tcs_inv h
 obtain ⟨c23, t23, rfl, g23, h⟩ := tcs_inv h
 obtain ⟨c24, t24, rfl, g24, h⟩ := tcs_inv h
 obtain rfl := tcs_nil h
 obtain ⟨b0, rfl⟩ := g0.s
 obtain ⟨b1, rfl⟩ := g1.s
 obtain ⟨b2, e2⟩ := g2.sl (R := RBracket) rfl fun cs h => of_bracket h
 obtain ⟨b3, rfl⟩ := g3.b
 obtain ⟨b4, e4⟩ := g4.sl (R := (RU .u32)) rfl fun cs h => of_u32 h
 obtain ⟨b5, rfl⟩ := g5.b
 obtain ⟨b6, e6⟩ := g6.sl (R := (RU .u32)) rfl fun cs h => of_u32 h
 obtain ⟨b7, rfl⟩ := g7.b
 obtain ⟨b8, e8⟩ := g8.sl (R := (RU .u32)) rfl fun cs h => of_u32 h
 obtain ⟨b9, rfl⟩ := g9.b
 obtain ⟨b10, e10⟩ := g10.sl (R := (RU .u32)) rfl fun cs h => of_u32 h
 obtain ⟨b11, rfl⟩ := g11.i
 obtain ⟨b12, rfl⟩ := g12.i
 obtain ⟨b13, rfl⟩ := g13.b
 obtain ⟨b14, e14⟩ := g14.sl (R := (RU .u32)) rfl fun cs h => of_u32 h
 obtain ⟨b15, rfl⟩ := g15.b
 obtain ⟨b16, e16⟩ := g16.sl (R := (RU .u32)) rfl fun cs h => of_u32 h
 obtain ⟨b17, rfl⟩ := g17.b
 obtain ⟨b18, e18⟩ := g18.sl (R := (RU .u32)) rfl fun cs h => of_u32 h
 obtain ⟨b19, rfl⟩ := g19.b
 obtain ⟨b20, e20⟩ := g20.sl (R := (RU .u32)) rfl fun cs h => of_u32 h
 obtain ⟨b21, rfl⟩ := g21.i
 obtain ⟨b22, e22⟩ := g22.sl (R := RClass) rfl fun cs h => of_class h
 obtain ⟨b23, e23⟩ := g23.sl (R := RS) rfl fun cs h => of_str h
 obtain ⟨b24, e24⟩ := g24.sl (R := RYear) rfl fun cs h => of_year h
 exact ⟨⟨b0, b1, b2, ⟨b3, b4, b5, b6⟩, ⟨b7, b8, b9, b10⟩, b11, b12, ⟨b13, b14, b15, b16⟩, ⟨b17, b18, b19, b20⟩, b21, b22, b23, b24⟩, _, _, _, _, _, _, _, _, _, _, _, _, rfl, e2, e4, e6, e8, e10, e14, e16, e18, e20, e22, e23, e24⟩
end Go.Proofs.YtlhgffgfigkghaaGreatDoor
