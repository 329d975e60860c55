/-
  The engine, part 19: texts as lists of bytes; numbers that are counts.
-/
import Derived.Test.YtnealepilmobjaaEng18
set_option linter.unusedVariables false
set_option linter.unusedSimpArgs false
set_option linter.unusedVariables false
namespace Go.Eng
open Go.RowKit

/-- a text of these bytes -/
def bs (l : List UInt8) : ByteArray := ⟨l.toArray⟩
theorem bs_size {l : List UInt8} : (bs l).size = l.length := by simp [bs, ByteArray.size]
theorem bget_bs {l : List UInt8} {k : Nat} : bget (bs l) k = l.getD k 0 := by simp [bget, bs]
theorem bs_append {a b : List UInt8} : bs a ++ bs b = bs (a ++ b) := by
  apply ByteArray.ext
  rw [ByteArray.data_append]
  simp [bs]
theorem bs_extract {l : List UInt8} {i j : Nat} : (bs l).extract i j = bs ((l.drop i).take (j - i)) := by
  apply ByteArray.ext
  rw [ByteArray.data_extract]
  simp only [bs]
  apply Array.ext'
  simp [List.extract_eq_take_drop]
theorem bs_mk {l : List UInt8} : ByteArray.mk l.toArray = bs l := rfl
theorem bs_inj {a b : List UInt8} : bs a = bs b ↔ a = b := by
  constructor
  · intro h
    have := congrArg ByteArray.data h
    simpa [bs] using this
  · rintro rfl; rfl
theorem bs_dec {a b : List UInt8} : decide (bs a = bs b) = decide (a = b) := by
  cases h : decide (a = b) <;> simp_all [bs_inj]
theorem bs_surj (s : ByteArray) : ∃ l, s = bs l := ⟨s.data.toList, by cases s; simp [bs]⟩

section
variable {st : AS} {fr fr2 : Bool} {l l2 : List UInt8} {k : Nat}
theorem ixsS_bs (h : k < l.length) : ixsS st (some (.string (bs l))) (some (k : Int)) = some (st, .c (.t true (.v (.int .u8 (l.getD k 0).toNat)))) := by
  rw [ixsS_s (by omega) (by rw [bs_size]; omega), bget_bs]; rfl
theorem ixsS_bs0 (h : 0 < l.length) : ixsS st (some (.string (bs l))) (some 0) = some (st, .c (.t true (.v (.int .u8 (l.getD 0 0).toNat)))) := ixsS_bs (k := 0) h
theorem binS_addbs (h : l.length + l2.length ≤ 9223372036854775807) : binS st .add (.c (.t fr (.v (.string (bs l))))) (.c (.t fr2 (.v (.string (bs l2))))) = some (st, .c (.t true (.v (.string (bs (l ++ l2)))))) := by
  rw [binS_addS (by rw [bs_size, bs_size]; exact h), bs_append]
theorem slcSS_bs {i j : Nat} (h1 : i ≤ j) (h2 : j ≤ l.length) : slcSS st (some (.string (bs l))) (some (i : Int)) (fun _ => some (j : Int)) = some (st, .c (.t true (.v (.string (bs ((l.drop i).take (j - i))))))) := by
  rw [slcSS_s (l := i) (h := j) rfl rfl (by omega) (by omega) (by rw [bs_size]; omega), bs_extract]; rfl
theorem slcSS_bs0 {j : Nat} (h2 : j ≤ l.length) : slcSS st (some (.string (bs l))) (some 0) (fun _ => some (j : Int)) = some (st, .c (.t true (.v (.string (bs (l.take j)))))) := by
  have := slcSS_bs (st := st) (l := l) (i := 0) (j := j) (by omega) h2
  simpa using this
theorem slcSS_bsE {i : Nat} (h : i ≤ l.length) : slcSS st (some (.string (bs l))) (some (i : Int)) (fun n => some (n : Int)) = some (st, .c (.t true (.v (.string (bs (l.drop i)))))) := by
  rw [slcSS_s (l := i) (h := ((bs l).size : Int)) rfl rfl (by omega) (by rw [bs_size]; omega) (by omega), bs_extract]
  have : (((bs l).size : Int).toNat - (i : Int).toNat) = (l.drop i).length := by rw [List.length_drop, bs_size]; rfl
  rw [this, show (i : Int).toNat = i from rfl, List.take_length]
theorem srcS_bs : srcS st 1 (.c (.t fr (.v (.string (bs l))))) = some (true, l.map fun b => [.v (.int .u8 b.toNat)]) := by rw [srcS_str]; simp [bs]
theorem bnd_noneF : (bnd st none) = fun n : Nat => some (n : Int) := rfl
theorem bnd_someF {x : Od} : (bnd st (some x)) = fun _ : Nat => (st.ev x).int? := rfl
end

/- a store into a row of trees -/
def storeTr (st : AS) (size r kk j ty sz : Nat) (fr : Bool) (es : List (List T)) (n : Nat) : Option (Bool × List T) → Option (AS × AV)
  | some (fr', ts) => need (n = size ∧ kk < es.length ∧ j + size ≤ sz ∧ (fr = true → fr' = true)) (some (st.setRow r (.tr fr ty sz (es.set kk (setL (getE es kk) j ts))), .any))
  | none => none
section
variable {st : AS} {size r kk j ty sz : Nat} {fr fr' : Bool} {es : List (List T)} {ds : List C} {n : Nat} {ts : List T}
theorem storeRow_trT : storeRow st size r kk j ds (some (.tr fr ty sz es)) = storeTr st size r kk j ty sz fr es ds.length (trees ds) := by
  simp only [storeRow, storeTr]
  cases trees ds with
  | none => rfl
  | some p => rfl
theorem storeTr_t (h1 : n = size) (h2 : kk < es.length) (h3 : j + size ≤ sz) : storeTr st size r kk j ty sz fr es n (some (true, ts)) = some (st.setRow r (.tr fr ty sz (es.set kk (setL (getE es kk) j ts))), .any) := by
  simp only [storeTr]
  exact need_pos ⟨h1, h2, h3, fun _ => trivial⟩ _
theorem storeTr_f (h1 : n = size) (h2 : kk < es.length) (h3 : j + size ≤ sz) : storeTr st size r kk j ty sz false es n (some (fr', ts)) = some (st.setRow r (.tr false ty sz (es.set kk (setL (getE es kk) j ts))), .any) := by
  simp only [storeTr]
  exact need_pos ⟨h1, h2, h3, fun h => by cases h⟩ _
end

/- sums of counts are counts -/
theorem nat_add {a b : Nat} : (a : Int) + (b : Int) = ((a + b : Nat) : Int) := by omega
theorem nat_add1 {a : Nat} : (a : Int) + 1 = ((a + 1 : Nat) : Int) := by omega
theorem nat_sub {a b : Nat} (h : b ≤ a) : (a : Int) - (b : Int) = ((a - b : Nat) : Int) := by omega
theorem nat_sub1 {a : Nat} (h : 1 ≤ a) : (a : Int) - 1 = ((a - 1 : Nat) : Int) := by omega
theorem nat_mul {a b : Nat} : (a : Int) * (b : Int) = ((a * b : Nat) : Int) := by simp
theorem nat_lt {a b : Nat} : decide ((a : Int) < (b : Int)) = decide (a < b) := by simp
theorem nat_le {a b : Nat} : decide ((a : Int) ≤ (b : Int)) = decide (a ≤ b) := by simp
theorem nat_eq {a b : Nat} : decide ((a : Int) = (b : Int)) = decide (a = b) := by
  cases h : decide (a = b) <;> simp_all <;> omega
theorem nat_gt0 {a : Nat} : decide ((0 : Int) < (a : Int)) = decide (0 < a) := by
  cases h : decide (0 < a) <;> simp_all <;> omega
theorem nat_eq0 {a : Nat} : decide ((a : Int) = (0 : Int)) = decide (a = 0) := by
  cases h : decide (a = 0) <;> simp_all <;> omega
theorem w_i64 {n : Int} (h : -9223372036854775808 ≤ n ∧ n ≤ 9223372036854775807) : IntKind.i64.wrap n = n := by rw [IntKind.wrap_i64]; omega
theorem w_u64 {n : Int} (h : 0 ≤ n ∧ n ≤ 18446744073709551615) : IntKind.u64.wrap n = n := by rw [IntKind.wrap_u64]; omega
theorem w_u32 {n : Int} (h : 0 ≤ n ∧ n ≤ 4294967295) : IntKind.u32.wrap n = n := by rw [IntKind.wrap_u32]; omega
theorem w_u8 {n : Int} (h : 0 ≤ n ∧ n ≤ 255) : IntKind.u8.wrap n = n := by rw [IntKind.wrap_u8]; omega
theorem toNat_cast {n : Nat} : Int.toNat (n : Int) = n := rfl
end Go.Eng
