/-
  The engine, part 16: how it is run by rewriting.
-/
import Derived.Test.YtnealepilmobjaaEng15
set_option linter.unusedVariables false
set_option linter.unusedSimpArgs false
namespace Go.Eng
open Go.RowKit

/-- what stands behind as many instructions as can be run -/
def runK (l : List I) (K : List I → AS → Prop) (st : AS) : Prop := K (run l st).2 (run l st).1
def runV (r : Option (AS × AV)) (d : Option Nat) (i : I) (l : List I) (K : List I → AS → Prop) (st : AS) : Prop :=
  match r with
  | some (st', v) => runK l K (st'.putO d v)
  | none => K (i :: l) st
def runG (g : AV) (want : Bool) (i : I) (l : List I) (K : List I → AS → Prop) (st : AS) : Prop :=
  match gd g want with
  | some true => runV (step i.o (i.d.getD 0) st) i.d i l K st
  | some false => runK l K (st.putO i.d (.tup []))
  | none => K (i :: l) st
section
variable {l : List I} {K : List I → AS → Prop} {st st' : AS} {d : Option Nat} {i : I} {o : Ins} {v : AV}
theorem runK_nil : runK [] K st = K [] st := rfl
theorem runK_cons : runK (⟨d, none, o⟩ :: l) K st = runV (step o (d.getD 0) st) d ⟨d, none, o⟩ l K st := by
  simp only [runK, run, exec1, go1, runV]
  cases step o (d.getD 0) st with
  | none => rfl
  | some p => rfl
theorem runK_guard {s : Nat} {b : Bool} : runK (⟨d, some (s, b), o⟩ :: l) K st = runG (st.get s) b ⟨d, some (s, b), o⟩ l K st := by
  simp only [runK, run, exec1, go1, runG, runV]
  cases gd (st.get s) b with
  | none => rfl
  | some b' =>
    cases b' with
    | true =>
      simp only
      cases step o (d.getD 0) st with
      | none => rfl
      | some p => rfl
    | false => rfl
theorem runV_some : runV (some (st', v)) d i l K st = runK l K (st'.putO d v) := rfl
theorem runV_none : runV none d i l K st = K (i :: l) st := rfl
theorem runG_tt {fr : Bool} : runG (.c (.t fr (.v (.bool true)))) true i l K st = runV (step i.o (i.d.getD 0) st) i.d i l K st := rfl
theorem runG_ff {fr : Bool} : runG (.c (.t fr (.v (.bool false)))) false i l K st = runV (step i.o (i.d.getD 0) st) i.d i l K st := rfl
theorem runG_tf {fr : Bool} : runG (.c (.t fr (.v (.bool true)))) false i l K st = runK l K (st.putO i.d (.tup [])) := rfl
theorem runG_ft {fr : Bool} : runG (.c (.t fr (.v (.bool false)))) true i l K st = runK l K (st.putO i.d (.tup [])) := rfl
theorem runG_sk {w : Bool} : runG (.tup []) w i l K st = runK l K (st.putO i.d (.tup [])) := rfl
theorem AR.go {Γ : Ctx} {Q : Exit → AS → Prop} (h : ∀ K : List I → AS → Prop, (∀ l st, AR Γ l Q st → K l st) → runK l K st) : AR Γ l Q st := by
  have := h (fun l st => AR Γ l Q st) fun _ _ h => h
  unfold runK at this
  exact AR.run (l' := (Eng.run l st).2) (st' := (Eng.run l st).1) rfl this
end

section state
variable {env : List (Nat × AV)} {rows : List (Nat × Row)} {i j d r : Nat} {v : AV} {row : Row} {c : C}
theorem ev_t : AS.ev ⟨env, rows⟩ (.t i) = (lk env i).getD .any := rfl
theorem get_mk : AS.get ⟨env, rows⟩ i = (lk env i).getD .any := rfl
theorem ev_int {st : AS} {k : IntKind} {n : Int} : st.ev (.k (.int k n)) = .c (.t true (.v (.int k n))) := rfl
theorem ev_bool {st : AS} {b : Bool} : st.ev (.k (.bool b)) = .c (.t true (.v (.bool b))) := rfl
theorem ev_string {st : AS} {s : ByteArray} : st.ev (.k (.string s)) = .c (.t true (.v (.string s))) := rfl
theorem ev_slice {st : AS} {A : Option Addr} {n k : Nat} : st.ev (.k (.slice A n k)) = .c (.t true (.v (.slice A n k))) := rfl
theorem ev_f {st : AS} {f : Nat} : st.ev (.f f) = .c (.fn f []) := rfl
theorem ev_ptr {st : AS} {A : Option Addr} : st.ev (.k (.pointer A)) = .c (.t true (.v (.pointer A))) := rfl
theorem lk_nil {α : Type} : lk ([] : List (Nat × α)) i = none := rfl
def lkB {α : Type} (b : Bool) (x : α) (l : List (Nat × α)) (i : Nat) : Option α := match b with
  | true => some x
  | false => lk l i
theorem lk_cons {α : Type} {x : α} {l : List (Nat × α)} : lk ((j, x) :: l) i = lkB (j == i) x l i := by
  simp only [lk, lkB]
  by_cases h : j = i
  · simp [h]
  · rw [if_neg h, beq_eq_false_iff_ne.2 h]
theorem lkB_t {α : Type} {x : α} {l : List (Nat × α)} : lkB true x l i = some x := rfl
theorem lkB_f {α : Type} {x : α} {l : List (Nat × α)} : lkB false x l i = lk l i := rfl
theorem putO_some : AS.putO ⟨env, rows⟩ (some d) v = ⟨(d, v) :: env, rows⟩ := rfl
theorem putO_none {st : AS} : AS.putO st none v = st := rfl
theorem row_mk : AS.row ⟨env, rows⟩ r = lk rows r := rfl
theorem new_mk : AS.new ⟨env, rows⟩ d row = ⟨env.map fun p => (p.1, p.2.kill d), (d, row) :: rows.map fun p => (p.1, p.2.kill d)⟩ := rfl
theorem setRow_mk : AS.setRow ⟨env, rows⟩ r row = ⟨env, (r, row) :: rows⟩ := rfl
theorem avkill_any : AV.kill r .any = .any := rfl
theorem avkill_c : AV.kill r (.c c) = .c (kill r c) := rfl
theorem avkill_agg {cs : List C} : AV.kill r (.agg cs) = .agg (cs.map (kill r)) := rfl
theorem avkill_tup {v : AV} {vs : List AV} : AV.kill r (.tup (v :: vs)) = .any := rfl
theorem avkill_tup0 : AV.kill r (.tup []) = .tup [] := rfl
theorem kill_any : kill r .any = .any := rfl
theorem kill_t {fr : Bool} {t : T} : kill r (.t fr t) = .t fr t := rfl
theorem kill_elt {fr : Bool} {ts : List T} : kill r (.elt fr ts) = .elt fr ts := rfl
theorem kill_row {r' off n : Nat} : kill r (.row r' off n) = if r' = r then .any else .row r' off n := rfl
theorem kill_ptr {r' k j : Nat} : kill r (.ptr r' k j) = if r' = r then .any else .ptr r' k j := rfl
theorem kill_fn {f : Nat} {cs : List C} : kill r (.fn f cs) = .fn f (cs.map (killL r)) := rfl
theorem rowkill_tr {fr : Bool} {ty size : Nat} {es : List (List T)} : Row.kill r (.tr fr ty size es) = .tr fr ty size es := rfl
theorem rowkill_bx {ty : Nat} {cs : List C} : Row.kill r (.bx ty cs) = .bx ty (cs.map (kill r)) := rfl
end state

/- what each instruction does, said of its operands' values -/
def binS (st : AS) (op : BinOp) (x y : AV) : Option (AS × AV) :=
  match x.val?, y.val? with
  | some u, some v => match binV op u v with
    | some r => some (st, scal r)
    | none => none
  | _, _ => none
def binBS (st : AS) (op : BinOp) (x y : AV) : Option (AS × AV) :=
  match x.val?, y.val? with
  | some u, some v => match binBV op u v with
    | some r => some (st, scal r)
    | none => none
  | _, _ => none
def pickS (st : AS) (c a b : AV) : Option (AS × AV) :=
  match c.bool? with
  | some t => some (st, if t = true then a else b)
  | none => none
def unS (st : AS) (op : UnOp) (x : AV) : Option (AS × AV) :=
  match x.val? with
  | some u => match unV op u with
    | some r => some (st, scal r)
    | none => none
  | none => none
def cviS (st : AS) (k : IntKind) (x : AV) : Option (AS × AV) :=
  match x.int? with
  | some n => some (st, scal (.int k (k.wrap n)))
  | none => none
def loadS (st : AS) (agg : Bool) (size : Nat) (x : AV) : Option (AS × AV) :=
  match x with
  | .c (.ptr r k j) => match st.row r with
    | some (.bx _ cs) => need (k = 0 ∧ j + size ≤ cs.length) (some (st, mkAV agg ((cs.drop j).take size)))
    | some (.tr fr _ sz es) => need (k < es.length ∧ j + size ≤ sz) (some (st, mkAV agg ((((getE es k).drop j).take size).map (.t fr))))
    | none => none
  | .c (.elt fr ts) => need (size ≤ ts.length) (some (st, mkAV agg ((ts.take size).map (.t fr))))
  | _ => none
def loadRow (st : AS) (agg : Bool) (size k j : Nat) : Option Row → Option (AS × AV)
  | some (.bx _ cs) => need (k = 0 ∧ j + size ≤ cs.length) (some (st, mkAV agg ((cs.drop j).take size)))
  | some (.tr fr _ sz es) => need (k < es.length ∧ j + size ≤ sz) (some (st, mkAV agg ((((getE es k).drop j).take size).map (.t fr))))
  | none => none
def storeS (st : AS) (size : Nat) (x : AV) (ds : Option (List C)) : Option (AS × AV) :=
  match x, ds with
  | .c (.ptr r k j), some ds => match st.row r with
    | some (.bx ty cs) => need (ds.length = size ∧ k = 0 ∧ j + size ≤ cs.length) (some (st.setRow r (.bx ty (setL cs j ds)), .any))
    | some (.tr fr ty sz es) => match trees ds with
      | some (fr', ts) => need (ds.length = size ∧ k < es.length ∧ j + size ≤ sz ∧ (fr = true → fr' = true)) (some (st.setRow r (.tr fr ty sz (es.set k (setL (getE es k) j ts))), .any))
      | none => none
    | none => none
  | _, _ => none
def storeRow (st : AS) (size r k j : Nat) (ds : List C) : Option Row → Option (AS × AV)
  | some (.bx ty cs) => need (ds.length = size ∧ k = 0 ∧ j + size ≤ cs.length) (some (st.setRow r (.bx ty (setL cs j ds)), .any))
  | some (.tr fr ty sz es) => match trees ds with
    | some (fr', ts) => need (ds.length = size ∧ k < es.length ∧ j + size ≤ sz ∧ (fr = true → fr' = true)) (some (st.setRow r (.tr fr ty sz (es.set k (setL (getE es k) j ts))), .any))
    | none => none
  | none => none
def nilS (st : AS) (x : AV) : Option (AS × AV) :=
  match x with
  | .c (.ptr r k j) => some (st, .c (.ptr r k j))
  | .c (.elt fr ts) => some (st, .c (.elt fr ts))
  | .c (.fn f caps) => some (st, .c (.fn f caps))
  | _ => none
def fadS (st : AS) (off : Nat) (x : AV) : Option (AS × AV) :=
  match x with
  | .c (.ptr r k j) => some (st, .c (.ptr r k (j + off)))
  | .c (.elt fr ts) => some (st, .c (.elt fr (ts.drop off)))
  | _ => none
def fldS (st : AS) (agg : Bool) (size off : Nat) (x : AV) : Option (AS × AV) :=
  match x with
  | .agg cs => need (off + size ≤ cs.length) (some (st, mkAV agg ((cs.drop off).take size)))
  | _ => none
def iadRow (st : AS) (size r off n : Nat) (k : Int) : Option Row → Option (AS × AV)
  | some (.tr _ _ sz _) => need (sz = size ∧ 0 ≤ k ∧ k < n) (some (st, .c (.ptr r (off + k.toNat) 0)))
  | _ => none
def iadS (st : AS) (size : Nat) (x : AV) (i : Option Int) : Option (AS × AV) :=
  match x, i with
  | .c (.row r off n), some k => match st.row r with
    | some (.tr _ _ sz _) => need (sz = size ∧ 0 ≤ k ∧ k < n) (some (st, .c (.ptr r (off + k.toNat) 0)))
    | _ => none
  | .c (.t fr (.sl sz es)), some k => need (sz = size ∧ 0 ≤ k ∧ k < es.length) (some (st, .c (.elt fr (getE es k.toNat))))
  | _, _ => none
def ixsS (st : AS) (x : Option Value) (i : Option Int) : Option (AS × AV) :=
  match x, i with
  | some (.string s), some k => need (0 ≤ k ∧ k < s.size) (some (st, scal (.int .u8 (bget s k.toNat).toNat)))
  | _, _ => none
def extS (st : AS) (x : AV) (i : Nat) : Option (AS × AV) :=
  match x with
  | .tup vs => match vs[i]? with
    | some v => some (st, v)
    | none => none
  | _ => none
def lenS (st : AS) (str : Bool) (x : AV) : Option (AS × AV) :=
  match str, x with
  | true, .c (.t _ (.v (.string s))) => some (st, scal (.int .i64 s.size))
  | false, .c (.t _ (.v (.slice _ n _))) => some (st, scal (.int .i64 n))
  | false, .c (.t _ (.sl _ es)) => some (st, scal (.int .i64 es.length))
  | false, .c (.row _ _ n) => some (st, scal (.int .i64 n))
  | _, _ => none
def slcSS (st : AS) (x : Option Value) (lo : Option Int) (hi : Nat → Option Int) : Option (AS × AV) :=
  match x with
  | some (.string s) => match lo, hi s.size with
    | some l, some h => need (0 ≤ l ∧ l ≤ h ∧ h ≤ s.size) (some (st, scal (.string (s.extract l.toNat h.toNat))))
    | _, _ => none
  | _ => none
def slcL (st : AS) (size : Nat) (x : AV) (lo : Option Int) (hi : Nat → Option Int) : Option (AS × AV) :=
  match x with
  | .c (.row r off n) => match st.row r with
    | some (.tr _ _ sz _) => match lo, hi n with
      | some l, some h => need (sz = size ∧ 0 ≤ l ∧ l ≤ h ∧ h ≤ n) (some (st, .c (.row r (off + l.toNat) (h.toNat - l.toNat))))
      | _, _ => none
    | _ => none
  | .c (.t fr (.sl sz es)) => match lo, hi es.length with
    | some l, some h => need (sz = size ∧ 0 ≤ l ∧ l ≤ h ∧ h ≤ es.length) (some (st, .c (.t fr (.sl sz ((es.drop l.toNat).take (h.toNat - l.toNat))))))
    | _, _ => none
  | _ => none
def boxS (st : AS) (d ty : Nat) (x : Option (List C)) : Option (AS × AV) :=
  match x with
  | some cs => some (st.new d (.bx ty (cs.map (kill d))), .c (.ptr d 0 0))
  | none => none
def buildS (st : AS) (x : Option (List C)) : Option (AS × AV) :=
  match x with
  | some cs => some (st, .agg cs)
  | none => none
def bslS (st : AS) (d ty size len : Nat) (x : Option (Bool × List (List T))) : Option (AS × AV) :=
  match x with
  | some (fr, es) => some (st.new d (.tr fr ty size es), .c (.row d 0 len))
  | none => none
def mkfS (st : AS) (f : Nat) (x : Option (List C)) : Option (AS × AV) :=
  match x with
  | some cs => some (st, .c (.fn f cs))
  | none => none
def mkslS (st : AS) (d ty size bytes : Nat) (zero : List Value) (l c : Option Int) : Option (AS × AV) :=
  match l, c with
  | some n, some m => need (0 ≤ n ∧ n ≤ m ∧ m * bytes ≤ 140737488355328 ∧ m ≤ 9223372036854775807) (some (st.new d (.tr true ty size (List.replicate n.toNat (zero.map .v))), .c (.row d 0 n.toNat)))
  | _, _ => none
/-- what is appended -/
def srcS (st : AS) (size : Nat) (y : AV) : Option (Bool × List (List T)) :=
  match y with
  | .c (.row r off n) => match st.row r with
    | some (.tr fr _ sz es) => need (sz = size ∧ off + n ≤ es.length) (some (fr, (es.drop off).take n))
    | _ => none
  | .c (.t fr (.sl sz es)) => need (sz = size) (some (fr, es))
  | .c (.t _ (.v (.slice none 0 0))) => some (true, [])
  | .c (.t _ (.v (.string s))) => need (size = 1) (some (true, s.data.toList.map fun b => [.v (.int .u8 b.toNat)]))
  | _ => none
def srcRow (size off n : Nat) : Option Row → Option (Bool × List (List T))
  | some (.tr fr _ sz es) => need (sz = size ∧ off + n ≤ es.length) (some (fr, (es.drop off).take n))
  | _ => none
def appS (st : AS) (d ty size bytes : Nat) (x : AV) (src : Option (Bool × List (List T))) : Option (AS × AV) :=
  match src with
  | none => none
  | some (fr', news) => match x with
    | .c (.row r off n) => match st.row r with
      | some (.tr fr ty' sz es) => need (off = 0 ∧ n = es.length ∧ ty' = ty ∧ sz = size ∧ (n + news.length) * bytes ≤ 140737488355328 ∧ n + news.length ≤ 9223372036854775807 ∧ r < 1000000)
          (some (st.new r (.tr (fr && fr') ty size (es ++ news)), .c (.row r 0 (n + news.length))))
      | _ => none
    | .c (.t _ (.v (.slice none 0 0))) => need (news.length * bytes ≤ 140737488355328 ∧ news.length ≤ 9223372036854775807)
          (some (st.new d (.tr fr' ty size news), .c (.row d 0 news.length)))
    | _ => none
def appRow (st : AS) (r ty size bytes n : Nat) (fr' : Bool) (news : List (List T)) : Option Row → Option (AS × AV)
  | some (.tr fr ty' sz es) => need (n = es.length ∧ ty' = ty ∧ sz = size ∧ (n + news.length) * bytes ≤ 140737488355328 ∧ n + news.length ≤ 9223372036854775807 ∧ r < 1000000)
          (some (st.new r (.tr (fr && fr') ty size (es ++ news)), .c (.row r 0 (n + news.length))))
  | _ => none

section steps
variable {st : AS} {d : Nat}
theorem step_mv {x : Od} : step (.mv x) d st = some (st, st.ev x) := rfl
theorem step_pick {c a b : Od} : step (.pick c a b) d st = pickS st (st.ev c) (st.ev a) (st.ev b) := rfl
theorem step_alloc {ty : Nat} {zero : List Value} : step (.alloc ty zero) d st = some (st.new d (.bx ty (zero.map fun v => .t true (.v v))), .c (.ptr d 0 0)) := rfl
theorem step_box {ty : Nat} {x : Od} : step (.box ty x) d st = boxS st d ty (st.ev x).cells? := rfl
theorem step_build {zero : List Value} {ps : List (Nat × Nat × Od)} : step (.build zero ps) d st = buildS st (fillC st (zero.map fun v => .t true (.v v)) ps) := rfl
theorem step_bslice {ty size len : Nat} {zero : List Value} {ps : List (Nat × Od)} : step (.bslice ty size len zero ps) d st = bslS st d ty size len (fillT st true (rep len (zero.map .v)) ps size) := rfl
theorem step_load {agg : Bool} {size : Nat} {x : Od} : step (.load agg size x) d st = loadS st agg size (st.ev x) := rfl
theorem step_store {size : Nat} {x y : Od} : step (.store size x y) d st = storeS st size (st.ev x) (st.ev y).cells? := rfl
theorem step_nilck {x : Od} : step (.nilck x) d st = nilS st (st.ev x) := rfl
theorem step_bin {op : BinOp} {x y : Od} : step (.bin op x y) d st = binS st op (st.ev x) (st.ev y) := rfl
theorem step_binB {op : BinOp} {x y : Od} : step (.binB op x y) d st = binBS st op (st.ev x) (st.ev y) := rfl
theorem step_un {op : UnOp} {x : Od} : step (.un op x) d st = unS st op (st.ev x) := rfl
theorem step_cvi {k : IntKind} {x : Od} : step (.cvi k x) d st = cviS st k (st.ev x) := rfl
theorem step_mkf {f : Nat} {caps : List Od} : step (.mkf f caps) d st = mkfS st f (capsOf st caps) := rfl
theorem step_mksl {ty size bytes : Nat} {zero : List Value} {l c : Od} : step (.mksl ty size bytes zero l c) d st = mkslS st d ty size bytes zero (st.ev l).int? (st.ev c).int? := rfl
theorem step_slcS {x : Od} {lo hi : Option Od} : step (.slcS x lo hi) d st = slcSS st (st.ev x).val? (bnd st lo 0) (bnd st hi) := rfl
theorem step_slc {size : Nat} {x : Od} {lo hi : Option Od} : step (.slc size x lo hi) d st = slcL st size (st.ev x) (bnd st lo 0) (bnd st hi) := rfl
theorem step_fad {off : Nat} {x : Od} : step (.fad off x) d st = fadS st off (st.ev x) := rfl
theorem step_fld {agg : Bool} {size off : Nat} {x : Od} : step (.fld agg size off x) d st = fldS st agg size off (st.ev x) := rfl
theorem step_iad {size : Nat} {x i : Od} : step (.iad size x i) d st = iadS st size (st.ev x) (st.ev i).int? := rfl
theorem step_ixs {x i : Od} : step (.ixs x i) d st = ixsS st (st.ev x).val? (st.ev i).int? := rfl
theorem step_ext {x : Od} {i : Nat} : step (.ext x i) d st = extS st (st.ev x) i := rfl
theorem step_len {s : Bool} {x : Od} : step (.len s x) d st = lenS st s (st.ev x) := by
  cases s <;> simp only [step] <;> split <;> simp_all [lenS, scal]
theorem step_app {ty size bytes : Nat} {zero : List Value} {x y : Od} : step (.app ty size bytes zero x y) d st = appS st d ty size bytes (st.ev x) (srcS st size (st.ev y)) := rfl
theorem step_call {f : Nat} {xs : List Od} : step (.call f xs) d st = none := rfl
theorem step_callv {f : Od} {xs : List Od} : step (.callv f xs) d st = none := rfl

variable {fr fr2 : Bool} {k : IntKind} {a b : Int} {s s2 : ByteArray}
theorem binS_add : binS st .add (.c (.t fr (.v (.int k a)))) (.c (.t fr2 (.v (.int k b)))) = some (st, .c (.t true (.v (.int k (k.wrap (a + b)))))) := by simp [binS, AV.val?, binV, need, scal]
theorem binS_sub : binS st .sub (.c (.t fr (.v (.int k a)))) (.c (.t fr2 (.v (.int k b)))) = some (st, .c (.t true (.v (.int k (k.wrap (a - b)))))) := by simp [binS, AV.val?, binV, need, scal]
theorem binS_mul : binS st .mul (.c (.t fr (.v (.int k a)))) (.c (.t fr2 (.v (.int k b)))) = some (st, .c (.t true (.v (.int k (k.wrap (a * b)))))) := by simp [binS, AV.val?, binV, need, scal]
theorem binS_quo (h : b ≠ 0) : binS st .quo (.c (.t fr (.v (.int k a)))) (.c (.t fr2 (.v (.int k b)))) = some (st, .c (.t true (.v (.int k (k.wrap (a.tdiv b)))))) := by simp [binS, AV.val?, binV, need, scal, h]
theorem binS_rem (h : b ≠ 0) : binS st .rem (.c (.t fr (.v (.int k a)))) (.c (.t fr2 (.v (.int k b)))) = some (st, .c (.t true (.v (.int k (a.tmod b))))) := by simp [binS, AV.val?, binV, need, scal, h]
theorem binS_and : binS st .and (.c (.t fr (.v (.int k a)))) (.c (.t fr2 (.v (.int k b)))) = some (st, .c (.t true (.v (.int k (k.wrap (BitVec.ofInt k.bits a &&& BitVec.ofInt k.bits b).toNat))))) := by simp [binS, AV.val?, binV, need, scal]
theorem binS_or : binS st .or (.c (.t fr (.v (.int k a)))) (.c (.t fr2 (.v (.int k b)))) = some (st, .c (.t true (.v (.int k (k.wrap (BitVec.ofInt k.bits a ||| BitVec.ofInt k.bits b).toNat))))) := by simp [binS, AV.val?, binV, need, scal]
theorem binS_shl {k2 : IntKind} (h : 0 ≤ b) : binS st .shl (.c (.t fr (.v (.int k a)))) (.c (.t fr2 (.v (.int k2 b)))) = some (st, .c (.t true (.v (.int k (k.wrap (a * 2 ^ min b.toNat k.bits)))))) := by simp [binS, AV.val?, binV, need, scal, h]
theorem binS_shr {k2 : IntKind} (h : 0 ≤ b) : binS st .shr (.c (.t fr (.v (.int k a)))) (.c (.t fr2 (.v (.int k2 b)))) = some (st, .c (.t true (.v (.int k (a.fdiv (2 ^ min b.toNat k.bits)))))) := by simp [binS, AV.val?, binV, need, scal, h]
theorem binS_eql : binS st .eql (.c (.t fr (.v (.int k a)))) (.c (.t fr2 (.v (.int k b)))) = some (st, .c (.t true (.v (.bool (decide (a = b)))))) := by
  have : (a == b) = decide (a = b) := by cases h : decide (a = b) <;> simp_all
  simp [binS, AV.val?, binV, need, scal, this]
theorem binS_neq : binS st .neq (.c (.t fr (.v (.int k a)))) (.c (.t fr2 (.v (.int k b)))) = some (st, .c (.t true (.v (.bool (!decide (a = b)))))) := by
  have : (a != b) = !decide (a = b) := by cases h : decide (a = b) <;> simp_all [bne]
  simp [binS, AV.val?, binV, need, scal, this]
theorem binS_lss : binS st .lss (.c (.t fr (.v (.int k a)))) (.c (.t fr2 (.v (.int k b)))) = some (st, .c (.t true (.v (.bool (decide (a < b)))))) := by simp [binS, AV.val?, binV, need, scal]
theorem binS_leq : binS st .leq (.c (.t fr (.v (.int k a)))) (.c (.t fr2 (.v (.int k b)))) = some (st, .c (.t true (.v (.bool (decide (a ≤ b)))))) := by simp [binS, AV.val?, binV, need, scal]
theorem binS_gtr : binS st .gtr (.c (.t fr (.v (.int k a)))) (.c (.t fr2 (.v (.int k b)))) = some (st, .c (.t true (.v (.bool (decide (b < a)))))) := by simp [binS, AV.val?, binV, need, scal]
theorem binS_geq : binS st .geq (.c (.t fr (.v (.int k a)))) (.c (.t fr2 (.v (.int k b)))) = some (st, .c (.t true (.v (.bool (decide (b ≤ a)))))) := by simp [binS, AV.val?, binV, need, scal]
theorem ba_eq : (s.toList == s2.toList) = decide (s = s2) := by
  have hto : ∀ x : ByteArray, x.toList = x.data.toList := ByteArray.toList_eq
  have : s.toList = s2.toList ↔ s = s2 := by
    rw [hto, hto]
    constructor
    · intro h
      cases s; cases s2
      simp_all [Array.toList_inj]
    · rintro rfl; rfl
  cases h : decide (s = s2) <;> simp_all
theorem binS_eqlS : binS st .eql (.c (.t fr (.v (.string s)))) (.c (.t fr2 (.v (.string s2)))) = some (st, .c (.t true (.v (.bool (decide (s = s2)))))) := by simp [binS, AV.val?, binV, need, scal, ba_eq]
theorem binS_neqS : binS st .neq (.c (.t fr (.v (.string s)))) (.c (.t fr2 (.v (.string s2)))) = some (st, .c (.t true (.v (.bool (!decide (s = s2)))))) := by simp [binS, AV.val?, binV, need, scal, ba_eq]
theorem binS_addS (h : s.size + s2.size ≤ 9223372036854775807) : binS st .add (.c (.t fr (.v (.string s)))) (.c (.t fr2 (.v (.string s2)))) = some (st, .c (.t true (.v (.string (s ++ s2))))) := by simp [binS, AV.val?, binV, need, scal, h]
theorem binBS_eql {p q : Bool} : binBS st .eql (.c (.t fr (.v (.bool p)))) (.c (.t fr2 (.v (.bool q)))) = some (st, .c (.t true (.v (.bool (p == q))))) := rfl
theorem binBS_neq {p q : Bool} : binBS st .neq (.c (.t fr (.v (.bool p)))) (.c (.t fr2 (.v (.bool q)))) = some (st, .c (.t true (.v (.bool (!(p == q)))))) := rfl
theorem pickS_t {x y : AV} : pickS st (.c (.t fr (.v (.bool true)))) x y = some (st, x) := rfl
theorem pickS_f {x y : AV} : pickS st (.c (.t fr (.v (.bool false)))) x y = some (st, y) := rfl
theorem unS_not {p : Bool} : unS st .not (.c (.t fr (.v (.bool p)))) = some (st, .c (.t true (.v (.bool (!p))))) := rfl
theorem unS_neg : unS st .neg (.c (.t fr (.v (.int k a)))) = some (st, .c (.t true (.v (.int k (k.wrap (0 - a)))))) := rfl
theorem cviS_int {k2 : IntKind} : cviS st k2 (.c (.t fr (.v (.int k a)))) = some (st, .c (.t true (.v (.int k2 (k2.wrap a))))) := rfl
theorem loadS_ptr {g : Bool} {size r kk j : Nat} : loadS st g size (.c (.ptr r kk j)) = loadRow st g size kk j (st.row r) := by
  simp only [loadS]
  cases st.row r with
  | none => rfl
  | some row => cases row <;> rfl
theorem loadRow_bx {g : Bool} {size j ty : Nat} {cs : List C} (h : j + size ≤ cs.length) : loadRow st g size 0 j (some (.bx ty cs)) = some (st, mkAV g ((cs.drop j).take size)) := by simp [loadRow, need, h]
theorem loadRow_tr {g : Bool} {size kk j ty sz : Nat} {es : List (List T)} (h : kk < es.length) (h2 : j + size ≤ sz) : loadRow st g size kk j (some (.tr fr ty sz es)) = some (st, mkAV g ((((getE es kk).drop j).take size).map (.t fr))) := by simp [loadRow, need, h, h2]
theorem loadS_elt {g : Bool} {size : Nat} {ts : List T} (h : size ≤ ts.length) : loadS st g size (.c (.elt fr ts)) = some (st, mkAV g ((ts.take size).map (.t fr))) := by simp [loadS, need, h]
theorem mkAV_agg {cs : List C} : mkAV true cs = .agg cs := rfl
theorem mkAV_one {c : C} : mkAV false [c] = .c c := rfl
theorem storeS_ptr {size r kk j : Nat} {ds : List C} : storeS st size (.c (.ptr r kk j)) (some ds) = storeRow st size r kk j ds (st.row r) := by
  simp only [storeS]
  cases st.row r with
  | none => rfl
  | some row => cases row <;> rfl
theorem storeRow_bx {size r j ty : Nat} {cs ds : List C} (h1 : ds.length = size) (h : j + size ≤ cs.length) : storeRow st size r 0 j ds (some (.bx ty cs)) = some (st.setRow r (.bx ty (setL cs j ds)), .any) := by simp [storeRow, need, h, h1]
theorem storeRow_tr {size r kk j ty sz : Nat} {es : List (List T)} {ds : List C} {fr' : Bool} {ts : List T} (ht : trees ds = some (fr', ts)) (h1 : ds.length = size) (h : kk < es.length) (h2 : j + size ≤ sz) (h3 : fr = true → fr' = true) :
    storeRow st size r kk j ds (some (.tr fr ty sz es)) = some (st.setRow r (.tr fr ty sz (es.set kk (setL (getE es kk) j ts))), .any) := by
  simp only [storeRow, ht]
  exact need_pos ⟨h1, h, h2, h3⟩ _
theorem nilS_ptr {r kk j : Nat} : nilS st (.c (.ptr r kk j)) = some (st, .c (.ptr r kk j)) := rfl
theorem nilS_elt {ts : List T} : nilS st (.c (.elt fr ts)) = some (st, .c (.elt fr ts)) := rfl
theorem nilS_fn {f : Nat} {cs : List C} : nilS st (.c (.fn f cs)) = some (st, .c (.fn f cs)) := rfl
theorem fadS_ptr {off r kk j : Nat} : fadS st off (.c (.ptr r kk j)) = some (st, .c (.ptr r kk (j + off))) := rfl
theorem fadS_elt {off : Nat} {ts : List T} : fadS st off (.c (.elt fr ts)) = some (st, .c (.elt fr (ts.drop off))) := rfl
theorem fldS_agg {g : Bool} {size off : Nat} {cs : List C} (h : off + size ≤ cs.length) : fldS st g size off (.agg cs) = some (st, mkAV g ((cs.drop off).take size)) := by simp [fldS, need, h]
theorem iadS_row {size r off n : Nat} : iadS st size (.c (.row r off n)) (some a) = iadRow st size r off n a (st.row r) := by
  simp only [iadS]
  cases st.row r with
  | none => rfl
  | some row => cases row <;> rfl
theorem iadRow_tr {size r off n ty : Nat} {es : List (List T)} (h0 : 0 ≤ a) (h : a < n) : iadRow st size r off n a (some (.tr fr ty size es)) = some (st, .c (.ptr r (off + a.toNat) 0)) := by simp [iadRow, need, h0, h]
theorem iadS_sl {size : Nat} {es : List (List T)} (h0 : 0 ≤ a) (h : a < es.length) : iadS st size (.c (.t fr (.sl size es))) (some a) = some (st, .c (.elt fr (getE es a.toNat))) := by simp [iadS, need, h0, h]
theorem ixsS_s (h0 : 0 ≤ a) (h : a < s.size) : ixsS st (some (.string s)) (some a) = some (st, .c (.t true (.v (.int .u8 (bget s a.toNat).toNat)))) := by simp [ixsS, need, h0, h, scal]
theorem int_v : AV.int? (.c (.t fr (.v (.int k a)))) = some a := rfl
theorem val_v {u : Value} : AV.val? (.c (.t fr (.v u))) = some u := rfl
theorem cells_c {c : C} : AV.cells? (.c c) = some [c] := rfl
theorem cells_agg {cs : List C} : AV.cells? (.agg cs) = some cs := rfl
theorem bool_v {p : Bool} : AV.bool? (.c (.t fr (.v (.bool p)))) = some p := rfl
theorem extS_0 {v : AV} {vs : List AV} : extS st (.tup (v :: vs)) 0 = some (st, v) := rfl
theorem extS_1 {u v : AV} {vs : List AV} : extS st (.tup (u :: v :: vs)) 1 = some (st, v) := rfl
theorem extS_2 {u u2 v : AV} {vs : List AV} : extS st (.tup (u :: u2 :: v :: vs)) 2 = some (st, v) := rfl
theorem extS_3 {u u2 u3 v : AV} {vs : List AV} : extS st (.tup (u :: u2 :: u3 :: v :: vs)) 3 = some (st, v) := rfl
theorem lenS_s : lenS st true (.c (.t fr (.v (.string s)))) = some (st, .c (.t true (.v (.int .i64 s.size)))) := rfl
theorem lenS_v {A : Option Addr} {n c : Nat} : lenS st false (.c (.t fr (.v (.slice A n c)))) = some (st, .c (.t true (.v (.int .i64 n)))) := rfl
theorem lenS_sl {sz : Nat} {es : List (List T)} : lenS st false (.c (.t fr (.sl sz es))) = some (st, .c (.t true (.v (.int .i64 es.length)))) := rfl
theorem lenS_row {r off n : Nat} : lenS st false (.c (.row r off n)) = some (st, .c (.t true (.v (.int .i64 n)))) := rfl
theorem bnd_none {n : Nat} : bnd st none n = some (n : Int) := rfl
theorem bnd_some {n : Nat} {x : Od} : bnd st (some x) n = (st.ev x).int? := rfl
theorem slcSS_s {lo : Option Int} {hi : Nat → Option Int} {l h : Int} (hl : lo = some l) (hh : hi s.size = some h) (h0 : 0 ≤ l) (h1 : l ≤ h) (h2 : h ≤ s.size) : slcSS st (some (.string s)) lo hi = some (st, .c (.t true (.v (.string (s.extract l.toNat h.toNat))))) := by simp [slcSS, hl, hh, need, h0, h1, h2, scal]
theorem boxS_s {ty : Nat} {cs : List C} : boxS st d ty (some cs) = some (st.new d (.bx ty (cs.map (kill d))), .c (.ptr d 0 0)) := rfl
theorem buildS_s {cs : List C} : buildS st (some cs) = some (st, .agg cs) := rfl
theorem bslS_s {ty size len : Nat} {es : List (List T)} : bslS st d ty size len (some (fr, es)) = some (st.new d (.tr fr ty size es), .c (.row d 0 len)) := rfl
theorem bslS_none {ty size len : Nat} : bslS st d ty size len none = none := rfl
theorem mkfS_s {f : Nat} {cs : List C} : mkfS st f (some cs) = some (st, .c (.fn f cs)) := rfl
theorem mkslS_s {ty size bytes : Nat} {zero : List Value} (h0 : 0 ≤ a) (h1 : a ≤ b) (h2 : b * bytes ≤ 140737488355328) (h3 : b ≤ 9223372036854775807) : mkslS st d ty size bytes zero (some a) (some b) = some (st.new d (.tr true ty size (List.replicate a.toNat (zero.map .v))), .c (.row d 0 a.toNat)) := by simp [mkslS, need, h0, h1, h2, h3]
theorem srcS_row {size r off n : Nat} : srcS st size (.c (.row r off n)) = srcRow size off n (st.row r) := by
  simp only [srcS]
  cases st.row r with
  | none => rfl
  | some row => cases row <;> rfl
theorem srcRow_tr {size off n ty : Nat} {es : List (List T)} (h : off + n ≤ es.length) : srcRow size off n (some (.tr fr ty size es)) = some (fr, (es.drop off).take n) := by simp [srcRow, need, h]
theorem srcS_sl {size : Nat} {es : List (List T)} : srcS st size (.c (.t fr (.sl size es))) = some (fr, es) := by simp [srcS, need]
theorem srcS_nil {size : Nat} : srcS st size (.c (.t fr (.v (.slice none 0 0)))) = some (true, []) := rfl
theorem srcS_str {s : ByteArray} : srcS st 1 (.c (.t fr (.v (.string s)))) = some (true, s.data.toList.map fun b => [.v (.int .u8 b.toNat)]) := by simp [srcS, need]
theorem appS_row {ty size bytes r n : Nat} {fr' : Bool} {news : List (List T)} : appS st d ty size bytes (.c (.row r 0 n)) (some (fr', news)) = appRow st r ty size bytes n fr' news (st.row r) := by
  simp only [appS]
  cases st.row r with
  | none => rfl
  | some row => cases row <;> simp [appRow]
theorem appRow_tr {ty size bytes r n : Nat} {fr' : Bool} {news es : List (List T)} (hn : n = es.length) (h : (n + news.length) * bytes ≤ 140737488355328) (h2 : n + news.length ≤ 9223372036854775807) (h3 : r < 1000000) :
    appRow st r ty size bytes n fr' news (some (.tr fr ty size es)) = some (st.new r (.tr (fr && fr') ty size (es ++ news)), .c (.row r 0 (n + news.length))) := by
  exact need_pos ⟨hn, rfl, rfl, h, h2, h3⟩ _
theorem appS_nil {ty size bytes : Nat} {fr' : Bool} {news : List (List T)} (h : news.length * bytes ≤ 140737488355328) (h2 : news.length ≤ 9223372036854775807) :
    appS st d ty size bytes (.c (.t fr (.v (.slice none 0 0)))) (some (fr', news)) = some (st.new d (.tr fr' ty size news), .c (.row d 0 news.length)) := by
  simp only [appS, need]
  rw [if_pos ⟨h, h2⟩]
end steps
theorem fillC_nil {st : AS} {cs : List C} : fillC st cs [] = some cs := rfl
def fillC1 (st : AS) (cs : List C) (off size : Nat) (r : List (Nat × Nat × Od)) : Option (List C) → Option (List C)
  | some ds => need (ds.length = size ∧ off + size ≤ cs.length) (fillC st (setL cs off ds) r)
  | none => none
theorem fillC_cons {st : AS} {cs : List C} {off size : Nat} {x : Od} {r : List (Nat × Nat × Od)} : fillC st cs ((off, size, x) :: r) = fillC1 st cs off size r (st.ev x).cells? := by
  simp only [fillC, fillC1]
  cases (st.ev x).cells? <;> rfl
theorem fillC1_some {st : AS} {cs ds : List C} {off size : Nat} {r : List (Nat × Nat × Od)} (h1 : ds.length = size) (h2 : off + size ≤ cs.length) : fillC1 st cs off size r (some ds) = fillC st (setL cs off ds) r := by simp [fillC1, need, h1, h2]
def fillT1 (st : AS) (fr : Bool) (es : List (List T)) (i size : Nat) (r : List (Nat × Od)) : Option (Bool × List T) → Option (Bool × List (List T))
  | some (fr', ts) => need (ts.length = size ∧ i < es.length) (fillT st (fr && fr') (es.set i ts) r size)
  | none => none
theorem fillT_nil {st : AS} {fr : Bool} {es : List (List T)} {size : Nat} : fillT st fr es [] size = some (fr, es) := rfl
def treesO : Option (List C) → Option (Bool × List T)
  | some cs => trees cs
  | none => none
theorem fillT_cons {st : AS} {fr : Bool} {es : List (List T)} {i size : Nat} {x : Od} {r : List (Nat × Od)} : fillT st fr es ((i, x) :: r) size = fillT1 st fr es i size r (treesO (st.ev x).cells?) := by
  simp only [fillT]
  cases hc : (st.ev x).cells? with
  | none => rfl
  | some ds =>
    simp only [treesO]
    cases ht : trees ds with
    | none => rfl
    | some p =>
      obtain ⟨fr', ts⟩ := p
      have hl : ts.length = ds.length := (trees_rep (ρ := fun _ => none) (w := default) (SF := fun _ => False) (SA := fun _ => False) (fun _ h => h) ht).1
      simp only [fillT1, hl]
theorem fillT1_some {st : AS} {fr fr' : Bool} {es : List (List T)} {ts : List T} {i size : Nat} {r : List (Nat × Od)} (h1 : ts.length = size) (h2 : i < es.length) : fillT1 st fr es i size r (some (fr', ts)) = fillT st (fr && fr') (es.set i ts) r size := by simp [fillT1, need, h1, h2]
theorem fillT1_none {st : AS} {fr : Bool} {es : List (List T)} {i size : Nat} {r : List (Nat × Od)} : fillT1 st fr es i size r none = none := rfl
theorem treesO_some {cs : List C} : treesO (some cs) = trees cs := rfl
def trees1 (fr : Bool) (t : T) : Option (Bool × List T) → Option (Bool × List T)
  | some (fr', ts) => some ((match t with | .v _ => fr' | .w _ => fr' | .sl _ _ => fr && fr'), t :: ts)
  | none => none
theorem trees_nil : trees [] = some (true, []) := rfl
theorem trees_t {fr : Bool} {t : T} {cs : List C} : trees (.t fr t :: cs) = trees1 fr t (trees cs) := by
  simp only [trees]
  cases trees cs <;> rfl
theorem trees_row {r off n : Nat} {cs : List C} : trees (.row r off n :: cs) = none := rfl
theorem trees1_none {fr : Bool} {t : T} : trees1 fr t none = none := rfl
theorem trees1_v {fr fr' : Bool} {u : Value} {ts : List T} : trees1 fr (.v u) (some (fr', ts)) = some (fr', .v u :: ts) := rfl
theorem trees1_sl {fr fr' : Bool} {s : Nat} {es : List (List T)} {ts : List T} : trees1 fr (.sl s es) (some (fr', ts)) = some (fr && fr', .sl s es :: ts) := rfl
def caps1 (c : AV) : Option (List C) → Option (List C)
  | some l => match c with
    | .c c => some (c :: l)
    | _ => none
  | none => none
theorem capsOf_nil {st : AS} : capsOf st [] = some [] := rfl
theorem capsOf_cons {st : AS} {x : Od} {r : List Od} : capsOf st (x :: r) = caps1 (st.ev x) (capsOf st r) := by
  simp only [capsOf, caps1]
  cases st.ev x <;> cases capsOf st r <;> rfl
theorem caps1_c {c : C} {l : List C} : caps1 (.c c) (some l) = some (c :: l) := rfl
theorem rep_zero {α : Type} {x : α} : rep 0 x = [] := rfl
theorem rep_succ {α : Type} {n : Nat} {x : α} : rep (n + 1) x = x :: rep n x := rfl
theorem setL_def {α : Type} (l : List α) (j : Nat) (x : List α) : setL l j x = l.take j ++ x ++ l.drop (j + x.length) := rfl
theorem getE_map {α : Type} {f : α → List T} {l : List α} {k : Nat} (h : k < l.length) : getE (l.map f) k = f l[k] := by
  simp [getE, List.getD_eq_getElem?_getD, h]

/-- behind a region only some slots are kept -/
def AS.keep (st : AS) (ks : List Nat) : AS := ⟨ks.map fun i => (i, st.get i), st.rows⟩
theorem lk_keep (st : AS) (ks : List Nat) (i : Nat) : lk (ks.map fun i => (i, st.get i)) i = none ∨ lk (ks.map fun i => (i, st.get i)) i = some (st.get i) := by
  induction ks with
  | nil => exact .inl rfl
  | cons k ks ih =>
    simp only [List.map_cons, lk]
    by_cases h : k = i
    · subst h; exact .inr (by simp)
    · rw [if_neg h]; exact ih
theorem Sat.keep {Γ : Ctx} {st : AS} {a : Act} {w : World} (h : Sat Γ st a w) (ks : List Nat) : Sat Γ (st.keep ks) a w := by
  obtain ⟨ρ, h⟩ := h
  refine ⟨ρ, h.weaken (fun r row hr => hr) fun i => ?_⟩
  rcases lk_keep st ks i with h1 | h1
  · have : (st.keep ks).get i = .any := by simp only [AS.keep]; rw [get_mk, h1]; rfl
    rw [this]; exact .any _
  · have : (st.keep ks).get i = st.get i := by simp only [AS.keep]; rw [get_mk, h1]; rfl
    rw [this]; exact h.env i
theorem AR.keep {Γ : Ctx} {Q : Exit → AS → Prop} {st : AS} (ks : List Nat) (h : Q .normal (st.keep ks)) : AR Γ [] Q st :=
  AR.of (st' := st.keep ks) (fun a w hs => hs.keep ks) (AR.nil h)
theorem keep_mk {env : List (Nat × AV)} {rows : List (Nat × Row)} {ks : List Nat} : AS.keep ⟨env, rows⟩ ks = ⟨ks.map fun i => (i, (lk env i).getD .any), rows⟩ := rfl
end Go.Eng
