/- A reckoner for closed calls, part 4: states as functions; rows of calls; arguments as blocks that are read alone. -/
import Derived.WalkKit
import Derived.Orders
import Derived.Laws.Externs
import Derived.Lib.Bytealg
import Derived.ProofKit
import Derived.Test.YtlhgffgfigkghaaGreatDoorKA3
set_option linter.unusedVariables false
set_option linter.unusedSimpArgs false
namespace Go.CE
open Go.RowKit
open Go.Eng (Od need need_pos need_some setL binV binBV)
def Wp (r : Option AS) (Q : AS → Prop) : Prop := match r with
 | some st => Q st
 | none => False
section
variable {call : Call'} {st : AS} {d : Nat}
theorem wp_go {i : I} {l : List I} {st' : AS} {Q : AS → Prop} (h : evI call i st = some st') : Wp (evL call (i :: l) st) Q = Wp (evL call l st') Q := by simp only [evL, h]
theorem i_of {o : Ins} {v : AV} {mem : Tr Blk} {nx : Nat} (h : evV call o st = some (v, mem, nx)) : evI call ⟨some d, none, o⟩ st = some ((⟨st.env, mem, nx⟩ : AS).put d v) := by simp only [evI, gOk, h]; rfl
theorem i_none {o : Ins} {v : AV} {mem : Tr Blk} {nx : Nat} (h : evV call o st = some (v, mem, nx)) : evI call ⟨none, none, o⟩ st = some (⟨st.env, mem, nx⟩ : AS) := by simp only [evI, gOk, h]; rfl
theorem i_q {o : Ins} {v : AV} (hc : callee st o = none) (h : stepQ o st = some v) : evI call ⟨some d, none, o⟩ st = some (st.put d v) := i_of (by simp only [evV, hc, h])
theorem i_gd {dd : Option Nat} {s : Nat} {want : Bool} {o : Ins} (h : st.get s = .c (.v (.bool want))) : evI call ⟨dd, some (s, want), o⟩ st = evI call ⟨dd, none, o⟩ st := by
 simp only [evI, gOk, gd, h]
 cases want <;> rfl
theorem i_gx {s : Nat} {want : Bool} {o : Ins} (h : st.get s = .c (.v (.bool (!want)))) : evI call ⟨some d, some (s, want), o⟩ st = some (st.put d (.tup [])) := by
 simp only [evI, gOk, gd, h]
 cases want <;> rfl
theorem i_mv {x : Od} : evI call ⟨some d, none, .mv x⟩ st = some (st.put d (st.ev x)) := i_q rfl rfl
theorem i_bin {op : BinOp} {x y : Od} {u v r : Value} (hx : st.ev x = .c (.v u)) (hy : st.ev y = .c (.v v)) (h : binW op u v = some r) : evI call ⟨some d, none, .bin op x y⟩ st = some (st.put d (.c (.v r))) := i_q rfl (by simp only [stepQ, hx, hy, AV.val?, h]; rfl)
theorem i_un {op : UnOp} {x : Od} {u r : Value} (hx : st.ev x = .c (.v u)) (h : unW op u = some r) : evI call ⟨some d, none, .un op x⟩ st = some (st.put d (.c (.v r))) := i_q rfl (by simp only [stepQ, hx, AV.val?, h]; rfl)
theorem i_iad {size : Nat} {x i : Od} {b o n : Nat} {kd : IntKind} {j : Nat} (hx : st.ev x = .c (.sl b o n size)) (hi : st.ev i = .c (.v (.int kd (j : Nat)))) (h : j < n) : evI call ⟨some d, none, .iad size x i⟩ st = some (st.put d (.c (.ptr b (o + j * size)))) :=
 i_q rfl (by simp only [stepQ, hx, hi, AV.int?]; rw [need_pos ⟨trivial, by simp, by simp; omega⟩]; simp)
theorem i_load {size : Nat} {x : Od} {b o ty : Nat} {agg : Bool} {cs : List C} (hx : st.ev x = .c (.ptr b o)) (hm : st.mem.get b = some (.cells ty cs)) (h : o + size ≤ cs.length) : evI call ⟨some d, none, .load agg size x⟩ st = some (st.put d (mkAV agg ((cs.drop o).take size))) :=
 i_q rfl (by simp only [stepQ, hx, AS.read, AS.blk, hm]; rw [need_pos h])
theorem i_pick {c a b : Od} {t : Bool} (h : st.ev c = .c (.v (.bool t))) : evI call ⟨some d, none, .pick c a b⟩ st = some (st.put d (if t = true then st.ev a else st.ev b)) := i_q rfl (by simp only [stepQ, h, AV.bool?])
variable {l : List I} {Q : AS → Prop}
theorem w_nil (h : Q st) : Wp (evL call [] st) Q := h
theorem w_of {i : I} {st' : AS} (h : evI call i st = some st') (hw : Wp (evL call l st') Q) : Wp (evL call (i :: l) st) Q := by rw [wp_go h]; exact hw
theorem w_mv {x : Od} {v : AV} (hx : st.ev x = v) (hw : Wp (evL call l (st.put d v)) Q) : Wp (evL call (⟨some d, none, .mv x⟩ :: l) st) Q := w_of i_mv (by rw [hx]; exact hw)
theorem w_bin {op : BinOp} {x y : Od} {u v r : Value} (hx : st.ev x = .c (.v u)) (hy : st.ev y = .c (.v v)) (h : binW op u v = some r) (hw : Wp (evL call l (st.put d (.c (.v r)))) Q) : Wp (evL call (⟨some d, none, .bin op x y⟩ :: l) st) Q := w_of (i_bin hx hy h) hw
theorem w_un {op : UnOp} {x : Od} {u r : Value} (hx : st.ev x = .c (.v u)) (h : unW op u = some r) (hw : Wp (evL call l (st.put d (.c (.v r)))) Q) : Wp (evL call (⟨some d, none, .un op x⟩ :: l) st) Q := w_of (i_un hx h) hw
theorem w_iad {size : Nat} {x i : Od} {b o n : Nat} {kd : IntKind} {j : Nat} (hx : st.ev x = .c (.sl b o n size)) (hi : st.ev i = .c (.v (.int kd (j : Nat)))) (h : j < n) (hw : Wp (evL call l (st.put d (.c (.ptr b (o + j * size))))) Q) : Wp (evL call (⟨some d, none, .iad size x i⟩ :: l) st) Q := w_of (i_iad hx hi h) hw
theorem w_pick {c a b : Od} {t : Bool} {v : AV} (h : st.ev c = .c (.v (.bool t))) (hv : (if t = true then st.ev a else st.ev b) = v) (hw : Wp (evL call l (st.put d v)) Q) : Wp (evL call (⟨some d, none, .pick c a b⟩ :: l) st) Q := w_of (i_pick h) (by rw [hv]; exact hw)
theorem w_gd {dd : Option Nat} {s : Nat} {want : Bool} {o : Ins} (h : st.get s = .c (.v (.bool want))) (hw : Wp (evL call (⟨dd, none, o⟩ :: l) st) Q) : Wp (evL call (⟨dd, some (s, want), o⟩ :: l) st) Q := by
 simp only [evL, i_gd h]
 exact hw
theorem w_gx {s : Nat} {want : Bool} {o : Ins} (h : st.get s = .c (.v (.bool (!want)))) (hw : Wp (evL call l (st.put d (.tup []))) Q) : Wp (evL call (⟨some d, some (s, want), o⟩ :: l) st) Q := w_of (i_gx h) hw
theorem b_gtr (k : IntKind) (a b : Int) : binW .gtr (.int k a) (.int k b) = some (.bool (decide (b < a))) := by simp [binW, binV, need]
theorem b_lss (k : IntKind) (a b : Int) : binW .lss (.int k a) (.int k b) = some (.bool (decide (a < b))) := by simp [binW, binV, need]
theorem b_neq (k : IntKind) (a b : Int) : binW .neq (.int k a) (.int k b) = some (.bool (!decide (a = b))) := by
 simp only [binW, binV, need, if_true]
 congr 2
theorem b_add (k : IntKind) (a b : Int) : binW .add (.int k a) (.int k b) = some (.int k (k.wrap (a + b))) := by simp [binW, binV, need]
end
def Wx (r : Option (Exit × AS)) (Q : Exit → AS → Prop) : Prop := match r with
 | some (e, st) => Q e st
 | none => False
def onN (Qn : AS → Prop) (Q : Exit → AS → Prop) : Exit → AS → Prop := fun e st => match e with
 | .normal => Qn st
 | e => Q e st
theorem Wx.mono {r : Option (Exit × AS)} {Q R : Exit → AS → Prop} (h : Wx r Q) (g : ∀ e st, Q e st → R e st) : Wx r R := by
 cases r with
 | none => exact h
 | some p => exact g _ _ h
section
variable {call : Call'} {k : Nat} {st : AS} {Q : Exit → AS → Prop}
theorem wx_region {l : List I} (h : Wp (evL call l st) (Q .normal)) : Wx (evX call k (.region l) st) Q := by
 simp only [evX]
 cases he : evL call l st with
 | none => rw [he] at h; exact h
 | some st' => rw [he] at h; exact h
theorem wx_seq {a b : XC} (h : Wx (evX call k a st) (onN (fun st => Wx (evX call k b st) Q) Q)) : Wx (evX call k (.seq a b) st) Q := by
 simp only [evX]
 cases he : evX call k a st with
 | none => rw [he] at h; exact h
 | some p =>
  obtain ⟨e, st'⟩ := p
  rw [he] at h
  cases e <;> exact h
theorem wx_cond {c : Od} {a b : XC} {t : Bool} (hc : st.ev c = .c (.v (.bool t))) (h : Wx (evX call k (if t = true then a else b) st) Q) : Wx (evX call k (.cond c a b) st) Q := by
 simp only [evX, hc, AV.bool?]
 cases t <;> exact h
theorem wx_block {id : Nat} {b : XC} (h : Wx (evX call k b st) (fun e => Q (blockE id e))) : Wx (evX call k (.block id b) st) Q := by
 simp only [evX]
 cases he : evX call k b st with
 | none => rw [he] at h; exact h
 | some p => rw [he] at h; exact h
theorem wx_loop {b : XC} (h : Wx (evLoop (evX call k b) k st) Q) : Wx (evX call k (.loop b) st) Q := h
theorem wx_more {body : AS → Option (Exit × AS)} {n : Nat} (h : Wx (body st) (onN (fun st => Wx (evLoop body n st) Q) Q)) : Wx (evLoop body (n + 1) st) Q := by
 simp only [evLoop]
 cases he : body st with
 | none => rw [he] at h; exact h
 | some p =>
  obtain ⟨e, st'⟩ := p
  rw [he] at h
  cases e <;> exact h
end
open Go.RowKit
open Go.Eng (Od need need_pos need_some setL binV binBV)
def Wd (r : Option Acc) (Q : Acc → Prop) : Prop := match r with
 | some a => Q a
 | none => False
def Acc.see (a : Acc) (d : D) : AS := ⟨restr a.env d.sl, .nil, a.nx⟩
section
variable {call : Call'} {an : List Nat} {j : Nat} {ds : List D} {a : Acc} {Q : Acc → Prop}
theorem wd_nil (h : Q a) : Wd (dRun call an j [] a) Q := h
theorem wd_go {d : D} {a' : Acc} (h : dStep call j d (an.getD j 0) a = some a') (hw : Wd (dRun call an (j + 1) ds a') Q) : Wd (dRun call an j (d :: ds) a) Q := by
 simp only [dRun, h]
 exact hw
theorem wx_draw {k : Nat} {an : List Nat} {st : AS} {R : Exit → AS → Prop} (h : Wd (dRun call an 0 ds ⟨st.env, st.nx, [(0, st.mem)], [], [], 0⟩) (fun a => R .normal a.fin)) : Wx (evX call k (.draw ds an) st) R := by
 simp only [evX, evD]
 cases he : dRun call an 0 ds ⟨st.env, st.nx, [(0, st.mem)], [], [], 0⟩ with
 | none => rw [he] at h; exact h
 | some a => rw [he] at h; exact h
theorem restr_in {env : Tr AV} {l : List Nat} {q : Nat} (hq : q ∈ l) : (restr env l).get q = env.get q := by
 cases he : env.get q with
 | none =>
  cases hr : (restr env l).get q with
  | none => rfl
  | some v => have := (restr_get hr).2; rw [he] at this; cases this
 | some v =>
  induction l with
  | nil => cases hq
  | cons p l ih =>
   simp only [restr]
   cases hp : env.get p with
   | none =>
    rcases List.mem_cons.1 hq with rfl | h
    ·rw [he] at hp; cases hp
    ·exact ih h
   | some u =>
    simp only
    rw [Tr.get_put _ _ _ _ _ (by omega)]
    by_cases e : p = q
    ·subst e; rw [if_pos rfl, ← hp, he]
    ·rw [if_neg e]
     rcases List.mem_cons.1 hq with h | h
     ·exact absurd h.symm e
     ·exact ih h
variable {d : Nat} {af : List Nat}
theorem sameC_int (k : IntKind) (n : Int) : sameC (.v (.int k n)) (.v (.int k n)) = true := by simp [sameC, sameV]
end
open Go.RowKit
open Go.Eng (Od need need_pos need_some setL binV binBV)
section
variable {call : Call'} {st : AS} {d : Nat} {l : List I} {Q : AS → Prop}
theorem new_mem (k : Blk) (i : Nat) : (st.new k).mem.get i = if st.nx = i then some k else st.mem.get i := by
 show (Tr.put (st.nx + 1) st.mem st.nx (some k)).get i = _
 rw [Tr.get_put _ _ _ _ _ (by omega)]
theorem setB_mem (b : Nat) (k : Blk) (i : Nat) : (st.setB b k).mem.get i = if b = i then some k else st.mem.get i := by
 show (Tr.put (b + 1) st.mem b (some k)).get i = _
 rw [Tr.get_put _ _ _ _ _ (by omega)]
theorem moveB_mem (b : Nat) (k : Blk) (i : Nat) : (st.moveB b k).mem.get i = if st.nx = i then some k else if b = i then none else st.mem.get i := by
 show (Tr.put (st.nx + 1) (Tr.put (b + 1) st.mem b none) st.nx (some k)).get i = _
 rw [Tr.get_put _ _ _ _ _ (by omega), Tr.get_put _ _ _ _ _ (by omega)]
theorem i_e {o : Ins} {v : AV} {st' : AS} (hc : callee st o = none) (hq : stepQ o st = none) (h : stepE o st = some (st', v)) : evI call ⟨some d, none, o⟩ st = some ((⟨st.env, st'.mem, st'.nx⟩ : AS).put d v) := i_of (by simp only [evV, hc, hq, h])
theorem i_e0 {o : Ins} {v : AV} {st' : AS} (hc : callee st o = none) (hq : stepQ o st = none) (h : stepE o st = some (st', v)) : evI call ⟨none, none, o⟩ st = some (⟨st.env, st'.mem, st'.nx⟩ : AS) := i_none (v := v) (by simp only [evV, hc, hq, h])
theorem w_store {size : Nat} {x y : Od} {b o ty : Nat} {cs ds : List C} {v : AV} (hx : st.ev x = .c (.ptr b o)) (hy : st.ev y = v) (hv : v.cells? = some ds) (hm : st.mem.get b = some (.cells ty cs)) (hs : ds.length = size) (h : o + size ≤ cs.length)
    (hw : Wp (evL call l (st.setB b (.cells ty (setL cs o ds)))) Q) : Wp (evL call (⟨none, none, .store size x y⟩ :: l) st) Q :=
  w_of (i_e0 (st' := st.setB b (.cells ty (setL cs o ds))) (v := .any) rfl rfl (by
    simp only [stepE, hx, hy, hv, hm]
    rw [need_pos ⟨hs, h⟩])) hw
theorem w_call {f : Nat} {args : List Od} {vs : List AV} {v : AV} {mem : Tr Blk} {nx : Nat} (ha : args.map st.ev = vs) (h : call f vs st.mem st.nx = some (v, mem, nx)) (hw : Wp (evL call l ((⟨st.env, mem, nx⟩ : AS).put d v)) Q) : Wp (evL call (⟨some d, none, .call f args⟩ :: l) st) Q :=
 w_of (i_of (by simp only [evV, callee, ha, h])) hw
theorem w_app0 {ty size bytes m : Nat} {zero : List Value} {x y : Od} {news : List C} {v : AV} (hx : st.ev x = .c (.v (.slice none 0 0))) (hy : st.ev y = v) (hr : st.row size v = some (m + 1, news)) (h : (m + 1) * bytes ≤ 140737488355328) (hn : m + 1 ≤ 9223372036854775807)
    (hw : Wp (evL call l ((st.new (.cells ty news)).put d (.c (.sl st.nx 0 (m + 1) size)))) Q) : Wp (evL call (⟨some d, none, .app ty size bytes zero x y⟩ :: l) st) Q :=
  w_of (i_e (st' := st.new (.cells ty news)) rfl rfl (by
    simp only [stepE, hy, hr, hx]
    rw [need_pos ⟨h, hn, by omega⟩])) hw
theorem w_app {ty size bytes m b o n : Nat} {zero : List Value} {x y : Od} {news cs : List C} {v : AV} (hx : st.ev x = .c (.sl b o n size)) (hy : st.ev y = v) (hr : st.row size v = some (m + 1, news)) (hm : st.mem.get b = some (.cells ty cs)) (hl : o + n * size = cs.length)
    (h : (n + (m + 1)) * bytes ≤ 140737488355328) (hn : n + (m + 1) ≤ 9223372036854775807)
    (hw : Wp (evL call l ((st.moveB b (.cells ty (cs.drop o ++ news))).put d (.c (.sl st.nx 0 (n + (m + 1)) size)))) Q) : Wp (evL call (⟨some d, none, .app ty size bytes zero x y⟩ :: l) st) Q :=
  w_of (i_e (st' := st.moveB b (.cells ty (cs.drop o ++ news))) rfl rfl (by
    simp only [stepE, hy, hr, hx, hm]
    rw [need_pos ⟨hl, trivial, trivial, h, hn⟩])) hw
theorem w_appN {ty size bytes : Nat} {zero : List Value} {x y : Od} {v u : AV} {news : List C} (hx : st.ev x = u) (hu : (∃ b o n s, u = .c (.sl b o n s)) ∨ u = .c (.v (.slice none 0 0))) (hy : st.ev y = v) (hr : st.row size v = some (0, news))
    (hw : Wp (evL call l (st.put d u)) Q) : Wp (evL call (⟨some d, none, .app ty size bytes zero x y⟩ :: l) st) Q :=
  w_of (i_e (st' := st) rfl rfl (by
    rcases hu with ⟨b, o, n, s, rfl⟩ | rfl <;> simp only [stepE, hy, hr, hx])) hw
theorem row_sl {size b o n ty : Nat} {cs : List C} (hm : st.mem.get b = some (.cells ty cs)) (h : o + n * size ≤ cs.length) : st.row size (.c (.sl b o n size)) = some (n, (cs.drop o).take (n * size)) := by
 simp only [AS.row, AS.read, AS.blk, hm]
 rw [need_pos h]
 simp only []
 rw [need_pos trivial]
end
open Go.Eng (Od)
section
variable {call : Call'} {st : AS} {d : Nat} {l : List I} {Q : AS → Prop}
theorem w_fad {off : Nat} {x : Od} {b o : Nat} (hx : st.ev x = .c (.ptr b o)) (hw : Wp (evL call l (st.put d (.c (.ptr b (o + off))))) Q) : Wp (evL call (⟨some d, none, .fad off x⟩ :: l) st) Q :=
 w_of (i_q rfl (by simp only [stepQ, hx])) hw
theorem u_not (b : Bool) : unW .not (.bool b) = some (.bool (!b)) := rfl
end
open Go.RowKit
open Go.Eng (Od need need_pos need_some setL binV binBV)
theorem wrap_in {z : Int} (h : -9223372036854775808 ≤ z) (h' : z < 9223372036854775808) : IntKind.i64.wrap z = z := by
 simp [IntKind.wrap, IntKind.bits, IntKind.signed]
 omega
open Go.RowKit
open Go.Eng (Od need need_pos need_some setL binV binBV)
section
variable {call : Call'} {an : List Nat} {j : Nat} {a : Acc}
theorem flOk_all {bits : Nat} {m : Tr Blk} : ∀ {l : List (Nat × Ins × Tr AV × AV)}, (∀ p, p ∈ l → bits.testBit p.1 = true) → flOk bits m l = some [] := by
 intro l
 induction l with
 | nil => intro _; rfl
 | cons p l ih =>
  intro h
  obtain ⟨q, o, re, v⟩ := p
  simp only [flOk, ih fun p hp => h p (List.mem_cons_of_mem _ hp), h (q, o, re, v) (List.mem_cons_self ..)]
end
open Go.RowKit
open Go.Eng (Od need need_pos need_some setL binV binBV)
abbrev Env := Nat → AV
def eput (e : Env) (d : Nat) (v : AV) : Env := fun i => cond (Nat.beq d i) v (e i)
def eputs (e : Env) : List (Nat × AV) → Env
 | [] => e
 | p :: l => eput (eputs e l) p.1 p.2
theorem eput_get (e : Env) (d i : Nat) (v : AV) : eput e d v i = if d = i then v else e i := by
 unfold eput
 by_cases h : d = i
 ·subst h; simp
 ·rw [if_neg h]
  have : Nat.beq d i = false := by
   cases hb : Nat.beq d i with
   | false => rfl
   | true => exact absurd (Nat.eq_of_beq_eq_true hb) h
  rw [this]; rfl
theorem eput_self {e : Env} {d : Nat} {v : AV} (h : e d = v) : eput e d v = e := by
 funext i
 rw [eput_get]
 split
 ·rename_i hh; rw [← hh, h]
 ·rfl
abbrev nilv : AV := .c (.v (.slice none 0 0))
inductive HA where
 | blk (b : Nat) (k : Blk)
 | row (u : AV) (ty size n : Nat) (cs : List C)
def HA.fp : HA → List Nat
 | .blk b _ => [b]
 | .row u _ _ _ _ => match u with
  | .c (.sl b _ _ _) => [b]
  | _ => []
def HA.ok (m : Tr Blk) : HA → Prop
 | .blk b k => m.get b = some k
 | .row u ty size n cs => cs.length = n * size ∧ ((n = 0 ∧ u = nilv) ∨ ∃ b, u = .c (.sl b 0 n size) ∧ m.get b = some (.cells ty cs))
def fps (H : List HA) : List Nat := H.flatMap HA.fp
theorem fps_cons (a : HA) (H : List HA) : fps (a :: H) = a.fp ++ fps H := rfl
theorem fps_app (H H' : List HA) : fps (H ++ H') = fps H ++ fps H' := by simp [fps]
theorem HA.ok_of {a : HA} {m m' : Tr Blk} (h : a.ok m) (hm : ∀ b, b ∈ a.fp → m'.get b = m.get b) : a.ok m' := by
 cases a with
 | blk b k => show m'.get b = some k; rw [hm b (by simp [HA.fp])]; exact h
 | row u ty size n cs =>
  obtain ⟨h1, h2⟩ := h
  refine ⟨h1, ?_⟩
  rcases h2 with h2 | ⟨b, rfl, h3⟩
  ·exact .inl h2
  ·exact .inr ⟨b, rfl, by rw [hm b (by simp [HA.fp])]; exact h3⟩
structure Hold (z : Mem) (H : List HA) (m : Tr Blk) (nx : Nat) : Prop where
 z : ∀ b k, z b k → m.get b = some k ∧ b < nx ∧ b ∉ fps H
 h : ∀ a, a ∈ H → a.ok m
 lt : ∀ b, b ∈ fps H → b < nx
 nd : (fps H).Nodup
def zle (z z' : Mem) : Prop := ∀ b k, z b k → z' b k
theorem zle.refl (z : Mem) : zle z z := fun _ _ h => h
theorem zle.trans {a b c : Mem} (h : zle a b) (g : zle b c) : zle a c := fun x k hx => g x k (h x k hx)
structure Sf where
 e : Env
 z : Mem
 H : List HA
def Sf.put (fs : Sf) (d : Nat) (v : AV) : Sf := ⟨eput fs.e d v, fs.z, fs.H⟩
def Sf.own (fs : Sf) (d : Nat) (v : AV) (a : HA) : Sf := ⟨eput fs.e d v, fs.z, a :: fs.H⟩
def Sf.heap (fs : Sf) (H : List HA) : Sf := ⟨fs.e, fs.z, H⟩
def Sf.res (fs : Sf) (d : Nat) (v : AV) (z : Mem) (H : List HA) : Sf := ⟨eput fs.e d v, z, H⟩
def Sf.frz (fs : Sf) (z : Mem) (H : List HA) : Sf := ⟨fs.e, z, H⟩
def Sf.ev (fs : Sf) : Od → AV
 | .t i => fs.e i
 | .k v => avk v
 | .f f => .c (.fn f [] [])
 | .bad => .any
structure Base where
 m : Tr Blk
 n : Nat
 z : Mem
 L : List Nat
structure Rf (B : Base) (fs : Sf) (st : AS) : Prop where
 env : ∀ i, st.get i = fs.e i
 hold : Hold fs.z fs.H st.mem st.nx
 le : B.n ≤ st.nx
 old : ∀ b, b < B.n → b ∉ B.L → st.mem.get b = B.m.get b
 own : ∀ b, b ∈ fps fs.H → B.n ≤ b ∨ b ∈ B.L
 zle : zle B.z fs.z
 zin : ∀ b k, fs.z b k → B.z b k ∨ B.n ≤ b ∨ b ∈ B.L
section
variable {B : Base} {fs : Sf} {st : AS}
theorem Rf.ev (h : Rf B fs st) (x : Od) : st.ev x = fs.ev x := by
 cases x with
 | t i => exact h.env i
 | _ => rfl
theorem Rf.put (h : Rf B fs st) (d : Nat) (v : AV) : Rf B (fs.put d v) (st.put d v) := by
 refine ⟨fun i => ?_, h.hold, h.le, h.old, h.own, h.zle, h.zin⟩
 rw [get_put, show (fs.put d v).e = eput fs.e d v from rfl, eput_get]
 split
 ·rfl
 ·exact h.env i
theorem Hold.new {z : Mem} {H : List HA} {m m' : Tr Blk} {nx : Nat} (h : Hold z H m nx) (a : HA) (ha : a.ok m') (hfp : a.fp = [nx]) (hm : ∀ b, b ≠ nx → m'.get b = m.get b) : Hold z (a :: H) m' (nx + 1) := by
 have hne : ∀ b, b ∈ fps H → b ≠ nx := fun b hb e => by have := h.lt b hb; omega
 refine ⟨fun b k hb => ?_, fun x hx => ?_, fun b hb => ?_, ?_⟩
 ·obtain ⟨h1, h2, h3⟩ := h.z b k hb
  refine ⟨by rw [hm b (by omega)]; exact h1, by omega, ?_⟩
  rw [fps_cons, hfp]
  simp only [List.singleton_append, List.mem_cons, not_or]
  exact ⟨by omega, h3⟩
 ·rcases List.mem_cons.1 hx with rfl | hx
  ·exact ha
  ·refine HA.ok_of (h.h x hx) fun b hb => hm b (hne b ?_)
   exact List.mem_flatMap.2 ⟨x, hx, hb⟩
 ·rw [fps_cons, hfp] at hb
  rcases List.mem_cons.1 hb with rfl | hb
  ·omega
  ·have := h.lt b hb; omega
 ·rw [fps_cons, hfp]
  exact List.nodup_cons.2 ⟨fun hb => hne _ hb rfl, h.nd⟩
theorem Rf.new (h : Rf B fs st) {a : HA} {m' : Tr Blk} (ha : a.ok m') (hfp : a.fp = [st.nx]) (hm : ∀ b, b ≠ st.nx → m'.get b = st.mem.get b) : Rf B ⟨fs.e, fs.z, a :: fs.H⟩ ⟨st.env, m', st.nx + 1⟩ := by
 refine ⟨h.env, h.hold.new a ha hfp hm, Nat.le_succ_of_le h.le, fun b hb hl => ?_, fun b hb => ?_, h.zle, h.zin⟩
 ·have := h.le
  exact (hm b (by omega)).trans (h.old b hb hl)
 ·have hb : b ∈ fps (a :: fs.H) := hb
  rw [fps_cons, hfp] at hb
  rcases List.mem_cons.1 hb with rfl | hb
  ·exact .inl h.le
  ·exact h.own b hb
end
inductive Rep1 : List HA → HA → HA → List HA → Prop where
 | head (a a' : HA) (l : List HA) : Rep1 (a :: l) a a' (a' :: l)
 | tail (x a a' : HA) (l l' : List HA) (h : Rep1 l a a' l') : Rep1 (x :: l) a a' (x :: l')
theorem rep0 {a a' : HA} {l : List HA} : Rep1 (a :: l) a a' (a' :: l) := .head ..
theorem repS {x a a' : HA} {l l' : List HA} (h : Rep1 l a a' l') : Rep1 (x :: l) a a' (x :: l') := .tail _ _ _ _ _ h
theorem Rep1.mem {l l' : List HA} {a a' : HA} (h : Rep1 l a a' l') : a ∈ l := by
 induction h with
 | head => simp
 | tail x a a' l l' h ih => simp [ih]
theorem Rep1.split {l l' : List HA} {a a' : HA} (h : Rep1 l a a' l') : ∃ p q, l = p ++ a :: q ∧ l' = p ++ a' :: q := by
 induction h with
 | head a a' l => exact ⟨[], l, rfl, rfl⟩
 | tail x a a' l l' h ih =>
  obtain ⟨p, q, rfl, rfl⟩ := ih
  exact ⟨x :: p, q, rfl, rfl⟩
theorem mem_fps {H : List HA} {b : Nat} : b ∈ fps H ↔ ∃ a, a ∈ H ∧ b ∈ a.fp := by simp [fps, List.mem_flatMap]
section
variable {B : Base} {fs : Sf} {st : AS}
theorem Rf.rep (h : Rf B fs st) {a a' : HA} {H' : List HA} {m' : Tr Blk} {nx' : Nat} (hr : Rep1 fs.H a a' H') (hn : st.nx ≤ nx') (ha : a'.ok m') (hf : ∀ b, b ∈ a'.fp → b ∈ a.fp ∨ (st.nx ≤ b ∧ b < nx')) (hnd : a'.fp.Nodup)
  (hm : ∀ b, b < st.nx → b ∉ a.fp → m'.get b = st.mem.get b) : Rf B ⟨fs.e, fs.z, H'⟩ ⟨st.env, m', nx'⟩ := by
 obtain ⟨p, q, e1, e2⟩ := hr.split
 subst e2
 have hH := h.hold
 rw [e1] at hH
 have hown := h.own
 rw [e1] at hown
 have hnd0 := hH.nd
 rw [fps_app, fps_cons] at hnd0
 obtain ⟨n1, n2, n3⟩ := List.nodup_append.1 hnd0
 obtain ⟨n4, n5, n6⟩ := List.nodup_append.1 n2
 have hin : ∀ b, b ∈ fps p ∨ b ∈ fps q → b ∉ a.fp ∧ b < st.nx := by
  intro b hb
  refine ⟨fun hba => ?_, hH.lt b (by rw [fps_app, fps_cons]; simp; rcases hb with hb | hb <;> simp [hb])⟩
  rcases hb with hb | hb
  ·exact n3 b hb b (by simp [hba]) rfl
  ·exact n6 b hba b hb rfl
 refine ⟨h.env, ⟨fun b k hb => ?_, fun x hx => ?_, fun b hb => ?_, ?_⟩, Nat.le_trans h.le hn, fun b hb hl => ?_, fun b hb => ?_, h.zle, h.zin⟩
 ·obtain ⟨h1, h2, h3⟩ := hH.z b k hb
  rw [fps_app, fps_cons] at h3 ⊢
  simp only [List.mem_append, not_or] at h3 ⊢
  refine ⟨by rw [hm b h2 h3.2.1]; exact h1, Nat.lt_of_lt_of_le h2 hn, h3.1, fun hb2 => ?_, h3.2.2⟩
  rcases hf b hb2 with h4 | h4
  ·exact h3.2.1 h4
  ·omega
 ·simp only [List.mem_append, List.mem_cons] at hx
  have hk : ∀ x, x ∈ p ∨ x ∈ q → x.ok m' := fun x hx => by
   refine HA.ok_of (hH.h x (by simp; rcases hx with hx | hx <;> simp [hx])) fun b hb => ?_
   have := hin b (by rcases hx with hx | hx; exact .inl (mem_fps.2 ⟨x, hx, hb⟩); exact .inr (mem_fps.2 ⟨x, hx, hb⟩))
   exact hm b this.2 this.1
  rcases hx with hx | rfl | hx
  ·exact hk x (.inl hx)
  ·exact ha
  ·exact hk x (.inr hx)
 ·rw [fps_app, fps_cons] at hb
  simp only [List.mem_append] at hb
  rcases hb with hb | hb | hb
  ·exact Nat.lt_of_lt_of_le (hin b (.inl hb)).2 hn
  ·rcases hf b hb with h4 | h4
   ·exact Nat.lt_of_lt_of_le (hH.lt b (by rw [fps_app, fps_cons]; simp [h4])) hn
   ·exact h4.2
  ·exact Nat.lt_of_lt_of_le (hin b (.inr hb)).2 hn
 ·rw [fps_app, fps_cons]
  have hd : ∀ b, b ∈ fps p ∨ b ∈ fps q → b ∉ a'.fp := fun b hb hb2 => by
   have := hin b hb
   rcases hf b hb2 with h4 | h4
   ·exact this.1 h4
   ·omega
  refine List.nodup_append.2 ⟨n1, List.nodup_append.2 ⟨hnd, n5, fun x hx y hy e => ?_⟩, fun x hx y hy e => ?_⟩
  ·subst e; exact hd x (.inr hy) hx
  ·subst e
   rcases List.mem_append.1 hy with hy | hy
   ·exact hd x (.inl hx) hy
   ·exact n3 x hx x (by simp [hy]) rfl
 ·have hb1 : b < st.nx := Nat.lt_of_lt_of_le hb h.le
  refine (hm b hb1 fun hba => ?_).trans (h.old b hb hl)
  rcases hown b (by rw [fps_app, fps_cons]; simp [hba]) with h1 | h1
  ·omega
  ·exact hl h1
 ·have hb : b ∈ fps (p ++ a' :: q) := hb
  rw [fps_app, fps_cons] at hb
  simp only [List.mem_append] at hb
  rcases hb with hb | hb | hb
  ·exact hown b (by rw [fps_app, fps_cons]; simp [hb])
  ·rcases hf b hb with h4 | h4
   ·exact hown b (by rw [fps_app, fps_cons]; simp [h4])
   ·exact .inl (Nat.le_trans h.le h4.1)
  ·exact hown b (by rw [fps_app, fps_cons]; simp [hb])
theorem Rf.frz (h : Rf B fs st) {p q : List HA} {b : Nat} {k : Blk} {a : HA} (e : fs.H = p ++ a :: q) (hfp : a.fp = [b]) (ha : ∀ m, a.ok m → m.get b = some k) : Rf B ⟨fs.e, fun x y => fs.z x y ∨ (x = b ∧ y = k), p ++ q⟩ st := by
 have hH := h.hold
 rw [e] at hH
 have hown := h.own
 rw [e] at hown
 have hnd0 := hH.nd
 rw [fps_app, fps_cons, hfp] at hnd0
 have hbk := ha _ (hH.h a (by simp))
 have hnb : b ∉ fps (p ++ q) := by
  rw [fps_app]
  obtain ⟨n1, n2, n3⟩ := List.nodup_append.1 hnd0
  simp only [List.mem_append, not_or]
  refine ⟨fun hb => n3 b hb b (by simp) rfl, fun hb => ?_⟩
  exact (List.nodup_cons.1 n2).1 hb
 refine ⟨h.env, ⟨fun x y hx => ?_, fun x hx => ?_, fun x hx => ?_, ?_⟩, h.le, h.old, fun x hx => ?_, fun x y hx => .inl (h.zle x y hx), fun x y hx => ?_⟩
 ·rcases hx with hx | ⟨rfl, rfl⟩
  ·obtain ⟨h1, h2, h3⟩ := hH.z x y hx
   refine ⟨h1, h2, fun h4 => h3 ?_⟩
   rw [fps_app] at h4 ⊢
   rw [fps_cons]
   simp only [List.mem_append] at h4 ⊢
   rcases h4 with h4 | h4 <;> simp [h4]
  ·exact ⟨hbk, hH.lt _ (by rw [fps_app, fps_cons, hfp]; simp), hnb⟩
 ·refine hH.h x ?_
  simp only [List.mem_append, List.mem_cons] at hx ⊢
  rcases hx with hx | hx <;> simp [hx]
 ·refine hH.lt x ?_
  have hx : x ∈ fps (p ++ q) := hx
  rw [fps_app] at hx ⊢
  rw [fps_cons]
  simp only [List.mem_append] at hx ⊢
  rcases hx with hx | hx <;> simp [hx]
 ·rw [fps_app]
  obtain ⟨n1, n2, n3⟩ := List.nodup_append.1 hnd0
  exact List.nodup_append.2 ⟨n1, (List.nodup_cons.1 n2).2, fun x hx y hy => n3 x hx y (by simp [hy])⟩
 ·refine hown x ?_
  have hx : x ∈ fps (p ++ q) := hx
  rw [fps_app] at hx ⊢
  rw [fps_cons]
  simp only [List.mem_append] at hx ⊢
  rcases hx with hx | hx <;> simp [hx]
 ·rcases hx with hx | ⟨rfl, rfl⟩
  ·exact h.zin x y hx
  ·exact .inr (hown x (by rw [fps_app, fps_cons, hfp]; simp))
end
def FL (call : Call') (B : Base) (l : List I) (fs : Sf) (Q : Sf → Prop) : Prop := ∀ st, Rf B fs st → Wp (evL call l st) fun st' => ∃ fs', Rf B fs' st' ∧ Q fs'
def FX (call : Call') (k : Nat) (B : Base) (c : XC) (fs : Sf) (Q : Exit → Sf → Prop) : Prop := ∀ st, Rf B fs st → Wx (evX call k c st) fun e st' => ∃ fs', Rf B fs' st' ∧ Q e fs'
def seqQ (Qn : Sf → Prop) (Q : Exit → Sf → Prop) : Exit → Sf → Prop := fun e fs => match e with
 | .normal => Qn fs
 | e => Q e fs
section
variable {call : Call'} {k : Nat} {B : Base} {fs : Sf} {Q : Exit → Sf → Prop}
theorem fx_region {l : List I} (h : FL call B l fs (Q .normal)) : FX call k B (.region l) fs Q := fun st r => wx_region (h st r)
theorem fx_seq {a b : XC} (h : FX call k B a fs (seqQ (fun fs' => FX call k B b fs' Q) Q)) : FX call k B (.seq a b) fs Q := fun st r => wx_seq ((h st r).mono fun e st' ⟨fs', r', q⟩ => by
  cases e with
  | normal => exact q st' r'
  | _ => exact ⟨fs', r', q⟩)
theorem fx_sr {l : List I} {b : XC} (h : FL call B l fs (fun fs' => FX call k B b fs' Q)) : FX call k B (.seq (.region l) b) fs Q := fx_seq (fx_region h)
theorem fx_of {c c' : XC} (he : ∀ st, evX call k c st = evX call k c' st) (h : FX call k B c' fs Q) : FX call k B c fs Q := fun st r => by rw [he]; exact h st r
theorem fx_ss {a b c : XC} (h : FX call k B (.seq a (.seq b c)) fs Q) : FX call k B (.seq (.seq a b) c) fs Q := fx_of (fun st => by
  simp only [evX]
  cases evX call k a st with
  | none => rfl
  | some p => obtain ⟨e, st1⟩ := p; cases e <;> rfl) h
theorem fx_kseq {r : XC} (h : FX call k B r fs Q) : FX call k B (.seq .skip r) fs Q := fx_of (fun _ => rfl) h
theorem fx_eseq {id : Nat} {r : XC} (h : Q (.exit id) fs) : FX call k B (.seq (.exit id) r) fs Q := fun st rf => ⟨fs, rf, h⟩
theorem fx_rseq {r : XC} (h : Q .ret fs) : FX call k B (.seq .ret r) fs Q := fun st rf => ⟨fs, rf, h⟩
theorem fx_skip (h : Q .normal fs) : FX call k B .skip fs Q := fun st rf => ⟨fs, rf, h⟩
theorem fx_ret (h : Q .ret fs) : FX call k B .ret fs Q := fun st rf => ⟨fs, rf, h⟩
theorem fx_block {id : Nat} {b : XC} (h : FX call k B b fs fun e => Q (blockE id e)) : FX call k B (.block id b) fs Q := fun st r => wx_block (h st r)
theorem fx_condB {c : Od} {a b : XC} {t : Bool} (hc : fs.ev c = .c (.v (.bool t))) (h1 : t = true → FX call k B a fs Q) (h2 : t = false → FX call k B b fs Q) : FX call k B (.cond c a b) fs Q := fun st r => by
 refine wx_cond (t := t) (by rw [r.ev]; exact hc) ?_
 cases t with
 | true => exact h1 rfl st r
 | false => exact h2 rfl st r
theorem fx_condD {c : Od} {a b : XC} {P : Prop} [Decidable P] (hc : fs.ev c = .c (.v (.bool (decide P)))) (h1 : P → FX call k B a fs Q) (h2 : ¬ P → FX call k B b fs Q) : FX call k B (.cond c a b) fs Q :=
 fx_condB hc (fun h => h1 (of_decide_eq_true h)) (fun h => h2 (of_decide_eq_false h))
theorem fx_condT {c : Od} {a b : XC} (hc : fs.ev c = .c (.v (.bool true))) (h : FX call k B a fs Q) : FX call k B (.cond c a b) fs Q := fx_condB hc (fun _ => h) (fun h => by cases h)
theorem fx_condF {c : Od} {a b : XC} (hc : fs.ev c = .c (.v (.bool false))) (h : FX call k B b fs Q) : FX call k B (.cond c a b) fs Q := fx_condB hc (fun h => by cases h) (fun _ => h)
theorem fx_cseq {c : Od} {a b r : XC} (h : FX call k B (.cond c (.seq a r) (.seq b r)) fs Q) : FX call k B (.seq (.cond c a b) r) fs Q := fx_of (fun st => by
  simp only [evX]
  cases (st.ev c).bool? with
  | none => rfl
  | some t => cases t <;> rfl) h
theorem sq_n {Qn : Sf → Prop} (h : Qn fs) : seqQ Qn Q .normal fs := h
theorem sq_r {Qn : Sf → Prop} (h : Q .ret fs) : seqQ Qn Q .ret fs := h
def LQ (I : Nat → Sf → Prop) (n : Nat) (Q : Exit → Sf → Prop) : Exit → Sf → Prop := fun e fs => match e with
 | .normal => ∃ n', n' < n ∧ I n' fs
 | e => Q e fs
theorem lq_n {I : Nat → Sf → Prop} {n n' : Nat} (h : n' < n) (hi : I n' fs) : LQ I n Q .normal fs := ⟨n', h, hi⟩
theorem lq_r {I : Nat → Sf → Prop} {n : Nat} (h : Q .ret fs) : LQ I n Q .ret fs := h
theorem lq_e {I : Nat → Sf → Prop} {n id : Nat} (h : Q (.exit id) fs) : LQ I n Q (.exit id) fs := h
theorem fx_loop {b : XC} (I : Nat → Sf → Prop) (step : ∀ n fs, I n fs → FX call k B b fs (LQ I n Q)) (n : Nat) (h0 : I n fs) (hk : n < k) : FX call k B (.loop b) fs Q := by
 have key : ∀ (n : Nat) (j : Nat) (fs : Sf) (st : AS), n < j → I n fs → Rf B fs st → Wx (evLoop (evX call k b) j st) fun e st' => ∃ fs', Rf B fs' st' ∧ Q e fs' := by
  intro n
  induction n using Nat.strongRecOn with
  | ind n ih =>
   intro j fs st hj hi r
   obtain ⟨j, rfl⟩ : ∃ i, j = i + 1 := ⟨j - 1, by omega⟩
   refine wx_more ((step n fs hi st r).mono fun e st' ⟨fs', r', q⟩ => ?_)
   cases e with
   | normal =>
    obtain ⟨n', hn, hi'⟩ := q
    exact ih n' hn j fs' st' (by omega) hi' r'
   | _ => exact ⟨fs', r', q⟩
 exact fun st r => wx_loop (key n k fs st hk h0 r)
inductive AtL (e : Env) : List (Nat × AV) → Prop where
 | nil : AtL e []
 | cons (i : Nat) (v : AV) (l : List (Nat × AV)) (h : e i = v) (t : AtL e l) : AtL e ((i, v) :: l)
theorem atn {e : Env} : AtL e [] := .nil
theorem atc {e : Env} {i : Nat} {v : AV} {l : List (Nat × AV)} (h : e i = v) (t : AtL e l) : AtL e ((i, v) :: l) := .cons i v l h t
theorem AtL.eq {e : Env} {l : List (Nat × AV)} (h : AtL e l) : eputs e l = e := by
 induction h with
 | nil => rfl
 | cons i v l h t ih =>
  show eput (eputs e l) i v = e
  rw [ih]
  exact eput_self h
theorem fx_at {c : XC} {e : Env} {z : Mem} {H : List HA} {l : List (Nat × AV)} (h : AtL e l) (hx : ∀ e', FX call k B c ⟨eputs e' l, z, H⟩ Q) : FX call k B c ⟨e, z, H⟩ Q := by
 have := hx e
 rw [h.eq] at this
 exact this
end
open Go.RowKit
open Go.Eng (Od need need_pos need_some setL binV binBV)
def lenOf : AV → Option Nat
 | .c (.v (.slice none 0 0)) => some 0
 | .c (.sl _ _ n _) => some n
 | .c .em => some 0
 | _ => none
def fillSE (ev : Od → AV) (size : Nat) : List C → List (Nat × Od) → Option (List C)
 | cs, [] => some cs
 | cs, (i, x) :: r => match (ev x).cells? with
  | some ds => need (ds.length = size ∧ i * size + size ≤ cs.length) (fillSE ev size (setL cs (i * size) ds) r)
  | none => none
theorem fillS_eq (st : AS) (size : Nat) (cs : List C) (l : List (Nat × Od)) : fillS st size cs l = fillSE st.ev size cs l := by
 induction l generalizing cs with
 | nil => rfl
 | cons p l ih =>
  obtain ⟨i, x⟩ := p
  simp only [fillS, fillSE]
  cases (st.ev x).cells? with
  | none => rfl
  | some ds => simp only [ih]
def fillCE (ev : Od → AV) : List C → List (Nat × Nat × Od) → Option (List C)
 | cs, [] => some cs
 | cs, (off, size, x) :: r => match (ev x).cells? with
  | some ds => need (ds.length = size ∧ off + size ≤ cs.length) (fillCE ev (setL cs off ds) r)
  | none => none
theorem fillC_eq (st : AS) (cs : List C) (l : List (Nat × Nat × Od)) : fillC st cs l = fillCE st.ev cs l := by
 induction l generalizing cs with
 | nil => rfl
 | cons p l ih =>
  obtain ⟨i, j, x⟩ := p
  simp only [fillC, fillCE]
  cases (st.ev x).cells? with
  | none => rfl
  | some ds => simp only [ih]
theorem Rf.evf {B : Base} {fs : Sf} {st : AS} (h : Rf B fs st) : st.ev = fs.ev := funext h.ev
theorem mem0 {a : HA} {l : List HA} : a ∈ a :: l := List.mem_cons_self ..
theorem memS {a x : HA} {l : List HA} (h : a ∈ l) : a ∈ x :: l := List.mem_cons_of_mem _ h
theorem len1 {n m : Nat} (h : Nat.ble n m = true) : n ≤ m := Nat.le_of_ble_eq_true h
section
variable {call : Call'} {B : Base} {fs : Sf} {l : List I} {Q : Sf → Prop} {d : Nat}
theorem fl_nil (h : Q fs) : FL call B [] fs Q := fun st r => w_nil ⟨fs, r, h⟩
theorem fl_q {o : Ins} {v : AV} (hc : ∀ st : AS, callee st o = none) (h : ∀ st, Rf B fs st → stepQ o st = some v) (hw : FL call B l (fs.put d v) Q) : FL call B (⟨some d, none, o⟩ :: l) fs Q := fun st r => w_of (i_q (hc st) (h st r)) (hw _ (r.put d v))
theorem fl_mv {x : Od} {v : AV} (hx : fs.ev x = v) (hw : FL call B l (fs.put d v) Q) : FL call B (⟨some d, none, .mv x⟩ :: l) fs Q := fun st r => w_mv ((r.ev x).trans hx) (hw _ (r.put d v))
theorem fl_bin {op : BinOp} {x y : Od} {u v r : Value} (hx : fs.ev x = .c (.v u)) (hy : fs.ev y = .c (.v v)) (h : binW op u v = some r) (hw : FL call B l (fs.put d (.c (.v r))) Q) : FL call B (⟨some d, none, .bin op x y⟩ :: l) fs Q :=
 fun st rf => w_bin ((rf.ev x).trans hx) ((rf.ev y).trans hy) h (hw _ (rf.put _ _))
theorem fl_binB {op : BinOp} {x y : Od} {u v r : Value} (hx : fs.ev x = .c (.v u)) (hy : fs.ev y = .c (.v v)) (h : binBV op u v = some r) (hw : FL call B l (fs.put d (.c (.v r))) Q) : FL call B (⟨some d, none, .binB op x y⟩ :: l) fs Q :=
 fl_q (fun _ => rfl) (fun st rf => by simp only [stepQ, rf.ev, hx, hy, AV.val?, h]; rfl) hw
theorem fl_un {op : UnOp} {x : Od} {u r : Value} (hx : fs.ev x = .c (.v u)) (h : unW op u = some r) (hw : FL call B l (fs.put d (.c (.v r))) Q) : FL call B (⟨some d, none, .un op x⟩ :: l) fs Q := fun st rf => w_un ((rf.ev x).trans hx) h (hw _ (rf.put _ _))
theorem fl_len {x : Od} {v : AV} {n : Nat} (hx : fs.ev x = v) (h : lenOf v = some n) (hw : FL call B l (fs.put d (.c (.v (.int .i64 n)))) Q) : FL call B (⟨some d, none, .len false x⟩ :: l) fs Q := by
 refine fl_q (fun _ => rfl) (fun st rf => ?_) hw
 simp only [stepQ, rf.ev, hx]
 unfold lenOf at h
 split at h <;> first | (injection h with h; subst h; rfl) | cases h
theorem fl_pick {c a b : Od} {t : Bool} {v : AV} (h : fs.ev c = .c (.v (.bool t))) (hv : (if t = true then fs.ev a else fs.ev b) = v) (hw : FL call B l (fs.put d v) Q) : FL call B (⟨some d, none, .pick c a b⟩ :: l) fs Q := fun st r => w_pick ((r.ev c).trans h) (by rw [r.ev, r.ev]; exact hv) (hw _ (r.put _ _))
theorem fl_fad {off : Nat} {x : Od} {b o : Nat} (hx : fs.ev x = .c (.ptr b o)) (hw : FL call B l (fs.put d (.c (.ptr b (o + off)))) Q) : FL call B (⟨some d, none, .fad off x⟩ :: l) fs Q := fun st r => w_fad ((r.ev x).trans hx) (hw _ (r.put _ _))
theorem fl_build {zero : List Value} {parts : List (Nat × Nat × Od)} {cs : List C} (h : fillCE fs.ev (zero.map fun v => .v v) parts = some cs) (hw : FL call B l (fs.put d (.agg cs)) Q) : FL call B (⟨some d, none, .build zero parts⟩ :: l) fs Q :=
 fl_q (fun _ => rfl) (fun st rf => by simp only [stepQ, fillC_eq, rf.evf, h]) hw
theorem fl_nilck {x : Od} {b o : Nat} (hx : fs.ev x = .c (.ptr b o)) (hw : FL call B l (fs.put d (.c (.ptr b o))) Q) : FL call B (⟨some d, none, .nilck x⟩ :: l) fs Q :=
 fl_q (fun _ => rfl) (fun st rf => by simp only [stepQ, rf.ev, hx]) hw
theorem fl_iad {size : Nat} {x i : Od} {b o n : Nat} {kd : IntKind} {z : Int} (hx : fs.ev x = .c (.sl b o n size)) (hi : fs.ev i = .c (.v (.int kd z))) (j : Nat) (hj : z = (j : Int)) (h : j < n) (hw : FL call B l (fs.put d (.c (.ptr b (o + j * size)))) Q) : FL call B (⟨some d, none, .iad size x i⟩ :: l) fs Q :=
 fun st r => w_iad ((r.ev x).trans hx) ((r.ev i).trans (by rw [hi, hj])) h (hw _ (r.put _ _))
theorem fl_ld {agg : Bool} {size : Nat} {x : Od} {b o ty : Nat} {cs : List C} {v : AV} (hx : fs.ev x = .c (.ptr b o)) (hm : HA.blk b (.cells ty cs) ∈ fs.H) (hl : o + size ≤ cs.length) (hv : mkAV agg ((cs.drop o).take size) = v) (hw : FL call B l (fs.put d v) Q) : FL call B (⟨some d, none, .load agg size x⟩ :: l) fs Q :=
 fun st r => w_of (i_load ((r.ev x).trans hx) (r.hold.h _ hm) hl) (by rw [hv]; exact hw _ (r.put _ _))
theorem fl_new {o : Ins} {k : Blk} {w : Nat → AV} (hc : ∀ st : AS, callee st o = none) (hq : ∀ st, stepQ o st = none) (he : ∀ st, Rf B fs st → stepE o st = some (st.new k, w st.nx)) (hw : ∀ b, FL call B l (fs.own d (w b) (.blk b k)) Q) : FL call B (⟨some d, none, o⟩ :: l) fs Q := fun st r => by
 refine w_of (i_e (hc st) (hq st) (he st r)) ?_
 have r1 := r.new (a := .blk st.nx k) (m' := (st.new k).mem) (by show (st.new k).mem.get st.nx = some k; rw [new_mem, if_pos rfl]) rfl (fun b hb => by rw [new_mem, if_neg fun e => hb e.symm])
 exact hw st.nx _ (r1.put d (w st.nx))
theorem fl_box {ty : Nat} {x : Od} {v : AV} {cs : List C} (hx : fs.ev x = v) (hv : v.cells? = some cs) (hw : ∀ b, FL call B l (fs.own d (.c (.ptr b 0)) (.blk b (.cells ty cs))) Q) : FL call B (⟨some d, none, .box ty x⟩ :: l) fs Q :=
 fl_new (w := fun b => .c (.ptr b 0)) (fun _ => rfl) (fun _ => rfl) (fun st r => by simp only [stepE, r.ev, hx, hv]) hw
theorem fl_alloc {ty : Nat} {zero : List Value} (hw : ∀ b, FL call B l (fs.own d (.c (.ptr b 0)) (.blk b (.cells ty (zero.map fun v => .v v)))) Q) : FL call B (⟨some d, none, .alloc ty zero⟩ :: l) fs Q :=
 fl_new (w := fun b => .c (.ptr b 0)) (fun _ => rfl) (fun _ => rfl) (fun st r => rfl) hw
theorem fl_bslice {ty size len : Nat} {zero : List Value} {parts : List (Nat × Od)} {cs : List C} (h : fillSE fs.ev size (repl len (zero.map fun v => .v v)) parts = some cs) (hw : ∀ b, FL call B l (fs.own d (.c (.sl b 0 len size)) (.blk b (.cells ty cs))) Q) : FL call B (⟨some d, none, .bslice ty size len zero parts⟩ :: l) fs Q :=
 fl_new (w := fun b => .c (.sl b 0 len size)) (fun _ => rfl) (fun _ => rfl) (fun st r => by simp only [stepE, fillS_eq, r.evf, h]) hw
theorem fl_st {size : Nat} {x y : Od} {b o ty : Nat} {cs ds : List C} {v : AV} {H' : List HA} (hx : fs.ev x = .c (.ptr b o)) (hy : fs.ev y = v) (hv : v.cells? = some ds) (hr : Rep1 fs.H (.blk b (.cells ty cs)) (.blk b (.cells ty (setL cs o ds))) H') (hs : ds.length = size) (h : o + size ≤ cs.length)
  (hw : FL call B l (fs.heap H') Q) : FL call B (⟨none, none, .store size x y⟩ :: l) fs Q := fun st r => by
 refine w_store ((r.ev x).trans hx) ((r.ev y).trans hy) hv (r.hold.h _ hr.mem) hs h ?_
 exact hw _ (r.rep hr (Nat.le_refl _) (by show (st.setB b _).mem.get b = _; rw [setB_mem, if_pos rfl]) (fun c hc => .inl hc) (by simp [HA.fp]) (fun c _ hc => by show (st.setB b _).mem.get c = _; rw [setB_mem, if_neg fun e => hc (by simp [HA.fp, e])]))
def Src (z : Mem) (H : List HA) (size : Nat) (v : AV) (m : Nat) (news : List C) : Prop := ∀ (st : AS) (nx : Nat), Hold z H st.mem nx → st.row size v = some (m, news)
theorem src_blk {z : Mem} {H : List HA} {size b o m ty : Nat} {cs ds : List C} (hm : HA.blk b (.cells ty cs) ∈ H) (hl : o + m * size ≤ cs.length) (hd : (cs.drop o).take (m * size) = ds) : Src z H size (.c (.sl b o m size)) m ds := fun st nx h => by
 rw [row_sl (h.h _ hm) hl, hd]
theorem ap_app {st : AS} (r : Rf B fs st) {ty size bytes n m : Nat} {zero : List Value} {x y : Od} {u v : AV} {cs news : List C} {H' : AV → List HA} (hx : fs.ev x = u) (hy : fs.ev y = v) (hrow : st.row size v = some (m, news)) (hr : ∀ u', Rep1 fs.H (.row u ty size n cs) (.row u' ty size (n + m) (cs ++ news)) (H' u')) (hl : news.length = m * size) (hb : (n + m) * bytes ≤ 140737488355328) (hn : n + m ≤ 9223372036854775807)
    (hw : ∀ c' : C, sameC c' c' = true → FL call B l (fs.res d (.c c') fs.z (H' (.c c'))) Q) : Wp (evL call (⟨some d, none, .app ty size bytes zero x y⟩ :: l) st) fun st' => ∃ fs', Rf B fs' st' ∧ Q fs' := by
  obtain ⟨g1, g2⟩ := r.hold.h _ (hr nilv).mem
  have hx' := (r.ev x).trans hx
  have hy' := (r.ev y).trans hy
  cases m with
  | zero =>
    have e : news = [] := List.eq_nil_of_length_eq_zero (by omega)
    subst e
    refine w_appN (u := u) hx' ?_ hy' hrow ?_
    · rcases g2 with ⟨_, rfl⟩ | ⟨b, rfl, _⟩
      · exact .inr rfl
      · exact .inl ⟨_, _, _, _, rfl⟩
    · have h1 := hr u
      rw [List.append_nil, Nat.add_zero] at h1
      obtain ⟨c0, hc0, hs0⟩ : ∃ c0, u = .c c0 ∧ sameC c0 c0 = true := by rcases g2 with ⟨_, rfl⟩ | ⟨b, rfl, _⟩ <;> exact ⟨_, rfl, by simp [sameC, sameV]⟩
      subst hc0
      exact hw c0 hs0 _ ((r.rep h1 (Nat.le_refl _) (r.hold.h _ h1.mem) (fun b hb => .inl hb) (by rcases g2 with ⟨_, h⟩ | ⟨b, h, _⟩ <;> injection h with h <;> subst h <;> simp [HA.fp]) (fun _ _ _ => rfl)).put d (.c c0))
  | succ m =>
    rcases g2 with ⟨rfl, rfl⟩ | ⟨b, rfl, h3⟩
    · have e : cs = [] := List.eq_nil_of_length_eq_zero (by omega)
      subst e
      refine w_app0 hx' hy' hrow (by simpa using hb) (by omega) ?_
      have h1 := hr (.c (.sl st.nx 0 (m + 1) size))
      rw [List.nil_append, Nat.zero_add] at h1
      exact hw _ (by simp [sameC]) _ ((r.rep (m' := (st.new (.cells ty news)).mem) (nx' := st.nx + 1) h1 (by omega) ⟨hl, .inr ⟨st.nx, rfl, by rw [new_mem, if_pos rfl]⟩⟩ (fun c hc => .inr (by simp [HA.fp] at hc; omega)) (by simp [HA.fp]) (fun c hc _ => by rw [new_mem, if_neg (by omega)])).put d _)
    · refine w_app hx' hy' hrow h3 (by omega) (by simpa using hb) (by omega) ?_
      have h1 := hr (.c (.sl st.nx 0 (n + (m + 1)) size))
      have hb2 : b < st.nx := r.hold.lt b (mem_fps.2 ⟨_, h1.mem, by simp [HA.fp]⟩)
      refine hw _ (by simp [sameC]) _ ((r.rep (m' := (st.moveB b (.cells ty (cs.drop 0 ++ news))).mem) (nx' := st.nx + 1) h1 (by omega) ⟨by rw [List.length_append, g1, hl, ← Nat.add_mul], .inr ⟨st.nx, rfl, by rw [moveB_mem, if_pos rfl]; rfl⟩⟩ (fun c hc => .inr (by simp [HA.fp] at hc; omega)) (by simp [HA.fp]) (fun c hc hc2 => ?_)).put d _)
      rw [moveB_mem, if_neg (by omega), if_neg fun e => hc2 (by simp [HA.fp, e])]
theorem fl_app {ty size bytes n m : Nat} {zero : List Value} {x y : Od} {u v : AV} {cs news : List C} {H' : AV → List HA} (hx : fs.ev x = u) (hy : fs.ev y = v) (hs : Src fs.z fs.H size v m news) (hr : ∀ u', Rep1 fs.H (.row u ty size n cs) (.row u' ty size (n + m) (cs ++ news)) (H' u')) (hl : news.length = m * size) (hb : (n + m) * bytes ≤ 140737488355328) (hn : n + m ≤ 9223372036854775807)
  (hw : ∀ c' : C, sameC c' c' = true → FL call B l (fs.res d (.c c') fs.z (H' (.c c'))) Q) : FL call B (⟨some d, none, .app ty size bytes zero x y⟩ :: l) fs Q := fun st r => ap_app r hx hy (hs st st.nx r.hold) hr hl hb hn hw
theorem fl_gd {dd : Option Nat} {s : Nat} {want : Bool} {o : Ins} (h : fs.e s = .c (.v (.bool want))) (hw : FL call B (⟨dd, none, o⟩ :: l) fs Q) : FL call B (⟨dd, some (s, want), o⟩ :: l) fs Q := fun st r => w_gd ((r.env s).trans h) (hw st r)
theorem fl_gx {s : Nat} {want : Bool} {o : Ins} (h : fs.e s = .c (.v (.bool (!want)))) (hw : FL call B l (fs.put d (.tup [])) Q) : FL call B (⟨some d, some (s, want), o⟩ :: l) fs Q := fun st r => w_gx ((r.env s).trans h) (hw _ (r.put _ _))
theorem fl_splitB (s : Nat) {t : Bool} (h : fs.e s = .c (.v (.bool t))) (h1 : t = true → FL call B l (fs.put s (.c (.v (.bool true)))) Q) (h2 : t = false → FL call B l (fs.put s (.c (.v (.bool false)))) Q) : FL call B l fs Q := by
 have e : fs.put s (.c (.v (.bool t))) = fs := by
  cases fs; simp only [Sf.put]; rw [eput_self h]
 cases t with
 | true => have := h1 rfl; rw [e] at this; exact this
 | false => have := h2 rfl; rw [e] at this; exact this
end
theorem wi64 {z : Int} (h : -9223372036854775808 ≤ z ∧ z < 9223372036854775808) : IntKind.i64.wrap z = z := wrap_in h.1 h.2
theorem b_add' {k : IntKind} {a b r : Int} (h : k.wrap (a + b) = r) : binW .add (.int k a) (.int k b) = some (.int k r) := by rw [b_add, h]
open Go.RowKit
open Go.Eng (Od need need_pos need_some setL binV binBV)
def FCt (call : Call') (f : Nat) (args : List AV) (z : Mem) (H : List HA) (Post : AV → Mem → List HA → Prop) : Prop :=
 ∀ mem nx, Hold z H mem nx → ∃ v mem' nx' z' H', call f args mem nx = some (v, mem', nx') ∧ nx ≤ nx' ∧ (∀ b, b < nx → b ∉ fps H → mem'.get b = mem.get b) ∧ Hold z' H' mem' nx' ∧ zle z z' ∧
  (∀ b k, z' b k → z b k ∨ nx ≤ b ∨ b ∈ fps H) ∧ (∀ b, b ∈ fps H' → nx ≤ b ∨ b ∈ fps H) ∧ Post v z' H'
def FC (call : Call') (f : Nat) (args : List AV) (z : Mem) (Post : AV → Mem → Prop) : Prop := FCt call f args z [] fun v z' H' => H' = [] ∧ Post v z'
theorem FCt.mono {call : Call'} {f : Nat} {args : List AV} {z : Mem} {H : List HA} {P Q : AV → Mem → List HA → Prop} (h : FCt call f args z H P) (g : ∀ v z' H', zle z z' → P v z' H' → Q v z' H') : FCt call f args z H Q := fun mem nx hh => by
 obtain ⟨v, mem', nx', z', H', h1, h2, h3, h4, h5, h6, h7, h8⟩ := h mem nx hh
 exact ⟨v, mem', nx', z', H', h1, h2, h3, h4, h5, h6, h7, g v z' H' h5 h8⟩
theorem FC.mono {call : Call'} {f : Nat} {args : List AV} {z : Mem} {P Q : AV → Mem → Prop} (h : FC call f args z P) (g : ∀ v z', zle z z' → P v z' → Q v z') : FC call f args z Q := FCt.mono h fun v z' H' hz ⟨h1, h2⟩ => ⟨h1, g v z' hz h2⟩
theorem Hold.left {z : Mem} {Hs Hr : List HA} {m : Tr Blk} {nx : Nat} (h : Hold z (Hs ++ Hr) m nx) : Hold z Hs m nx := by
 refine ⟨fun b k hb => ?_, fun a ha => h.h a (by simp [ha]), fun b hb => h.lt b (by rw [fps_app]; simp [hb]), ?_⟩
 ·obtain ⟨h1, h2, h3⟩ := h.z b k hb
  exact ⟨h1, h2, fun h4 => h3 (by rw [fps_app]; simp [h4])⟩
 ·have := h.nd
  rw [fps_app] at this
  exact (List.nodup_append.1 this).1
theorem Rf.callR {B : Base} {fs : Sf} {st : AS} (r : Rf B fs st) {Hs Hr H' : List HA} (e : fs.H = Hs ++ Hr) {mem' : Tr Blk} {nx' : Nat} {z' : Mem} (hn : st.nx ≤ nx') (hm : ∀ b, b < st.nx → b ∉ fps Hs → mem'.get b = st.mem.get b) (hh : Hold z' H' mem' nx') (hz : CE.zle fs.z z')
    (hin : ∀ b k, z' b k → fs.z b k ∨ st.nx ≤ b ∨ b ∈ fps Hs) (hown : ∀ b, b ∈ fps H' → st.nx ≤ b ∨ b ∈ fps Hs) : Rf B ⟨fs.e, z', H' ++ Hr⟩ ⟨st.env, mem', nx'⟩ := by
  have hH := r.hold
  rw [e] at hH
  have ho := r.own
  rw [e] at ho
  have hnd := hH.nd
  rw [fps_app] at hnd
  obtain ⟨n1, n2, n3⟩ := List.nodup_append.1 hnd
  have hs : ∀ b, b ∈ fps Hs → b ∈ fps (Hs ++ Hr) := fun b hb => by rw [fps_app]; simp [hb]
  have hr : ∀ b, b ∈ fps Hr → b ∈ fps (Hs ++ Hr) := fun b hb => by rw [fps_app]; simp [hb]
  have hrl : ∀ b, b ∈ fps Hr → b < st.nx ∧ b ∉ fps Hs := fun b hb => ⟨hH.lt b (hr b hb), fun h4 => n3 b h4 b hb rfl⟩
  refine ⟨r.env, ⟨fun b k hb => ?_, fun a ha => ?_, fun b hb => ?_, ?_⟩, Nat.le_trans r.le hn, fun b hb hl => ?_, fun b hb => ?_, fun b k hb => hz b k (r.zle b k hb), fun b k hb => ?_⟩
  · obtain ⟨h1, h2, h3⟩ := hh.z b k hb
    refine ⟨h1, h2, ?_⟩
    rw [fps_app]
    simp only [List.mem_append, not_or]
    refine ⟨h3, fun h4 => ?_⟩
    have h5 := hrl b h4
    rcases hin b k hb with h6 | h6 | h6
    · exact (hH.z b k h6).2.2 (hr b h4)
    · omega
    · exact h5.2 h6
  · rcases List.mem_append.1 ha with ha | ha
    · exact hh.h a ha
    · refine HA.ok_of (hH.h a (by simp [ha])) fun b hb => ?_
      have h5 := hrl b (mem_fps.2 ⟨a, ha, hb⟩)
      exact hm b h5.1 h5.2
  · have hb : b ∈ fps (H' ++ Hr) := hb
    rw [fps_app] at hb
    rcases List.mem_append.1 hb with hb | hb
    · exact hh.lt b hb
    · exact Nat.lt_of_lt_of_le (hrl b hb).1 hn
  · rw [fps_app]
    refine List.nodup_append.2 ⟨hh.nd, n2, fun x hx y hy e => ?_⟩
    subst e
    have h5 := hrl x hy
    rcases hown x hx with h6 | h6
    · omega
    · exact h5.2 h6
  · refine (hm b (Nat.lt_of_lt_of_le hb r.le) fun h4 => ?_).trans (r.old b hb hl)
    rcases ho b (hs b h4) with h5 | h5
    · omega
    · exact hl h5
  · have hb : b ∈ fps (H' ++ Hr) := hb
    rw [fps_app] at hb
    rcases List.mem_append.1 hb with hb | hb
    · rcases hown b hb with h6 | h6
      · exact .inl (Nat.le_trans r.le h6)
      · exact ho b (hs b h6)
    · exact ho b (hr b hb)
  · rcases hin b k hb with h6 | h6 | h6
    · exact r.zin b k h6
    · exact .inr (.inl (Nat.le_trans r.le h6))
    · exact .inr (ho b (hs b h6))
section
variable {call : Call'} {B : Base} {fs : Sf} {l : List I} {Q : Sf → Prop} {d : Nat}
theorem fl_callL {f : Nat} {args : List Od} {vs : List AV} {Hs Hr : List HA} {Post : AV → Mem → List HA → Prop} (ha : args.map fs.ev = vs) (e : fs.H = Hs ++ Hr) (hc : FCt call f vs fs.z Hs Post)
  (hw : ∀ v z' H', zle fs.z z' → Post v z' H' → FL call B l (fs.res d v z' (H' ++ Hr)) Q) : FL call B (⟨some d, none, .call f args⟩ :: l) fs Q := fun st r => by
 have hh := r.hold
 rw [e] at hh
 obtain ⟨v, mem', nx', z', H', h1, h2, h3, h4, h5, h6, h7, h8⟩ := hc st.mem st.nx hh.left
 refine w_call (vs := vs) (by rw [r.evf]; exact ha) h1 ?_
 exact hw v z' H' h5 h8 _ ((r.callR e h2 h3 h4 h5 h6 h7).put d v)
theorem fl_call {f : Nat} {args : List Od} {vs : List AV} {Post : AV → Mem → Prop} (ha : args.map fs.ev = vs) (hc : FC call f vs fs.z Post)
  (hw : ∀ v z', zle fs.z z' → Post v z' → FL call B l (fs.res d v z' fs.H) Q) : FL call B (⟨some d, none, .call f args⟩ :: l) fs Q :=
 fl_callL (Hs := []) (Hr := fs.H) ha rfl hc fun v z' H' hz ⟨h1, h2⟩ => by subst h1; exact hw v z' hz h2
theorem fl_callvL {t : Od} {f : Nat} {us cs : List (Bool × List C)} {args : List Od} {vs : List AV} {Hs Hr : List HA} {Post : AV → Mem → List HA → Prop} (ht : fs.ev t = .c (.fn f us cs)) (ha : AV.cs us ++ (args.map fs.ev ++ AV.cs cs) = vs) (e : fs.H = Hs ++ Hr) (hc : FCt call f vs fs.z Hs Post)
  (hw : ∀ v z' H', zle fs.z z' → Post v z' H' → FL call B l (fs.res d v z' (H' ++ Hr)) Q) : FL call B (⟨some d, none, .callv t args⟩ :: l) fs Q := fun st r => by
 have hh := r.hold
 rw [e] at hh
 obtain ⟨v, mem', nx', z', H', h1, h2, h3, h4, h5, h6, h7, h8⟩ := hc st.mem st.nx hh.left
 refine w_of (i_of (v := v) (mem := mem') (nx := nx') ?_) ?_
 ·simp only [evV, callee, r.ev, ht, r.evf, ha, h1]
 ·exact hw v z' H' h5 h8 _ ((r.callR e h2 h3 h4 h5 h6 h7).put d v)
end
def argE : List AV → Nat → AV
 | [], _ => .any
 | v :: l, i => match i with
  | 0 => v
  | i + 1 => argE l i
theorem envOf_get : ∀ (l : List AV) (k : Nat) (t : Tr AV) (mem : Tr Blk) (nx i : Nat), (⟨envOf k t l, mem, nx⟩ : AS).get i = if k ≤ i ∧ i < k + l.length then argE l (i - k) else (⟨t, mem, nx⟩ : AS).get i := by
  intro l
  induction l with
  | nil =>
    intro k t mem nx i
    rw [if_neg (by simp only [List.length_nil]; omega)]
    rfl
  | cons v l ih =>
    intro k t mem nx i
    have e : envOf k t (v :: l) = envOf (k + 1) (Tr.put (k + 1) t k (some v)) l := rfl
    rw [e, ih]
    have hg : (⟨Tr.put (k + 1) t k (some v), mem, nx⟩ : AS).get i = if k = i then v else (⟨t, mem, nx⟩ : AS).get i := get_put ⟨t, mem, nx⟩ k i v
    by_cases h : k + 1 ≤ i ∧ i < k + 1 + l.length
    · rw [if_pos h, if_pos (by simp; omega)]
      obtain ⟨j, hj⟩ : ∃ j, i - k = j + 1 := ⟨i - k - 1, by omega⟩
      rw [hj]
      show argE l (i - (k + 1)) = argE l j
      congr 1
      omega
    · rw [if_neg h, hg]
      by_cases h2 : k = i
      · subst h2
        rw [if_pos rfl, if_pos (by simp), Nat.sub_self]
        rfl
      · rw [if_neg h2, if_neg (by simp; omega)]
theorem argE_get (args : List AV) (mem : Tr Blk) (nx i : Nat) : (⟨envOf 0 .nil args, mem, nx⟩ : AS).get i = argE args i := by
  rw [envOf_get]
  by_cases h : i < args.length
  · rw [if_pos (by omega)]; rfl
  · rw [if_neg (by omega)]
    have : ∀ (l : List AV) (i : Nat), l.length ≤ i → argE l i = .any := by
      intro l
      induction l with
      | nil => intro i _; rfl
      | cons v l ih =>
        intro i hi
        cases i with
        | zero => simp at hi
        | succ i => exact ih i (by simpa using hi)
    rw [this args i (by omega)]
    simp [AS.get, Tr.get_nil]
inductive Res1 (fs : Sf) : RR → AV → Prop where
 | t (i : Nat) (v : AV) (h : fs.e i = v) : Res1 fs (.t i) v
 | c (i : Nat) (g : Bool) (s b o ty : Nat) (cs : List C) (v : AV) (hp : fs.e i = .c (.ptr b o)) (hm : HA.blk b (.cells ty cs) ∈ fs.H) (hl : o + s ≤ cs.length) (hv : mkAV g ((cs.drop o).take s) = v) : Res1 fs (.c i g s) v
inductive ResL (fs : Sf) : List RR → List AV → Prop where
 | nil : ResL fs [] []
 | cons (r : RR) (v : AV) (rs : List RR) (vs : List AV) (h : Res1 fs r v) (t : ResL fs rs vs) : ResL fs (r :: rs) (v :: vs)
theorem rn {fs : Sf} : ResL fs [] [] := .nil
theorem rt {fs : Sf} {i : Nat} {v : AV} {rs : List RR} {vs : List AV} (h : fs.e i = v) (t : ResL fs rs vs) : ResL fs (.t i :: rs) (v :: vs) := .cons _ _ _ _ (.t i v h) t
theorem rc {fs : Sf} {i : Nat} {g : Bool} {s b o ty : Nat} {cs : List C} {v : AV} {rs : List RR} {vs : List AV} (hp : fs.e i = .c (.ptr b o)) (hm : HA.blk b (.cells ty cs) ∈ fs.H) (hl : o + s ≤ cs.length) (hv : mkAV g ((cs.drop o).take s) = v) (t : ResL fs rs vs) : ResL fs (.c i g s :: rs) (v :: vs) := .cons _ _ _ _ (.c i g s b o ty cs v hp hm hl hv) t
def packR : List AV → AV
 | [v] => v
 | vs => .tup vs
theorem resL_of {B : Base} {fs : Sf} {st : AS} (r : Rf B fs st) {ts : List RR} {vs : List AV} (h : ResL fs ts vs) : resL st ts = some vs := by
 induction h with
 | nil => rfl
 | cons q v rs vs h t ih =>
  have h1 : res1 st q = some v := by
   cases h with
   | t i v h => simp only [res1, r.env, h]
   | c i g s b o ty cs v hp hm hl hv =>
    have := r.hold.h _ hm
    simp only [HA.ok] at this
    simp only [res1, r.env, hp, AS.read, AS.blk, this]
    rw [need_pos hl]
    simp only [hv]
  simp only [resL, h1, ih]
theorem resAV_of {B : Base} {fs : Sf} {st : AS} (r : Rf B fs st) {ts : List RR} {vs : List AV} (h : ResL fs ts vs) : resAV st ts = some (packR vs) := by
 unfold resAV
 rw [resL_of r h]
 match vs with
 | [] => rfl
 | [v] => rfl
 | _ :: _ :: _ => rfl
theorem fps_sub {H H' : List HA} (h : H'.Sublist H) : (fps H').Sublist (fps H) := by
 induction h with
 | slnil => exact List.Sublist.refl _
 | cons a h ih => rw [fps_cons]; exact ih.trans (List.sublist_append_right _ _)
 | cons_cons a h ih => rw [fps_cons, fps_cons]; exact (List.Sublist.refl _).append ih
theorem Hold.sub {z : Mem} {H H' : List HA} {m : Tr Blk} {nx : Nat} (h : Hold z H m nx) (hs : H'.Sublist H) : Hold z H' m nx :=
 ⟨fun b k hb => ⟨(h.z b k hb).1, (h.z b k hb).2.1, fun h4 => (h.z b k hb).2.2 ((fps_sub hs).subset h4)⟩, fun a ha => h.h a (hs.subset ha), fun b hb => h.lt b ((fps_sub hs).subset hb), h.nd.sublist (fps_sub hs)⟩
def RetQ (ts : List RR) (Post : AV → Mem → List HA → Prop) : Exit → Sf → Prop := fun x fs => (x = .ret ∨ x = .normal) ∧ ∃ vs H', ResL fs ts vs ∧ H'.Sublist fs.H ∧ Post (packR vs) fs.z H'
theorem fct_of {T : Tr FE} {hand : Call'} {k0 k f : Nat} {e : FE} {args : List AV} {z : Mem} {H : List HA} {Post : AV → Mem → List HA → Prop} (hT : T.get f = some e) (hk : 1 ≤ k) (hl : args.length ≤ e.n)
  (h : ∀ B j, k = j + 1 → FX (evF T hand k0 j) k0 B e.x ⟨argE args, z, H⟩ (RetQ e.ts Post)) : FCt (evF T hand k0 k) f args z H Post := fun mem nx hh => by
 obtain ⟨j, rfl⟩ : ∃ j, k = j + 1 := ⟨k - 1, by omega⟩
 have r0 : Rf ⟨mem, nx, z, fps H⟩ ⟨argE args, z, H⟩ ⟨envOf 0 .nil args, mem, nx⟩ :=
  ⟨fun i => argE_get args mem nx i, hh, Nat.le_refl _, fun b _ _ => rfl, fun b hb => .inr hb, fun _ _ h => h, fun b k hb => .inl hb⟩
 have := h _ j rfl _ r0
 simp only [evF, hT, Nat.ble_eq_true_of_le hl]
 cases he : evX (evF T hand k0 j) k0 e.x ⟨envOf 0 .nil args, mem, nx⟩ with
 | none => rw [he] at this; exact this.elim
 | some p =>
  obtain ⟨x, st⟩ := p
  rw [he] at this
  obtain ⟨fs, r, hx, vs, H', h1, h2, h3⟩ := this
  have hf : fin e st = some (packR vs, st.mem, st.nx) := by simp only [fin, resAV_of r h1]
  refine ⟨packR vs, st.mem, st.nx, fs.z, H', ?_, r.le, r.old, r.hold.sub h2, r.zle, r.zin, fun b hb => r.own b ((fps_sub h2).subset hb), h3⟩
  rcases hx with rfl | rfl <;> exact hf
theorem fc_of {T : Tr FE} {hand : Call'} {k0 k f : Nat} {e : FE} {args : List AV} {z : Mem} {Post : AV → Mem → Prop} (hT : T.get f = some e) (hk : 1 ≤ k) (hl : args.length ≤ e.n)
  (h : ∀ B j, k = j + 1 → FX (evF T hand k0 j) k0 B e.x ⟨argE args, z, []⟩ (RetQ e.ts fun v z' H' => H' = [] ∧ Post v z')) : FC (evF T hand k0 k) f args z Post := fct_of hT hk hl h
theorem ret_q {fs : Sf} {ts : List RR} {vs : List AV} {x : Exit} {Post : AV → Mem → Prop} (hx : x = .ret ∨ x = .normal) (h : ResL fs ts vs) (hp : Post (packR vs) fs.z) : RetQ ts (fun v z' H' => H' = [] ∧ Post v z') x fs := ⟨hx, vs, [], h, List.nil_sublist _, rfl, hp⟩
open Go.RowKit
open Go.Eng (Od need need_pos need_some setL binV binBV)
def Blk.cs : Blk → Option (List C)
 | .cells _ cs => some cs
 | .ro cs => some cs
 | _ => none
def At (z : Mem) (b p : Nat) (cs : List C) : Prop := ∃ k full, z b k ∧ k.cs = some full ∧ p + cs.length ≤ full.length ∧ (full.drop p).take cs.length = cs
theorem At.mono {z z' : Mem} {b p : Nat} {cs : List C} (h : At z b p cs) (hz : zle z z') : At z' b p cs := by
 obtain ⟨k, full, h1, h2⟩ := h
 exact ⟨k, full, hz _ _ h1, h2⟩
abbrev RT (α : Type) := Mem → List C → α → Prop
structure RMon {α : Type} (R : RT α) : Prop where
 mono : ∀ {z z' : Mem} {cs : List C} {a : α}, zle z z' → R z cs a → R z' cs a
 refl : ∀ {z : Mem} {cs : List C} {a : α}, R z cs a → sameL cs cs = true
abbrev RMono {α : Type} (R : RT α) : Prop := Nonempty (RMon R)
theorem RMono.mono {α : Type} {R : RT α} [i : RMono R] {z z' : Mem} {cs : List C} {a : α} (hz : zle z z') (h : R z cs a) : R z' cs a := i.elim fun m => m.mono hz h
theorem RMono.refl {α : Type} {R : RT α} [i : RMono R] {z : Mem} {cs : List C} {a : α} (h : R z cs a) : sameL cs cs = true := i.elim fun m => m.refl h
inductive SZ {α : Type} (size : Nat) (R : RT α) (z : Mem) : AV → List α → Prop where
 | nil : SZ size R z nilv []
 | em : SZ size R z (.c .em) []
 | sl (b o n : Nat) (k : Blk) (full : List C) (l : List α) (hl : l.length = n) (hm : n ≤ 9223372036854775807) (hz : z b k) (hk : k.cs = some full) (hf : o + n * size ≤ full.length) (h : ∀ (i : Nat) (a : α), l[i]? = some a → R z ((full.drop (o + i * size)).take size) a) : SZ size R z (.c (.sl b o n size)) l
section
variable {α : Type} {size : Nat} {R : RT α} [RMono R] {z z' : Mem} {v : AV} {l : List α}
theorem SZ.mono (h : SZ size R z v l) (hz : zle z z') : SZ size R z' v l := by
 cases h with
 | nil => exact .nil
 | em => exact .em
 | sl b o n k full l hl hm hz' hk hf h => exact .sl b o n k full l hl hm (hz _ _ hz') hk hf fun i a hi => RMono.mono hz (h i a hi)
theorem SZ.len {α : Type} {size : Nat} {R : RT α} {z : Mem} {v : AV} {l : List α} (h : SZ size R z v l) : lenOf v = some l.length := by cases h with
 | nil => rfl
 | em => rfl
 | sl b o n k full l hl hm hz' hk hf h => rw [hl]; rfl
theorem SZ.le {α : Type} {size : Nat} {R : RT α} {z : Mem} {v : AV} {l : List α} (h : SZ size R z v l) : l.length ≤ 9223372036854775807 := by cases h with
 | nil => simp
 | em => simp
 | sl b o n k full l hl hm hz' hk hf h => omega
theorem SZ.one {α : Type} {size : Nat} {R : RT α} {z : Mem} {v : AV} {l : List α} (h : SZ size R z v l) : ∃ c, v = .c c ∧ sameC c c = true := by cases h with
 | nil => exact ⟨_, rfl, rfl⟩
 | em => exact ⟨_, rfl, rfl⟩
 | sl b o n k full l hl hm hz' hk hf h => exact ⟨_, rfl, by simp [sameC]⟩
end
theorem sameV_int (k : IntKind) (n : Int) : sameV (.int k n) (.int k n) = true := by simp [sameV]
theorem sameV_bool (b : Bool) : sameV (.bool b) (.bool b) = true := by simp [sameV]
theorem sameV_str (s : ByteArray) : sameV (.string s) (.string s) = true := by
 show bsame s.data.toList s.data.toList = true
 rw [bsame_eq]
 simp
theorem sameC_b (b : Bool) : sameC (.v (.bool b)) (.v (.bool b)) = true := sameV_bool b
theorem sameC_s (s : ByteArray) : sameC (.v (.string s)) (.v (.string s)) = true := sameV_str s
def CZ {α : Type} (size : Nat) (R : RT α) (z : Mem) (c : C) (l : List α) : Prop := SZ size R z (.c c) l
theorem CZ.mono {α : Type} {size : Nat} {R : RT α} [RMono R] {z z' : Mem} {c : C} {l : List α} (h : CZ size R z c l) (hz : zle z z') : CZ size R z' c l := SZ.mono h hz
theorem CZ.le {α : Type} {size : Nat} {R : RT α} {z : Mem} {c : C} {l : List α} (h : CZ size R z c l) : l.length ≤ 9223372036854775807 := SZ.le h
theorem CZ.refl {α : Type} {size : Nat} {R : RT α} {z : Mem} {c : C} {l : List α} (h : CZ size R z c l) : sameC c c = true := by
 obtain ⟨c', h1, h2⟩ := SZ.one h
 injection h1 with h1
 rw [h1]; exact h2
def RU (kd : IntKind) : RT Int := fun _ cs n => cs = [.v (.int kd n)]
def RS : RT ByteArray := fun _ cs s => cs = [.v (.string s)]
instance {kd : IntKind} : RMono (RU kd) := ⟨⟨fun _ h => h, fun h => by rw [h]; simp [sameL, sameC, sameV_int]⟩⟩
instance : RMono RS := ⟨⟨fun _ h => h, fun h => by rw [h]; simp [sameL, sameC, sameV_str]⟩⟩
theorem blk_of {st : AS} {b : Nat} {k : Blk} {full : List C} (h : st.mem.get b = some k) (hk : k.cs = some full) : st.blk b = some full := by
 unfold AS.blk
 rw [h]
 cases k with
 | cells ty cs => exact hk
 | ro cs => exact hk
 | sit _ _ => cases hk
 | mp _ _ => cases hk
theorem at_read {st : AS} {z : Mem} (hz : ∀ b k, z b k → st.mem.get b = some k) {b p : Nat} {cs : List C} (h : At z b p cs) {off size : Nat} (hl : off + size ≤ cs.length) : st.read b (p + off) size = some ((cs.drop off).take size) := by
 obtain ⟨k, full, h1, h2, h3, h4⟩ := h
 unfold AS.read
 rw [blk_of (hz _ _ h1) h2]
 simp only
 rw [need_pos (by omega)]
 congr 1
 rw [← h4, List.drop_take, List.take_take, List.drop_drop]
 congr 1
 omega
section
variable {call : Call'} {B : Base} {fs : Sf} {l : List I} {Q : Sf → Prop} {d : Nat}
theorem fl_iadS {α : Type} {size : Nat} {R : RT α} {zz : Mem} {x i : Od} {v : AV} {r : List α} {kd : IntKind} {n : Int} (hx : fs.ev x = v) (hi : fs.ev i = .c (.v (.int kd n))) (hr : SZ size R zz v r) (j : Nat) (hj : n = (j : Int)) (a : α) (h : r[j]? = some a)
  (hw : ∀ b p cs, At zz b p cs → R zz cs a → FL call B l (fs.put d (.c (.ptr b p))) Q) : FL call B (⟨some d, none, .iad size x i⟩ :: l) fs Q := by
 have hlt := (List.getElem?_eq_some_iff.1 h).1
 cases hr with
 | nil => simp at hlt
 | em => simp at hlt
 | sl b o n k full l hl hm hz' hk hf hh =>
   have hle : o + j * size + size ≤ full.length := by
    have : (j + 1) * size ≤ n * size := Nat.mul_le_mul_right _ (by omega)
    rw [Nat.add_mul, Nat.one_mul] at this
    omega
   have hcl : ((full.drop (o + j * size)).take size).length = size := by simp; omega
   exact fl_iad hx hi j hj (by omega) (hw b (o + j * size) _ ⟨k, full, hz', hk, by rw [hcl]; exact hle, by rw [hcl]⟩ (hh j a h))
theorem fl_ldA {agg : Bool} {size : Nat} {x : Od} {b q p off : Nat} {cs : List C} {v : AV} (hx : fs.ev x = .c (.ptr b q)) (ha : At fs.z b p cs) (hq : q = p + off) (hl : off + size ≤ cs.length) (hv : mkAV agg ((cs.drop off).take size) = v) (hw : FL call B l (fs.put d v) Q) : FL call B (⟨some d, none, .load agg size x⟩ :: l) fs Q :=
  fl_q (fun _ => rfl) (fun st r => by
    subst hq
    simp only [stepQ, r.ev, hx]
    rw [at_read (fun b k hb => (r.hold.z b k hb).1) ha hl]
    simp only [hv]) hw
theorem fl_lens {x : Od} {s : ByteArray} (hx : fs.ev x = .c (.v (.string s))) (hw : FL call B l (fs.put d (.c (.v (.int .i64 s.size)))) Q) : FL call B (⟨some d, none, .len true x⟩ :: l) fs Q :=
 fl_q (fun _ => rfl) (fun st r => by simp only [stepQ, r.ev, hx]; rfl) hw
theorem fl_lenS {α : Type} {size : Nat} {R : RT α} {zz : Mem} {x : Od} {v : AV} {r : List α} (hx : fs.ev x = v) (hr : SZ size R zz v r) (hw : FL call B l (fs.put d (.c (.v (.int .i64 r.length)))) Q) : FL call B (⟨some d, none, .len false x⟩ :: l) fs Q := fl_len hx hr.len hw
theorem fl_cut {l2 : List I} {J : Sf → Prop} (h : FL call B l fs J) (g : ∀ fs', J fs' → FL call B l2 fs' Q) : FL call B (l ++ l2) fs Q := fun st r => by
 have key : ∀ (l : List I) (st : AS) (P : AS → Prop), Wp (evL call l st) P → (∀ st', P st' → Wp (evL call l2 st') fun st' => ∃ fs', Rf B fs' st' ∧ Q fs') → Wp (evL call (l ++ l2) st) fun st' => ∃ fs', Rf B fs' st' ∧ Q fs' := by
  intro l
  induction l with
  | nil => intro st P h1 h2; exact h2 st h1
  | cons i l ih =>
   intro st P h1 h2
   simp only [List.cons_append, evL] at h1 ⊢
   cases he : evI call i st with
   | none => rw [he] at h1; exact h1.elim
   | some st1 => rw [he] at h1; exact ih st1 P h1 h2
 exact key l st _ (h st r) fun st' ⟨fs', r', q⟩ => g fs' q st' r'
end
def CL {α : Type} (size : Nat) (R : RT α) (z : Mem) (cs : List C) (l : List α) : Prop := cs.length = l.length * size ∧ ∀ (i : Nat) (a : α), l[i]? = some a → ((cs.drop (i * size)).take size).length = size ∧ R z ((cs.drop (i * size)).take size) a
section
variable {α : Type} {size : Nat} {R : RT α} {z z' : Mem} {cs c : List C} {l : List α} {a : α}
theorem CL.nil : CL size R z [] ([] : List α) := ⟨by simp, fun i a h => by simp at h⟩
theorem CL.mono [RMono R] (h : CL size R z cs l) (hz : zle z z') : CL size R z' cs l := ⟨h.1, fun i a hi => ⟨(h.2 i a hi).1, RMono.mono hz (h.2 i a hi).2⟩⟩
theorem CL.append {cs' : List C} {l' : List α} (h : CL size R z cs l) (g : CL size R z cs' l') : CL size R z (cs ++ cs') (l ++ l') := by
 refine ⟨by rw [List.length_append, List.length_append, h.1, g.1, Nat.add_mul], fun i a hi => ?_⟩
 rw [List.getElem?_append] at hi
 split at hi
 ·rename_i hlt
  have h1 := h.2 i a hi
  have h2 : i * size + size ≤ cs.length := by
   rw [h.1]
   have : (i + 1) * size ≤ l.length * size := Nat.mul_le_mul_right _ hlt
   rw [Nat.add_mul, Nat.one_mul] at this
   exact this
  have e : ((cs ++ cs').drop (i * size)).take size = (cs.drop (i * size)).take size := by
   rw [List.drop_append_of_le_length (by omega), List.take_append_of_le_length (by rw [List.length_drop]; omega)]
  rw [e]
  exact h1
 ·rename_i hlt
  have h1 := g.2 _ a hi
  have e : (cs ++ cs').drop (i * size) = cs'.drop ((i - l.length) * size) := by
   rw [List.drop_append, h.1]
   have h3 : l.length * size ≤ i * size := Nat.mul_le_mul_right _ (by omega)
   rw [List.drop_eq_nil_of_le (by rw [h.1]; exact h3), List.nil_append, Nat.sub_mul]
  rw [e]
  exact h1
theorem CL.one (hc : c.length = size) (h : R z c a) : CL size R z c [a] := by
 refine ⟨by simp [hc], fun i a' hi => ?_⟩
 cases i with
 | zero =>
  simp at hi
  subst hi
  have e : (c.drop (0 * size)).take size = c := by simp [← hc]
  rw [e]
  exact ⟨hc, h⟩
 | succ i => simp at hi
theorem CL.sz {b ty n : Nat} (h : CL size R z cs l) (hn : l.length = n) (hm : n ≤ 9223372036854775807) (hz : z b (.cells ty cs)) : SZ size R z (.c (.sl b 0 n size)) l := by
 refine .sl b 0 n (.cells ty cs) cs l hn hm hz rfl (by rw [h.1, hn]; omega) fun i a hi => ?_
 rw [Nat.zero_add]
 exact (h.2 i a hi).2
theorem SZ.src {v : AV} {zz : Mem} {st : AS} (hz : ∀ b k, zz b k → st.mem.get b = some k) (h : SZ size R zz v l) : ∃ news, st.row size v = some (l.length, news) ∧ CL size R zz news l := by
 cases h with
 | nil => exact ⟨[], rfl, CL.nil⟩
 | em => exact ⟨[], rfl, CL.nil⟩
 | sl b o n k full l hl hm hz' hk hf hh =>
  refine ⟨(full.drop o).take (n * size), ?_, ?_, fun i a hi => ?_⟩
  ·simp only [AS.row, AS.read, blk_of (hz _ _ hz') hk]
   rw [need_pos hf]
   simp only
   rw [need_pos trivial, hl]
  ·rw [List.length_take, List.length_drop, hl]; omega
  ·have hlt := (List.getElem?_eq_some_iff.1 hi).1
   have hle : i * size + size ≤ n * size := by
    have : (i + 1) * size ≤ n * size := Nat.mul_le_mul_right _ (by omega)
    rw [Nat.add_mul, Nat.one_mul] at this
    exact this
   have e : ((((full.drop o).take (n * size)).drop (i * size)).take size) = (full.drop (o + i * size)).take size := by
    rw [List.drop_take, List.take_take, List.drop_drop]
    congr 1
    omega
   rw [e]
   refine ⟨?_, hh i a hi⟩
   rw [List.length_take, List.length_drop]
   omega
end
section
variable {call : Call'} {B : Base} {fs : Sf} {l : List I} {Q : Sf → Prop} {d : Nat}
theorem fl_appS {α : Type} {R : RT α} {ty size bytes n : Nat} {zero : List Value} {x y : Od} {u v : AV} {cs : List C} {r : List α} {H' : AV → List C → List HA} (hx : fs.ev x = u) (hy : fs.ev y = v) (hs : SZ size R fs.z v r) (hr : ∀ u' news, Rep1 fs.H (.row u ty size n cs) (.row u' ty size (n + r.length) (cs ++ news)) (H' u' news))
  (hb : (n + r.length) * bytes ≤ 140737488355328) (hn : n + r.length ≤ 9223372036854775807) (hw : ∀ (c' : C) (_ : sameC c' c' = true) news, CL size R fs.z news r → FL call B l (fs.res d (.c c') fs.z (H' (.c c') news)) Q) : FL call B (⟨some d, none, .app ty size bytes zero x y⟩ :: l) fs Q := fun st rf => by
 obtain ⟨news, h1, h2⟩ := hs.src (st := st) fun b k hb => (rf.hold.z b k hb).1
 exact ap_app rf hx hy h1 (fun u' => hr u' news) h2.1 hb hn (fun c' hc => hw c' hc news h2)
theorem fl_appB {ty ty' size bytes n b : Nat} {zero : List Value} {x y : Od} {u : AV} {cs news : List C} {m : Nat} {H' : AV → List HA} (hx : fs.ev x = u) (hy : fs.ev y = .c (.sl b 0 m size)) (hm : HA.blk b (.cells ty' news) ∈ fs.H) (hl : news.length = m * size) (hr : ∀ u', Rep1 fs.H (.row u ty size n cs) (.row u' ty size (n + m) (cs ++ news)) (H' u'))
  (hb : (n + m) * bytes ≤ 140737488355328) (hn : n + m ≤ 9223372036854775807) (hw : ∀ c' : C, sameC c' c' = true → FL call B l (fs.res d (.c c') fs.z (H' (.c c'))) Q) : FL call B (⟨some d, none, .app ty size bytes zero x y⟩ :: l) fs Q :=
 fl_app hx hy (src_blk hm (by omega) (by rw [← hl]; simp)) hr hl hb hn hw
theorem fx_frzR {α : Type} {size : Nat} {R : RT α} [RMono R] {k : Nat} {c : XC} {Q : Exit → Sf → Prop} {u : AV} {ty n : Nat} {cs : List C} {r : List α} {p q : List HA} (e : fs.H = p ++ .row u ty size n cs :: q) (hc : CL size R fs.z cs r) (hn : r.length = n) (hm : n ≤ 9223372036854775807)
    (hw : ∀ z', zle fs.z z' → SZ size R z' u r → FX call k B c (fs.frz z' (p ++ q)) Q) : FX call k B c fs Q := fun st rf => by
  obtain ⟨g1, g2⟩ := rf.hold.h (.row u ty size n cs) (by rw [e]; simp)
  rcases g2 with ⟨h0, rfl⟩ | ⟨b, rfl, h3⟩
  · have hr0 : r = [] := List.eq_nil_of_length_eq_zero (by omega)
    subst hr0
    refine hw fs.z (zle.refl _) .nil st ?_
    have hsub : (p ++ q).Sublist fs.H := by rw [e]; exact (List.Sublist.refl p).append (List.sublist_cons_self _ _)
    exact ⟨rf.env, rf.hold.sub hsub, rf.le, rf.old, fun b hb => rf.own b ((fps_sub hsub).subset hb), rf.zle, rf.zin⟩
  · have h1 := rf.frz (p := p) (q := q) (b := b) (k := .cells ty cs) (a := .row (.c (.sl b 0 n size)) ty size n cs) e rfl (fun m hm => by
      obtain ⟨_, hm⟩ := hm
      rcases hm with ⟨_, hm⟩ | ⟨b', hb', hm⟩
      · cases hm
      · injection hb' with hb'; injection hb' with hb'; subst hb'; exact hm)
    exact hw _ (fun _ _ h => .inl h) ((hc.mono (fun _ _ h => .inl h)).sz hn hm (.inr ⟨rfl, rfl⟩)) st h1
theorem fx_sub {k : Nat} {c : XC} {Q : Exit → Sf → Prop} {H' : List HA} (hs : H'.Sublist fs.H) (hw : FX call k B c (fs.heap H') Q) : FX call k B c fs Q := fun st rf =>
 hw st ⟨rf.env, rf.hold.sub hs, rf.le, rf.old, fun b hb => rf.own b ((fps_sub hs).subset hb), rf.zle, rf.zin⟩
theorem fl_stE {size : Nat} {x y : Od} {b o ty : Nat} {cs ds cs' : List C} {v : AV} {H' : List HA} (hx : fs.ev x = .c (.ptr b o)) (hy : fs.ev y = v) (hv : v.cells? = some ds) (hr : Rep1 fs.H (.blk b (.cells ty cs)) (.blk b (.cells ty cs')) H') (he : setL cs o ds = cs') (hs : ds.length = size) (h : o + size ≤ cs.length)
  (hw : FL call B l (fs.heap H') Q) : FL call B (⟨none, none, .store size x y⟩ :: l) fs Q := by
 subst he
 exact fl_st hx hy hv hr hs h hw
theorem Rf.row0 {st : AS} (h : Rf B fs st) (ty size : Nat) : Rf B (fs.heap (.row nilv ty size 0 [] :: fs.H)) st := by
 have e : fps (HA.row nilv ty size 0 [] :: fs.H) = fps fs.H := by rw [fps_cons]; rfl
 refine ⟨h.env, ⟨fun b k hb => ?_, fun a ha => ?_, fun b hb => ?_, ?_⟩, h.le, h.old, fun b hb => ?_, h.zle, h.zin⟩
 ·show _ ∧ _ ∧ b ∉ fps (HA.row nilv ty size 0 [] :: fs.H)
  rw [e]; exact h.hold.z b k hb
 ·rcases List.mem_cons.1 ha with rfl | ha
  ·exact ⟨by simp, .inl ⟨rfl, rfl⟩⟩
  ·exact h.hold.h a ha
 ·have hb : b ∈ fps (HA.row nilv ty size 0 [] :: fs.H) := hb
  rw [e] at hb; exact h.hold.lt b hb
 ·show (fps (HA.row nilv ty size 0 [] :: fs.H)).Nodup
  rw [e]; exact h.hold.nd
 ·have hb : b ∈ fps (HA.row nilv ty size 0 [] :: fs.H) := hb
  rw [e] at hb; exact h.own b hb
theorem fl_row0 (ty size : Nat) (hw : FL call B l (fs.heap (.row nilv ty size 0 [] :: fs.H)) Q) : FL call B l fs Q := fun st r => hw st (r.row0 ty size)
theorem Rf.asrow {st : AS} (h : Rf B fs st) {b ty n size : Nat} {cs : List C} {p q : List HA} (e : fs.H = p ++ .blk b (.cells ty cs) :: q) (hl : cs.length = n * size) : Rf B (fs.heap (p ++ .row (.c (.sl b 0 n size)) ty size n cs :: q)) st := by
 have e2 : fps (p ++ .row (.c (.sl b 0 n size)) ty size n cs :: q) = fps fs.H := by rw [e, fps_app, fps_app, fps_cons, fps_cons]; rfl
 have hb0 := h.hold.h (.blk b (.cells ty cs)) (by rw [e]; simp)
 refine ⟨h.env, ⟨fun b k hb => ?_, fun a ha => ?_, fun b hb => ?_, ?_⟩, h.le, h.old, fun b hb => ?_, h.zle, h.zin⟩
 ·show _ ∧ _ ∧ b ∉ fps (p ++ .row _ ty size n cs :: q)
  rw [e2]; exact h.hold.z b k hb
 ·have ha : a ∈ p ++ .row (.c (.sl b 0 n size)) ty size n cs :: q := ha
  rcases List.mem_append.1 ha with ha | ha
  ·exact h.hold.h a (by rw [e]; simp [ha])
  ·rcases List.mem_cons.1 ha with rfl | ha
   ·exact ⟨hl, .inr ⟨b, rfl, hb0⟩⟩
   ·exact h.hold.h a (by rw [e]; simp [ha])
 ·have hb : b ∈ fps (p ++ .row (.c (.sl _ 0 n size)) ty size n cs :: q) := hb
  rw [e2] at hb; exact h.hold.lt b hb
 ·show (fps (p ++ .row _ ty size n cs :: q)).Nodup
  rw [e2]; exact h.hold.nd
 ·have hb : b ∈ fps (p ++ .row (.c (.sl _ 0 n size)) ty size n cs :: q) := hb
  rw [e2] at hb; exact h.own b hb
theorem fl_asrow {b ty n size : Nat} {cs : List C} {p q : List HA} (e : fs.H = p ++ .blk b (.cells ty cs) :: q) (hl : cs.length = n * size) (hw : FL call B l (fs.heap (p ++ .row (.c (.sl b 0 n size)) ty size n cs :: q)) Q) : FL call B l fs Q := fun st r => hw st (r.asrow e hl)
end
open Go.RowKit
open Go.Eng (Od need need_pos need_some setL binV binBV)
structure DS where
 fs : Sf
 T : Mem
 tag : Nat
 last : Nat
 pj : List Nat
 lj : List Nat
def Acc.hd (a : Acc) : Tr Blk := match a.mems with
 | (_, m) :: _ => m
 | [] => .nil
def Acc.seq (a : Acc) : AS := ⟨a.env, ovl a.hd a.pend, a.nx⟩
structure DRf (B : Base) (D : DS) (a : Acc) : Prop where
 rf : Rf B D.fs a.seq
 hd : ∃ m ml, a.mems = (D.tag, m) :: ml
 t0 : ∀ p, p ∈ a.mems → ∀ b k, D.T b k → p.2.get b = some k
 tlt : ∀ b k, D.T b k → b < a.nx
 np : ∀ p, p ∈ a.pend → ∀ k, ¬ D.T p.2.1 k
 fl : ∀ p, p ∈ a.fl → p.1 ∈ D.lj ∧ ∀ m : Tr Blk, (∀ b k, D.T b k → m.get b = some k) → stepQ p.2.1 ⟨p.2.2.1, m, 0⟩ = some p.2.2.2 ∧ sameA p.2.2.2 p.2.2.2 = true
 last : a.last = D.last
 pj : a.pend.map (·.1) = D.pj
def FD (call : Call') (B : Base) (an : List Nat) (j : Nat) (l : List D) (D : DS) (Q : Sf → Prop) : Prop := ∀ a, DRf B D a → Wd (dRun call an j l a) fun a' => ∃ fs', Rf B fs' a'.fin ∧ Q fs'
def tz (z : Mem) (H : List HA) : Mem := fun b k => z b k ∨ HA.blk b k ∈ H
def GK (fs : Sf) (i : I) : Prop := match i.g with
 | none => True
 | some (s, want) => fs.e s = .c (.v (.bool want))
section
variable {call : Call'} {B : Base} {an : List Nat} {j : Nat} {l : List D} {D : DS} {Q : Sf → Prop} {a : Acc}
theorem DRf.seqget (h : DRf B D a) {m : Tr Blk} {ml : List (Nat × Tr Blk)} (hm : a.mems = (D.tag, m) :: ml) : a.hd = m := by simp only [Acc.hd, hm]
theorem fin_seq (h : DRf B D a) : a.fin = a.seq := by
 obtain ⟨m, ml, hm⟩ := h.hd
 simp only [Acc.fin, Acc.seq, Acc.hd, hm]
theorem fd_nil (h : Q D.fs) : FD call B an j [] D Q := fun a r => wd_nil ⟨D.fs, by rw [fin_seq r]; exact r.rf, h⟩
theorem fx_draw {k : Nat} {fs : Sf} {ds : List CE.D} {Q : Exit → Sf → Prop} (h : FD call B an 0 ds ⟨fs, tz fs.z fs.H, 0, 0, [], []⟩ (Q .normal)) : FX call k B (.draw ds an) fs Q := fun st r => by
  refine wx_draw ?_
  refine h _ ⟨r, ⟨_, _, rfl⟩, fun p hp b kk hb => ?_, fun b kk hb => ?_, fun p hp => by simp at hp, fun p hp => by simp at hp, rfl, rfl⟩
  · have : p = (0, st.mem) := by simpa using hp
    subst this
    rcases hb with hb | hb
    · exact (r.hold.z b kk hb).1
    · exact r.hold.h _ hb
  · rcases hb with hb | hb
    · exact (r.hold.z b kk hb).2.1
    · exact r.hold.lt b (mem_fps.2 ⟨_, hb, by simp [HA.fp]⟩)
theorem fx_drawS {k : Nat} {fs : Sf} {ds : List CE.D} {c : XC} {Q : Exit → Sf → Prop} (h : FD call B an 0 ds ⟨fs, tz fs.z fs.H, 0, 0, [], []⟩ (fun fs' => FX call k B c fs' Q)) : FX call k B (.seq (.draw ds an) c) fs Q := fx_seq (fx_draw h)
theorem see_get {d : CE.D} {q : Nat} (h : q ∈ d.sl) : (a.see d).get q = a.seq.get q := by
 simp only [AS.get, Acc.see, Acc.seq]
 rw [restr_in h]
theorem gk_ok (r : Rf B D.fs a.seq) {d : CE.D} (hg : GK D.fs d.i) : gOk d.i (a.see d) = some true := by
 unfold GK at hg
 unfold gOk
 split at hg
 ·rename_i h; rw [h]
 ·rename_i s want h
  rw [h]
  simp only
  rw [see_get (by simp only [CE.D.sl, h]; exact List.mem_cons_self ..), r.env, hg]
  simp [gd]
theorem gk_off (r : Rf B D.fs a.seq) {d : CE.D} {s : Nat} {want : Bool} (h : d.i.g = some (s, want)) (hg : D.fs.e s = .c (.v (.bool (!want))) ∨ D.fs.e s = .tup []) : gOk d.i (a.see d) = some false := by
 unfold gOk
 rw [h]
 simp only
 rw [see_get (by simp only [CE.D.sl, h]; exact List.mem_cons_self ..), r.env]
 rcases hg with hg | hg <;> rw [hg] <;> simp [gd]
theorem sl_sub {d : CE.D} {q : Nat} (h : q ∈ d.i.o.sl) : q ∈ d.sl := by
 unfold CE.D.sl
 split
 ·exact List.mem_cons_of_mem _ h
 ·exact h
def pureO : Ins → Bool
 | .mv _ | .pick _ _ _ | .bin _ _ _ | .binB _ _ _ | .un _ _ | .cvi _ _ | .fad _ _ | .fld _ _ _ _ | .iad _ _ _ | .ext _ _ | .len _ _ | .build _ _ | .mkf _ _ _ | .nilck _ => true
 | _ => false
theorem ev_sub {env : Tr AV} {ls : List Nat} {m m' : Tr Blk} {n n' : Nat} {x : Od} (h : ∀ q, q ∈ Od.sl x → q ∈ ls) : (⟨restr env ls, m, n⟩ : AS).ev x = (⟨env, m', n'⟩ : AS).ev x := by
 cases x with
 | t i => simp only [AS.ev, AS.get]; rw [restr_in (h i (by simp [Od.sl]))]
 | _ => rfl
theorem pure_eq {o : Ins} (hp : pureO o = true) {env : Tr AV} {ls : List Nat} {m m' : Tr Blk} {n n' : Nat} (h : ∀ q, q ∈ o.sl → q ∈ ls) : stepQ o ⟨restr env ls, m, n⟩ = stepQ o ⟨env, m', n'⟩ := by
 have hev : ∀ x, (∀ q, q ∈ Od.sl x → q ∈ o.sl) → (⟨restr env ls, m, n⟩ : AS).ev x = (⟨env, m', n'⟩ : AS).ev x := fun x hx => ev_sub fun q hq => h q (hx q hq)
 cases o <;> simp only [pureO, Bool.false_eq_true] at hp
 case mv x => simp only [stepQ, hev x (fun q hq => hq)]
 case pick c x y => simp only [stepQ, hev c (fun q hq => by simp [Ins.sl, hq]), hev x (fun q hq => by simp [Ins.sl, hq]), hev y (fun q hq => by simp [Ins.sl, hq])]
 case bin op x y => simp only [stepQ, hev x (fun q hq => by simp [Ins.sl, hq]), hev y (fun q hq => by simp [Ins.sl, hq])]
 case binB op x y => simp only [stepQ, hev x (fun q hq => by simp [Ins.sl, hq]), hev y (fun q hq => by simp [Ins.sl, hq])]
 case un op x => simp only [stepQ, hev x (fun q hq => hq)]
 case nilck x => simp only [stepQ, hev x (fun q hq => hq)]
 case cvi k x => simp only [stepQ, hev x (fun q hq => hq)]
 case fad off x => simp only [stepQ, hev x (fun q hq => hq)]
 case fld g s off x => simp only [stepQ, hev x (fun q hq => hq)]
 case iad s x y => simp only [stepQ, hev x (fun q hq => by simp [Ins.sl, hq]), hev y (fun q hq => by simp [Ins.sl, hq])]
 case ext x i => simp only [stepQ, hev x (fun q hq => hq)]
 case len s x => cases s <;> simp only [stepQ, hev x (fun q hq => hq)]
 case build zero parts =>
  have key : ∀ (l : List (Nat × Nat × Od)) (cs : List C), (∀ p ∈ l, ∀ q ∈ Od.sl p.2.2, q ∈ ls) → fillC (⟨restr env ls, m, n⟩ : AS) cs l = fillC (⟨env, m', n'⟩ : AS) cs l := by
   intro l
   induction l with
   | nil => intro cs _; rfl
   | cons p l ih =>
    intro cs hl
    obtain ⟨i, k, x⟩ := p
    simp only [fillC]
    rw [ev_sub (m' := m') (n' := n') (fun q hq => hl _ (List.mem_cons_self ..) q hq)]
    cases ((⟨env, m', n'⟩ : AS).ev x).cells? with
    | none => rfl
    | some ds => simp only [ih _ fun p hp => hl p (List.mem_cons_of_mem _ hp)]
  simp only [stepQ]
  rw [key parts _ fun p hp q hq => h q ?_]
  simp only [Ins.sl, Od.sls, List.mem_flatMap, List.mem_map]
  exact ⟨p.2.2, ⟨p, hp, rfl⟩, hq⟩
 case mkf f xs ys =>
  have key : ∀ (l : List Od), (∀ x ∈ l, ∀ q ∈ Od.sl x, q ∈ ls) → capsOf (⟨restr env ls, m, n⟩ : AS) l = capsOf (⟨env, m', n'⟩ : AS) l := by
   intro l
   induction l with
   | nil => intro _; rfl
   | cons x l ih =>
    intro hl
    simp only [capsOf]
    rw [ev_sub (m' := m') (n' := n') (fun q hq => hl _ (List.mem_cons_self ..) q hq), ih fun p hp => hl p (List.mem_cons_of_mem _ hp)]
  simp only [stepQ]
  rw [key xs fun x hx q hq => h q (by simp only [Ins.sl, Od.sls, List.mem_append, List.mem_flatMap]; exact .inl ⟨x, hx, hq⟩), key ys fun x hx q hq => h q (by simp only [Ins.sl, Od.sls, List.mem_append, List.mem_flatMap]; exact .inr ⟨x, hx, hq⟩)]
theorem pure_noE {o : Ins} (hp : pureO o = true) (st : AS) : stepE o st = none ∧ callee st o = none := by
 cases o <;> simp only [pureO, Bool.false_eq_true] at hp <;> exact ⟨rfl, rfl⟩
theorem fd_pure {i : I} {d : Nat} {af : List Nat} (hd : i.d = some d) (hp : pureO i.o = true) (hg : GK D.fs i) (h : FL call B [⟨some d, none, i.o⟩] D.fs fun fs' => FD call B an (j + 1) l ⟨fs', D.T, D.tag, D.last, D.pj, D.lj⟩ Q) : FD call B an j (⟨i, af⟩ :: l) D Q := fun a r => by
 have h1 := h a.seq r.rf
 simp only [evL, evI, gOk, evV, (pure_noE hp a.seq).2] at h1
 cases hq : stepQ i.o a.seq with
 | none =>
  rw [hq, (pure_noE hp a.seq).1] at h1
  exact h1.elim
 | some v =>
  rw [hq] at h1
  have hq' : stepQ i.o (a.see ⟨i, af⟩) = some v := by
   rw [← hq]
   exact pure_eq hp fun q hq => sl_sub (d := ⟨i, af⟩) hq
  have hgo := gk_ok (d := ⟨i, af⟩) r.rf hg
  refine wd_go (a' := ⟨putE a.env i.d v, a.nx, a.mems, a.pend, a.fl, a.last⟩) ?_ ?_
  ·simp only [Acc.see] at hgo hq'
   simp only [dStep]
   rw [show gOk i ⟨restr a.env (CE.D.sl ⟨i, af⟩), .nil, a.nx⟩ = some true from hgo]
   simp only [hq']
  ·obtain ⟨fs', r', hn⟩ := h1
   rw [hd]
   exact hn _ ⟨r', r.hd, r.t0, r.tlt, r.np, r.fl, r.last, r.pj⟩
theorem fd_off {i : I} {d s : Nat} {want : Bool} {af : List Nat} (hd : i.d = some d) (hg : i.g = some (s, want)) (hs : D.fs.e s = .c (.v (.bool (!want))) ∨ D.fs.e s = .tup []) (hw : FD call B an (j + 1) l ⟨D.fs.put d (.tup []), D.T, D.tag, D.last, D.pj, D.lj⟩ Q) : FD call B an j (⟨i, af⟩ :: l) D Q := fun a r => by
 have hgo := gk_off (d := ⟨i, af⟩) r.rf hg hs
 refine wd_go (a' := ⟨putE a.env i.d (.tup []), a.nx, a.mems, a.pend, a.fl, a.last⟩) ?_ ?_
 ·simp only [dStep]
  rw [show gOk i ⟨restr a.env (CE.D.sl ⟨i, af⟩), .nil, a.nx⟩ = some false from hgo]
 ·rw [hd]
  exact hw _ ⟨r.rf.put d _, r.hd, r.t0, r.tlt, r.np, r.fl, r.last, r.pj⟩
theorem rdAll_t {o : Ins} {re : Tr AV} {bits : Nat} {v : AV} (hs : sameA v v = true) : ∀ {ml : List (Nat × Tr Blk)}, (∀ p, p ∈ ml → stepQ o ⟨re, p.2, 0⟩ = some v) → rdAll o re bits v ml = true := by
 intro ml
 induction ml with
 | nil => intro _; rfl
 | cons p ml ih =>
  intro h
  obtain ⟨x, m⟩ := p
  simp only [rdAll, h (x, m) (List.mem_cons_self ..), hs, Bool.true_and]
  cases x with
  | zero => rfl
  | succ y => simp only [ih fun p hp => h p (List.mem_cons_of_mem _ hp), Bool.or_true]
theorem fd_load {i : I} {d : Nat} {agg : Bool} {size : Nat} {x : Od} {b o : Nat} {k : Blk} {full : List C} {v : AV} {af : List Nat} (hi : i.o = .load agg size x) (hd : i.d = some d) (hg : GK D.fs i) (hx : D.fs.ev x = .c (.ptr b o)) (hT : D.T b k) (hk : k.cs = some full) (hl : o + size ≤ full.length) (hv : mkAV agg ((full.drop o).take size) = v)
  (hs : sameA v v = true) (hw : FD call B an (j + 1) l ⟨D.fs.put d v, D.T, D.tag, D.last, D.pj, j :: D.lj⟩ Q) : FD call B an j (⟨i, af⟩ :: l) D Q := fun a r => by
 have hgo := gk_ok (d := ⟨i, af⟩) r.rf hg
 have hev : ∀ m n, (⟨restr a.env (CE.D.sl ⟨i, af⟩), m, n⟩ : AS).ev x = .c (.ptr b o) := fun m n => by
  rw [ev_sub (m' := a.seq.mem) (n' := a.seq.nx) fun q hq => sl_sub (d := ⟨i, af⟩) (by rw [hi]; exact hq)]
  exact (r.rf.ev x).trans hx
 have hst : ∀ (m : Tr Blk) (n : Nat), (∀ b k, D.T b k → m.get b = some k) → stepQ (.load agg size x) ⟨restr a.env (CE.D.sl ⟨i, af⟩), m, n⟩ = some v := fun m n hm => by
  simp only [stepQ, hev, AS.read, blk_of (st := ⟨restr a.env (CE.D.sl ⟨i, af⟩), m, n⟩) (hm _ _ hT) hk]
  rw [need_pos hl]
  simp only [hv]
 have h0 : stepQ (.load agg size x) ⟨restr a.env (CE.D.sl ⟨i, af⟩), .nil, a.nx⟩ = none := by
  simp only [stepQ, hev, AS.read, AS.blk, Tr.get_nil]
 obtain ⟨m, ml, hm⟩ := r.hd
 have hm0 : ∀ b k, D.T b k → m.get b = some k := r.t0 (D.tag, m) (by rw [hm]; exact List.mem_cons_self ..)
 have hrd : rdAll (.load agg size x) (restr a.env (CE.D.sl ⟨i, af⟩)) (an.getD j 0) v ((D.tag, m) :: ml) = true := rdAll_t hs fun p hp => hst p.2 0 (r.t0 p (by rw [hm]; exact hp))
 refine wd_go (a' := ⟨putE a.env i.d v, a.nx, a.mems, a.pend, (j, i.o, restr a.env (CE.D.sl ⟨i, af⟩), v) :: a.fl, a.last⟩) ?_ ?_
 ·simp only [dStep]
  rw [show gOk i ⟨restr a.env (CE.D.sl ⟨i, af⟩), .nil, a.nx⟩ = some true from hgo]
  simp only [hi, h0, isLoad, hm, hst m 0 hm0, hrd]
 ·rw [hd]
  refine hw _ ⟨r.rf.put d _, ⟨m, ml, hm⟩, r.t0, r.tlt, r.np, fun p hp => ?_, r.last, r.pj⟩
  rcases List.mem_cons.1 hp with rfl | hp
  ·exact ⟨List.mem_cons_self .., fun m' hm' => ⟨by rw [hi]; exact hst m' 0 hm', hs⟩⟩
  ·exact ⟨List.mem_cons_of_mem _ (r.fl p hp).1, (r.fl p hp).2⟩
theorem fd_ldA {i : I} {d : Nat} {agg : Bool} {size : Nat} {x : Od} {b q p off : Nat} {cs : List C} {v : AV} {af : List Nat} {z : Mem} (hi : i.o = .load agg size x) (hd : i.d = some d) (hg : GK D.fs i) (hx : D.fs.ev x = .c (.ptr b q)) (ha : At z b p cs) (hz : ∀ b k, z b k → D.T b k) (hq : q = p + off) (hl : off + size ≤ cs.length) (hv : mkAV agg ((cs.drop off).take size) = v)
  (hs : sameA v v = true) (hw : FD call B an (j + 1) l ⟨D.fs.put d v, D.T, D.tag, D.last, D.pj, j :: D.lj⟩ Q) : FD call B an j (⟨i, af⟩ :: l) D Q := by
 obtain ⟨k, full, h1, h2, h3, h4⟩ := ha
 subst hq
 refine fd_load hi hd hg hx (hz _ _ h1) h2 (by omega) ?_ hs hw
 rw [← hv, ← h4, List.drop_take, List.take_take, List.drop_drop]
 congr 2
 omega
theorem flOk_some {bits : Nat} {m : Tr Blk} : ∀ {l : List (Nat × Ins × Tr AV × AV)}, (∀ p, p ∈ l → stepQ p.2.1 ⟨p.2.2.1, m, 0⟩ = some p.2.2.2 ∧ sameA p.2.2.2 p.2.2.2 = true) → ∃ l', flOk bits m l = some l' ∧ ∀ p, p ∈ l' → p ∈ l := by
 intro l
 induction l with
 | nil => intro _; exact ⟨[], rfl, fun p hp => hp⟩
 | cons p l ih =>
  intro h
  obtain ⟨q, o, re, v⟩ := p
  obtain ⟨l', h1, h2⟩ := ih fun p hp => h p (List.mem_cons_of_mem _ hp)
  obtain ⟨h3, h4⟩ := h (q, o, re, v) (List.mem_cons_self ..)
  simp only [flOk, h1]
  cases bits.testBit q with
  | true => exact ⟨l', rfl, fun p hp => List.mem_cons_of_mem _ (h2 p hp)⟩
  | false =>
   simp only at h3 h4
   simp only [h3, h4]
   refine ⟨_, rfl, fun p hp => ?_⟩
   rcases List.mem_cons.1 hp with rfl | hp
   ·exact List.mem_cons_self ..
   ·exact List.mem_cons_of_mem _ (h2 p hp)
theorem allB {bits : Nat} {ls : List Nat} (h : (ls.all fun q => bits.testBit q) = true) {q : Nat} (hq : q ∈ ls) : bits.testBit q = true := by
 rw [List.all_eq_true] at h
 exact h q hq
theorem pend_all {bits : Nat} {l : List (Nat × Nat × Blk)} (h : ((l.map (·.1)).all fun q => bits.testBit q) = true) : (l.filter fun p => bits.testBit p.1) = l ∧ (l.filter fun p => !bits.testBit p.1) = [] := by
 constructor
 ·refine List.filter_eq_self.2 fun p hp => allB h (List.mem_map.2 ⟨p, hp, rfl⟩)
 ·refine List.filter_eq_nil_iff.2 fun p hp => ?_
  rw [allB h (List.mem_map.2 ⟨p, hp, rfl⟩)]
  simp
theorem ovl_keep {m : Tr Blk} : ∀ {l : List (Nat × Nat × Blk)} {b : Nat} {k : Blk}, (∀ p, p ∈ l → p.2.1 ≠ b) → m.get b = some k → (ovl m l).get b = some k := by
 intro l
 induction l with
 | nil => intro b k _ h; exact h
 | cons p l ih =>
  intro b k hp h
  obtain ⟨A, id, k0⟩ := p
  simp only [ovl]
  rw [Tr.get_put _ _ _ _ _ (by omega), if_neg (hp _ (List.mem_cons_self ..))]
  exact ih (fun p hp' => hp p (List.mem_cons_of_mem _ hp')) h
theorem fd_call {i : I} {d f : Nat} {args : List Od} {vs : List AV} {af : List Nat} {Post : AV → Mem → Prop} (hi : i.o = .call f args) (hd : i.d = some d) (hg : GK D.fs i) (hbits : Nat.beq (an.getD j 0 ||| D.last) (an.getD j 0) = true) (hpj : (D.pj.all fun q => (an.getD j 0).testBit q) = true)
    (ha : args.map D.fs.ev = vs) (hc : FC call f vs D.fs.z Post) (hw : ∀ v z', zle D.fs.z z' → Post v z' → FD call B an (j + 1) l ⟨⟨eput D.fs.e d v, z', D.fs.H⟩, D.T, j + 1, an.getD j 0 ||| (1 <<< j), [], D.lj⟩ Q) : FD call B an j (⟨i, af⟩ :: l) D Q := fun a r => by
  have hgo := gk_ok (d := ⟨i, af⟩) r.rf hg
  obtain ⟨m, ml, hm⟩ := r.hd
  have hhd := r.seqget hm
  obtain ⟨v, mem', nx', z', H', h1, h2, h3, h4, h5, h6, h7, h8, h9⟩ := hc (ovl m a.pend) a.nx (by
    have := r.rf.hold
    simp only [Acc.seq, hhd] at this
    exact Hold.left (Hs := []) (Hr := D.fs.H) this)
  subst h8
  have hev : ∀ m n, args.map (⟨restr a.env (CE.D.sl ⟨i, af⟩), m, n⟩ : AS).ev = vs := fun m n => by
    rw [← ha]
    refine List.map_congr_left fun x hx => ?_
    rw [ev_sub (m' := a.seq.mem) (n' := a.seq.nx) fun q hq => sl_sub (d := ⟨i, af⟩) (by rw [hi]; simp only [Ins.sl, Od.sls, List.mem_flatMap]; exact ⟨x, hx, hq⟩)]
    exact r.rf.ev x
  have hp := pend_all (bits := an.getD j 0) (l := a.pend) (by rw [r.pj]; exact hpj)
  have hT : ∀ b k, D.T b k → mem'.get b = some k := fun b k hb => by
    rw [h3 b (r.tlt b k hb) (by simp [fps])]
    exact ovl_keep (fun p hp' e => r.np p hp' k (e ▸ hb)) (r.t0 (D.tag, m) (by rw [hm]; exact List.mem_cons_self ..) b k hb)
  obtain ⟨fl', hf1, hf2⟩ := flOk_some (bits := an.getD j 0) (m := mem') (l := a.fl) fun p hp => (r.fl p hp).2 mem' hT
  refine wd_go (a' := ⟨putE a.env i.d v, nx', (j + 1, mem') :: a.mems, a.pend.filter (fun p => !(an.getD j 0).testBit p.1), fl', (an.getD j 0) ||| (1 <<< j)⟩) ?_ ?_
  · simp only [dStep]
    rw [show gOk i ⟨restr a.env (CE.D.sl ⟨i, af⟩), .nil, a.nx⟩ = some true from hgo]
    simp only [hi, stepQ, isLoad, stepE, hm, hp.1, evV, callee, hev, h1, r.last, hbits, hf1]
  · rw [hd, hp.2]
    refine hw v z' h5 h9 _ ⟨?_, ⟨mem', a.mems, rfl⟩, fun p hp' b k hb => ?_, fun b k hb => Nat.lt_of_lt_of_le (r.tlt b k hb) h2, fun p hp => by simp at hp, fun p hp => r.fl p (hf2 p hp), rfl, rfl⟩
    · have := r.rf.callR (Hs := []) (Hr := D.fs.H) rfl (mem' := mem') (nx' := nx') (z' := z') (H' := []) h2 (fun b hb hb2 => by
        rw [h3 b hb hb2]; simp only [Acc.seq, hhd]) h4 h5 h6 h7
      exact this.put d v
    · rcases List.mem_cons.1 hp' with rfl | hp'
      · exact hT b k hb
      · exact r.t0 p hp' b k hb
theorem fd_own {i : I} {d : Nat} {af : List Nat} {k : Blk} {w : Nat → AV} (hd : i.d = some d) (hg : GK D.fs i) (hl : isLoad i.o = false) (hq : ∀ st : AS, stepQ i.o st = none) (he : ∀ st : AS, (∀ q, q ∈ i.o.sl → st.get q = D.fs.e q) → stepE i.o st = some (st.new k, w st.nx))
  (hw : ∀ b, (∀ k, ¬ D.T b k) → FD call B an (j + 1) l ⟨⟨eput D.fs.e d (w b), D.fs.z, .blk b k :: D.fs.H⟩, D.T, D.tag, D.last, j :: D.pj, D.lj⟩ Q) : FD call B an j (⟨i, af⟩ :: l) D Q := fun a r => by
 have hgo := gk_ok (d := ⟨i, af⟩) r.rf hg
 have he' : stepE i.o ⟨restr a.env (CE.D.sl ⟨i, af⟩), .nil, a.nx⟩ = some ((⟨restr a.env (CE.D.sl ⟨i, af⟩), .nil, a.nx⟩ : AS).new k, w a.nx) := he _ fun q hq => by
  have := see_get (a := a) (d := ⟨i, af⟩) (sl_sub (d := ⟨i, af⟩) hq)
  exact this.trans (r.rf.env q)
 have h1 : ((⟨restr a.env (CE.D.sl ⟨i, af⟩), .nil, a.nx⟩ : AS).new k).mem.get a.nx = some k := by rw [new_mem, if_pos rfl]
 have h2 : Nat.beq ((⟨restr a.env (CE.D.sl ⟨i, af⟩), .nil, a.nx⟩ : AS).new k).nx (a.nx + 1) = true := Nat.beq_refl _
 refine wd_go (a' := ⟨putE a.env i.d (w a.nx), a.nx + 1, a.mems, (j, a.nx, k) :: a.pend, a.fl, a.last⟩) ?_ ?_
 ·simp only [dStep]
  rw [show gOk i ⟨restr a.env (CE.D.sl ⟨i, af⟩), .nil, a.nx⟩ = some true from hgo]
  simp only [hq, hl, he', h1, h2]
 ·rw [hd]
  have r1 := r.rf.new (a := .blk a.nx k) (m' := (a.seq.new k).mem) (by show (a.seq.new k).mem.get a.seq.nx = some k; rw [new_mem, if_pos rfl]) rfl (fun b hb => by rw [new_mem, if_neg fun e => hb e.symm])
  refine hw a.nx (fun k hb => absurd (r.tlt _ _ hb) (Nat.lt_irrefl _)) _ ⟨r1.put d (w a.nx), r.hd, r.t0, fun b k' hb => Nat.lt_succ_of_lt (r.tlt b k' hb), fun p hp k' hb => ?_, r.fl, r.last, ?_⟩
  ·rcases List.mem_cons.1 hp with rfl | hp
   ·exact absurd (r.tlt _ _ hb) (Nat.lt_irrefl _)
   ·exact r.np p hp k' hb
  ·simp only [List.map_cons, r.pj]
theorem fd_chg {i : I} {af : List Nat} (hg : GK D.fs i) (hl : isLoad i.o = false) (hbits : Nat.beq (an.getD j 0 ||| D.last) (an.getD j 0) = true) (hpj : (D.pj.all fun q => (an.getD j 0).testBit q) = true) (hlj : (D.lj.all fun q => (an.getD j 0).testBit q) = true)
    (hq : ∀ st : AS, stepQ i.o st = none) (he : ∀ st : AS, (∀ q, q ∈ i.o.sl → st.get q = D.fs.e q) → st.mem = .nil → stepE i.o st = none) (hev : ∀ (env : Tr AV) (ls : List Nat) (m : Tr Blk) (n : Nat), (∀ q, q ∈ i.o.sl → q ∈ ls) → evV call i.o ⟨restr env ls, m, n⟩ = evV call i.o ⟨env, m, n⟩)
    (h : FL call B [⟨i.d, none, i.o⟩] D.fs fun fs' => FD call B an (j + 1) l ⟨fs', fun _ _ => False, j + 1, an.getD j 0 ||| (1 <<< j), [], []⟩ Q) : FD call B an j (⟨i, af⟩ :: l) D Q := fun a r => by
  have hgo := gk_ok (d := ⟨i, af⟩) r.rf hg
  obtain ⟨m, ml, hm⟩ := r.hd
  have hhd := r.seqget hm
  have hp := pend_all (bits := an.getD j 0) (l := a.pend) (by rw [r.pj]; exact hpj)
  have h1 := h a.seq r.rf
  simp only [evL, evI, gOk] at h1
  cases hv : evV call i.o a.seq with
  | none => rw [hv] at h1; exact h1.elim
  | some q =>
    obtain ⟨v, mem', nx'⟩ := q
    rw [hv] at h1
    have hv' : evV call i.o ⟨restr a.env (CE.D.sl ⟨i, af⟩), ovl m a.pend, a.nx⟩ = some (v, mem', nx') := by
      rw [hev _ _ _ _ fun q hq => sl_sub (d := ⟨i, af⟩) hq, ← hv]
      simp only [Acc.seq, hhd]
    have he' : stepE i.o ⟨restr a.env (CE.D.sl ⟨i, af⟩), .nil, a.nx⟩ = none := he _ (fun q hq => by
      have := see_get (a := a) (d := ⟨i, af⟩) (sl_sub (d := ⟨i, af⟩) hq)
      exact this.trans (r.rf.env q)) rfl
    have hf := flOk_all (bits := an.getD j 0) (m := mem') (l := a.fl) fun p hp => allB hlj (r.fl p hp).1
    refine wd_go (a' := ⟨putE a.env i.d v, nx', (j + 1, mem') :: a.mems, a.pend.filter (fun p => !(an.getD j 0).testBit p.1), [], (an.getD j 0) ||| (1 <<< j)⟩) ?_ ?_
    · simp only [dStep]
      rw [show gOk i ⟨restr a.env (CE.D.sl ⟨i, af⟩), .nil, a.nx⟩ = some true from hgo]
      simp only [hq, hl, he', hm, hp.1, hv', r.last, hbits, hf]
    · rw [hp.2]
      obtain ⟨fs', r', hn⟩ := h1
      refine hn _ ⟨?_, ⟨mem', a.mems, rfl⟩, fun p _ b k hb => hb.elim, fun b k hb => hb.elim, fun p hp => by simp at hp, fun p hp => by simp at hp, rfl, rfl⟩
      cases hdd : i.d with
      | none => rw [hdd] at r'; exact r'
      | some d => rw [hdd] at r'; exact r'
theorem fd_chgT {i : I} {af : List Nat} (hg : GK D.fs i) (hl : isLoad i.o = false) (hbits : Nat.beq (an.getD j 0 ||| D.last) (an.getD j 0) = true) (hpj : (D.pj.all fun q => (an.getD j 0).testBit q) = true)
    (hq : ∀ st : AS, stepQ i.o st = none) (he : ∀ st : AS, (∀ q, q ∈ i.o.sl → st.get q = D.fs.e q) → st.mem = .nil → stepE i.o st = none) (hev : ∀ (env : Tr AV) (ls : List Nat) (m : Tr Blk) (n : Nat), (∀ q, q ∈ i.o.sl → q ∈ ls) → evV call i.o ⟨restr env ls, m, n⟩ = evV call i.o ⟨env, m, n⟩)
    (hk : ∀ (st : AS) v m' n', Rf B D.fs st → evV call i.o st = some (v, m', n') → st.nx ≤ n' ∧ ∀ b k, D.T b k → st.mem.get b = some k → m'.get b = some k)
    (h : FL call B [⟨i.d, none, i.o⟩] D.fs fun fs' => FD call B an (j + 1) l ⟨fs', D.T, j + 1, an.getD j 0 ||| (1 <<< j), [], D.lj⟩ Q) : FD call B an j (⟨i, af⟩ :: l) D Q := fun a r => by
  have hgo := gk_ok (d := ⟨i, af⟩) r.rf hg
  obtain ⟨m, ml, hm⟩ := r.hd
  have hhd := r.seqget hm
  have hp := pend_all (bits := an.getD j 0) (l := a.pend) (by rw [r.pj]; exact hpj)
  have h1 := h a.seq r.rf
  simp only [evL, evI, gOk] at h1
  cases hv : evV call i.o a.seq with
  | none => rw [hv] at h1; exact h1.elim
  | some q =>
    obtain ⟨v, mem', nx'⟩ := q
    rw [hv] at h1
    obtain ⟨hn, hkk⟩ := hk _ _ _ _ r.rf hv
    have hT : ∀ b k, D.T b k → mem'.get b = some k := fun b k hb => by
      refine hkk b k hb ?_
      show (ovl a.hd a.pend).get b = some k
      rw [hhd]
      exact ovl_keep (fun p hp' e => r.np p hp' k (e ▸ hb)) (r.t0 (D.tag, m) (by rw [hm]; exact List.mem_cons_self ..) b k hb)
    obtain ⟨fl', hf1, hf2⟩ := flOk_some (bits := an.getD j 0) (m := mem') (l := a.fl) fun p hp => (r.fl p hp).2 mem' hT
    have hv' : evV call i.o ⟨restr a.env (CE.D.sl ⟨i, af⟩), ovl m a.pend, a.nx⟩ = some (v, mem', nx') := by
      rw [hev _ _ _ _ fun q hq => sl_sub (d := ⟨i, af⟩) hq, ← hv]
      simp only [Acc.seq, hhd]
    have he' : stepE i.o ⟨restr a.env (CE.D.sl ⟨i, af⟩), .nil, a.nx⟩ = none := he _ (fun q hq => by
      have := see_get (a := a) (d := ⟨i, af⟩) (sl_sub (d := ⟨i, af⟩) hq)
      exact this.trans (r.rf.env q)) rfl
    refine wd_go (a' := ⟨putE a.env i.d v, nx', (j + 1, mem') :: a.mems, a.pend.filter (fun p => !(an.getD j 0).testBit p.1), fl', (an.getD j 0) ||| (1 <<< j)⟩) ?_ ?_
    · simp only [dStep]
      rw [show gOk i ⟨restr a.env (CE.D.sl ⟨i, af⟩), .nil, a.nx⟩ = some true from hgo]
      simp only [hq, hl, he', hm, hp.1, hv', r.last, hbits, hf1]
    · rw [hp.2]
      obtain ⟨fs', r', hnn⟩ := h1
      refine hnn _ ⟨?_, ⟨mem', a.mems, rfl⟩, fun p hp' b k hb => ?_, fun b k hb => Nat.lt_of_lt_of_le (r.tlt b k hb) hn, fun p hp => by simp at hp, fun p hp => r.fl p (hf2 p hp), rfl, rfl⟩
      · cases hdd : i.d with
        | none => rw [hdd] at r'; exact r'
        | some d => rw [hdd] at r'; exact r'
      · rcases List.mem_cons.1 hp' with rfl | hp'
        · exact hT b k hb
        · exact r.t0 p hp' b k hb
theorem evV_restr {o : Ins} (hs : (∃ s x y, o = .store s x y) ∨ ∃ ty s b zr x y, o = .app ty s b zr x y) (env : Tr AV) (ls : List Nat) (m : Tr Blk) (n : Nat) (h : ∀ q, q ∈ o.sl → q ∈ ls) : evV call o ⟨restr env ls, m, n⟩ = evV call o ⟨env, m, n⟩ := by
  have hev : ∀ x, (∀ q, q ∈ Od.sl x → q ∈ o.sl) → (⟨restr env ls, m, n⟩ : AS).ev x = (⟨env, m, n⟩ : AS).ev x := fun x hx => ev_sub fun q hq => h q (hx q hq)
  rcases hs with ⟨s, x, y, rfl⟩ | ⟨ty, s, b1, zr, x, y, rfl⟩
  · simp only [evV, callee, stepQ, stepE, hev x (fun q hq => by simp [Ins.sl, hq]), hev y (fun q hq => by simp [Ins.sl, hq])]
    cases (⟨env, m, n⟩ : AS).ev x with
    | c c =>
      cases c with
      | ptr b o =>
        cases ((⟨env, m, n⟩ : AS).ev y).cells? with
        | none => rfl
        | some ds =>
          simp only
          cases m.get b with
          | none => rfl
          | some k =>
            cases k with
            | cells ty cs =>
              simp only [need]
              by_cases hc : ds.length = s ∧ o + s ≤ cs.length
              · rw [if_pos hc, if_pos hc]; rfl
              · rw [if_neg hc, if_neg hc]
            | _ => rfl
      | _ => rfl
    | _ => rfl
  · have hrow : ∀ v, (⟨restr env ls, m, n⟩ : AS).row s v = (⟨env, m, n⟩ : AS).row s v := fun v => by
      cases v with
      | c c => cases c <;> rfl
      | _ => rfl
    simp only [evV, callee, stepQ, stepE, hev x (fun q hq => by simp [Ins.sl, hq]), hev y (fun q hq => by simp [Ins.sl, hq]), hrow]
    cases (⟨env, m, n⟩ : AS).row s ((⟨env, m, n⟩ : AS).ev y) with
    | none => rfl
    | some p =>
      obtain ⟨c, news⟩ := p
      cases c with
      | zero =>
        simp only
        cases (⟨env, m, n⟩ : AS).ev x with
        | c c =>
          cases c with
          | v x =>
            cases x with
            | slice A l c =>
              cases A with
              | none => cases l <;> cases c <;> rfl
              | some A => rfl
            | _ => rfl
          | _ => rfl
        | _ => rfl
      | succ c =>
        simp only
        cases (⟨env, m, n⟩ : AS).ev x with
        | c c' =>
          cases c' with
          | v x =>
            cases x with
            | slice A l cc =>
              cases A with
              | none =>
                cases l with
                | zero =>
                  cases cc with
                  | zero =>
                    simp only [need]
                    by_cases hc : (c + 1) * b1 ≤ 140737488355328 ∧ c + 1 ≤ 9223372036854775807 ∧ 0 < c + 1
                    · rw [if_pos hc, if_pos hc]; rfl
                    · rw [if_neg hc, if_neg hc]
                  | succ _ => rfl
                | succ _ => rfl
              | some A => rfl
            | _ => rfl
          | sl b o n' s' =>
            simp only
            cases m.get b with
            | none => rfl
            | some k =>
              cases k with
              | cells ty' cs =>
                simp only [need]
                by_cases hc : o + n' * s' = cs.length ∧ ty' = ty ∧ s' = s ∧ (n' + (c + 1)) * b1 ≤ 140737488355328 ∧ n' + (c + 1) ≤ 9223372036854775807
                · rw [if_pos hc, if_pos hc]; rfl
                · rw [if_neg hc, if_neg hc]
              | _ => rfl
          | _ => rfl
        | _ => rfl
theorem fd_splitB (s : Nat) {t : Bool} (h : D.fs.e s = .c (.v (.bool t))) (h1 : t = true → FD call B an j l ⟨D.fs.put s (.c (.v (.bool true))), D.T, D.tag, D.last, D.pj, D.lj⟩ Q) (h2 : t = false → FD call B an j l ⟨D.fs.put s (.c (.v (.bool false))), D.T, D.tag, D.last, D.pj, D.lj⟩ Q) : FD call B an j l D Q := by
 obtain ⟨fs, T, tag, last, pj, lj⟩ := D
 have e : fs.put s (.c (.v (.bool t))) = fs := by
  cases fs; simp only [Sf.put]; rw [eput_self h]
 cases t with
 | true => have := h1 rfl; simp only [e] at this; exact this
 | false => have := h2 rfl; simp only [e] at this; exact this
theorem fd_store {i : I} {s : Nat} {x y : Od} {b o : Nat} {af : List Nat} (hi : i.o = .store s x y) (hg : GK D.fs i) (hbits : Nat.beq (an.getD j 0 ||| D.last) (an.getD j 0) = true) (hpj : (D.pj.all fun q => (an.getD j 0).testBit q) = true) (hlj : (D.lj.all fun q => (an.getD j 0).testBit q) = true) (hx : D.fs.ev x = .c (.ptr b o))
  (h : FL call B [⟨i.d, none, .store s x y⟩] D.fs fun fs' => FD call B an (j + 1) l ⟨fs', fun _ _ => False, j + 1, an.getD j 0 ||| (1 <<< j), [], []⟩ Q) : FD call B an j (⟨i, af⟩ :: l) D Q := by
 refine fd_chg hg (by rw [hi]; rfl) hbits hpj hlj (fun st => by rw [hi]; rfl) (fun st hst hm => ?_) (by rw [hi]; exact evV_restr (.inl ⟨_, _, _, rfl⟩)) (by rw [hi]; exact h)
 rw [hi]
 have : st.ev x = .c (.ptr b o) := by
  rw [← hx]
  cases x with
  | t q => exact hst q (by rw [hi]; simp [Ins.sl, Od.sl])
  | _ => rfl
 simp only [stepE, this, hm, Tr.get_nil]
 cases (st.ev y).cells? <;> rfl
theorem fd_storeT {i : I} {s : Nat} {x y : Od} {b o : Nat} {af : List Nat} (hi : i.o = .store s x y) (hg : GK D.fs i) (hbits : Nat.beq (an.getD j 0 ||| D.last) (an.getD j 0) = true) (hpj : (D.pj.all fun q => (an.getD j 0).testBit q) = true) (hx : D.fs.ev x = .c (.ptr b o)) (hT : ∀ k, ¬ D.T b k)
  (h : FL call B [⟨i.d, none, .store s x y⟩] D.fs fun fs' => FD call B an (j + 1) l ⟨fs', D.T, j + 1, an.getD j 0 ||| (1 <<< j), [], D.lj⟩ Q) : FD call B an j (⟨i, af⟩ :: l) D Q := by
 refine fd_chgT hg (by rw [hi]; rfl) hbits hpj (fun st => by rw [hi]; rfl) (fun st hst hm => ?_) (by rw [hi]; exact evV_restr (.inl ⟨_, _, _, rfl⟩)) (fun st v m' n' r hv => ?_) (by rw [hi]; exact h)
 ·rw [hi]
  have : st.ev x = .c (.ptr b o) := by
   rw [← hx]
   cases x with
   | t q => exact hst q (by rw [hi]; simp [Ins.sl, Od.sl])
   | _ => rfl
  simp only [stepE, this, hm, Tr.get_nil]
  cases (st.ev y).cells? <;> rfl
 ·rw [hi] at hv
  simp only [evV, callee, stepQ, stepE, r.ev, hx] at hv
  cases hc : (D.fs.ev y).cells? with
  | none => rw [hc] at hv; cases hv
  | some ds =>
   rw [hc] at hv
   simp only at hv
   cases hm : st.mem.get b with
   | none => rw [hm] at hv; cases hv
   | some k0 =>
    rw [hm] at hv
    cases k0 with
    | cells ty cs =>
     simp only [need] at hv
     by_cases hcc : ds.length = s ∧ o + s ≤ cs.length
     ·rw [if_pos hcc] at hv
      injection hv with hv
      obtain ⟨_, hv⟩ := Prod.mk.inj hv
      obtain ⟨h1, h2⟩ := Prod.mk.inj hv
      subst h1 h2
      refine ⟨Nat.le_refl _, fun b' k' hb hg => ?_⟩
      rw [setB_mem, if_neg fun e => hT k' (by rw [e]; exact hb)]
      exact hg
     ·rw [if_neg hcc] at hv; cases hv
    | ro _ => cases hv
    | sit _ _ => cases hv
    | mp _ _ => cases hv
theorem fd_app {i : I} {ty s bytes : Nat} {zr : List Value} {x y : Od} {b o n : Nat} {af : List Nat} (hi : i.o = .app ty s bytes zr x y) (hg : GK D.fs i) (hbits : Nat.beq (an.getD j 0 ||| D.last) (an.getD j 0) = true) (hpj : (D.pj.all fun q => (an.getD j 0).testBit q) = true) (hlj : (D.lj.all fun q => (an.getD j 0).testBit q) = true) (hy : D.fs.ev y = .c (.sl b o n s))
  (h : FL call B [⟨i.d, none, .app ty s bytes zr x y⟩] D.fs fun fs' => FD call B an (j + 1) l ⟨fs', fun _ _ => False, j + 1, an.getD j 0 ||| (1 <<< j), [], []⟩ Q) : FD call B an j (⟨i, af⟩ :: l) D Q := by
 refine fd_chg hg (by rw [hi]; rfl) hbits hpj hlj (fun st => by rw [hi]; rfl) (fun st hst hm => ?_) (by rw [hi]; exact evV_restr (.inr ⟨_, _, _, _, _, _, rfl⟩)) (by rw [hi]; exact h)
 rw [hi]
 have : st.ev y = .c (.sl b o n s) := by
  rw [← hy]
  cases y with
  | t q => exact hst q (by rw [hi]; simp [Ins.sl, Od.sl])
  | _ => rfl
 simp only [stepE, this, AS.row, AS.read, AS.blk, hm, Tr.get_nil]
end
def FG (call : Call') (B : Base) (an : List Nat) (j : Nat) (l : List CE.D) (fs : Sf) (T : Mem) (tag last : Nat) (pj lj : List Nat) (Q : Sf → Prop) : Prop := FD call B an j l ⟨fs, T, tag, last, pj, lj⟩ Q
section
variable {call : Call'} {B : Base} {an : List Nat} {j : Nat} {l : List CE.D} {fs : Sf} {T : Mem} {tag last : Nat} {pj lj : List Nat} {Q : Sf → Prop}
theorem fg_nil (h : Q fs) : FG call B an j [] fs T tag last pj lj Q := fd_nil (D := ⟨fs, T, tag, last, pj, lj⟩) h
theorem fx_drw {k : Nat} {ds : List CE.D} {Q : Exit → Sf → Prop} (h : FG call B an 0 ds fs (tz fs.z fs.H) 0 0 [] [] (Q .normal)) : FX call k B (.draw ds an) fs Q := fx_draw h
theorem fx_drwS {k : Nat} {ds : List CE.D} {c : XC} {Q : Exit → Sf → Prop} (h : FG call B an 0 ds fs (tz fs.z fs.H) 0 0 [] [] (fun fs' => FX call k B c fs' Q)) : FX call k B (.seq (.draw ds an) c) fs Q := fx_drawS h
theorem fg_pure {i : I} {d : Nat} {af : List Nat} (hd : i.d = some d) (hp : pureO i.o = true) (hg : GK fs i) (h : FL call B [⟨some d, none, i.o⟩] fs fun fs' => FG call B an (j + 1) l fs' T tag last pj lj Q) : FG call B an j (⟨i, af⟩ :: l) fs T tag last pj lj Q := fd_pure (D := ⟨fs, T, tag, last, pj, lj⟩) hd hp hg h
theorem fg_off {i : I} {d s : Nat} {want : Bool} {af : List Nat} (hd : i.d = some d) (hg : i.g = some (s, want)) (hs : fs.e s = .c (.v (.bool (!want))) ∨ fs.e s = .tup []) (hw : FG call B an (j + 1) l (fs.put d (.tup [])) T tag last pj lj Q) : FG call B an j (⟨i, af⟩ :: l) fs T tag last pj lj Q := fd_off (D := ⟨fs, T, tag, last, pj, lj⟩) hd hg hs hw
theorem fg_load {i : I} {d : Nat} {agg : Bool} {size : Nat} {x : Od} {b o : Nat} {k : Blk} {full : List C} {v : AV} {af : List Nat} (hi : i.o = .load agg size x) (hd : i.d = some d) (hg : GK fs i) (hx : fs.ev x = .c (.ptr b o)) (hT : T b k) (hk : k.cs = some full) (hl : o + size ≤ full.length) (hv : mkAV agg ((full.drop o).take size) = v)
  (hs : sameA v v = true) (hw : FG call B an (j + 1) l (fs.put d v) T tag last pj (j :: lj) Q) : FG call B an j (⟨i, af⟩ :: l) fs T tag last pj lj Q := fd_load (D := ⟨fs, T, tag, last, pj, lj⟩) hi hd hg hx hT hk hl hv hs hw
theorem fg_ldA {i : I} {d : Nat} {agg : Bool} {size : Nat} {x : Od} {b q p off : Nat} {cs : List C} {v : AV} {af : List Nat} {z : Mem} (hi : i.o = .load agg size x) (hd : i.d = some d) (hg : GK fs i) (hx : fs.ev x = .c (.ptr b q)) (ha : At z b p cs) (hz : ∀ b k, z b k → T b k) (hq : q = p + off) (hl : off + size ≤ cs.length) (hv : mkAV agg ((cs.drop off).take size) = v)
  (hs : sameA v v = true) (hw : FG call B an (j + 1) l (fs.put d v) T tag last pj (j :: lj) Q) : FG call B an j (⟨i, af⟩ :: l) fs T tag last pj lj Q := fd_ldA (D := ⟨fs, T, tag, last, pj, lj⟩) hi hd hg hx ha hz hq hl hv hs hw
theorem fg_call {i : I} {d f : Nat} {args : List Od} {vs : List AV} {af : List Nat} {Post : AV → Mem → Prop} (hi : i.o = .call f args) (hd : i.d = some d) (hg : GK fs i) (hbits : Nat.beq (an.getD j 0 ||| last) (an.getD j 0) = true) (hpj : (pj.all fun q => (an.getD j 0).testBit q) = true)
  (ha : args.map fs.ev = vs) (hc : FC call f vs fs.z Post) (hw : ∀ v z', zle fs.z z' → Post v z' → FG call B an (j + 1) l (fs.res d v z' fs.H) T (j + 1) (an.getD j 0 ||| (1 <<< j)) [] lj Q) : FG call B an j (⟨i, af⟩ :: l) fs T tag last pj lj Q := fd_call (D := ⟨fs, T, tag, last, pj, lj⟩) hi hd hg hbits hpj ha hc hw
theorem fg_own {i : I} {d : Nat} {af : List Nat} {k : Blk} {w : Nat → AV} (hd : i.d = some d) (hg : GK fs i) (hl : isLoad i.o = false) (hq : ∀ st : AS, stepQ i.o st = none) (he : ∀ st : AS, (∀ q, q ∈ i.o.sl → st.get q = fs.e q) → stepE i.o st = some (st.new k, w st.nx))
  (hw : ∀ b, (∀ k, ¬ T b k) → FG call B an (j + 1) l (fs.own d (w b) (.blk b k)) T tag last (j :: pj) lj Q) : FG call B an j (⟨i, af⟩ :: l) fs T tag last pj lj Q := fd_own (D := ⟨fs, T, tag, last, pj, lj⟩) hd hg hl hq he hw
theorem fg_splitB (s : Nat) {t : Bool} (h : fs.e s = .c (.v (.bool t))) (h1 : t = true → FG call B an j l (fs.put s (.c (.v (.bool true)))) T tag last pj lj Q) (h2 : t = false → FG call B an j l (fs.put s (.c (.v (.bool false)))) T tag last pj lj Q) : FG call B an j l fs T tag last pj lj Q := fd_splitB (D := ⟨fs, T, tag, last, pj, lj⟩) s h h1 h2
theorem fg_store {i : I} {s : Nat} {x y : Od} {b o : Nat} {af : List Nat} (hi : i.o = .store s x y) (hg : GK fs i) (hbits : Nat.beq (an.getD j 0 ||| last) (an.getD j 0) = true) (hpj : (pj.all fun q => (an.getD j 0).testBit q) = true) (hlj : (lj.all fun q => (an.getD j 0).testBit q) = true) (hx : fs.ev x = .c (.ptr b o))
  (h : FL call B [⟨i.d, none, .store s x y⟩] fs fun fs' => FG call B an (j + 1) l fs' (fun _ _ => False) (j + 1) (an.getD j 0 ||| (1 <<< j)) [] [] Q) : FG call B an j (⟨i, af⟩ :: l) fs T tag last pj lj Q := fd_store (D := ⟨fs, T, tag, last, pj, lj⟩) hi hg hbits hpj hlj hx h
theorem fg_storeT {i : I} {s : Nat} {x y : Od} {b o : Nat} {af : List Nat} (hi : i.o = .store s x y) (hg : GK fs i) (hbits : Nat.beq (an.getD j 0 ||| last) (an.getD j 0) = true) (hpj : (pj.all fun q => (an.getD j 0).testBit q) = true) (hx : fs.ev x = .c (.ptr b o)) (hT : ∀ k, ¬ T b k)
  (h : FL call B [⟨i.d, none, .store s x y⟩] fs fun fs' => FG call B an (j + 1) l fs' T (j + 1) (an.getD j 0 ||| (1 <<< j)) [] lj Q) : FG call B an j (⟨i, af⟩ :: l) fs T tag last pj lj Q := fd_storeT (D := ⟨fs, T, tag, last, pj, lj⟩) hi hg hbits hpj hx hT h
theorem fg_app {i : I} {ty s bytes : Nat} {zr : List Value} {x y : Od} {b o n : Nat} {af : List Nat} (hi : i.o = .app ty s bytes zr x y) (hg : GK fs i) (hbits : Nat.beq (an.getD j 0 ||| last) (an.getD j 0) = true) (hpj : (pj.all fun q => (an.getD j 0).testBit q) = true) (hlj : (lj.all fun q => (an.getD j 0).testBit q) = true) (hy : fs.ev y = .c (.sl b o n s))
  (h : FL call B [⟨i.d, none, .app ty s bytes zr x y⟩] fs fun fs' => FG call B an (j + 1) l fs' (fun _ _ => False) (j + 1) (an.getD j 0 ||| (1 <<< j)) [] [] Q) : FG call B an j (⟨i, af⟩ :: l) fs T tag last pj lj Q := fd_app (D := ⟨fs, T, tag, last, pj, lj⟩) hi hg hbits hpj hlj hy h
end
section
variable {call : Call'} {B : Base} {fs : Sf} {l : List I} {Q : Sf → Prop}
def JQ (fs : Sf) (ls : Bool → List (Nat × AV)) (P : Prop) (fs' : Sf) : Prop := ∃ r : Bool, fs'.H = fs.H ∧ zle fs.z fs'.z ∧ AtL fs'.e (ls r) ∧ (r = true ↔ P)
theorem fl_join (n s : Nat) (ls : Bool → List (Nat × AV)) (P : Prop) {t : Bool} (hs : fs.e s = .c (.v (.bool t))) (h1 : t = true → FL call B (l.take n) (fs.put s (.c (.v (.bool true)))) (JQ fs ls P)) (h0 : t = false → FL call B (l.take n) (fs.put s (.c (.v (.bool false)))) (JQ fs ls P))
  (hw : ∀ e z' r, zle fs.z z' → (r = true ↔ P) → FL call B (l.drop n) ⟨eputs e (ls r), z', fs.H⟩ Q) : FL call B l fs Q := by
 rw [← List.take_append_drop n l]
 refine fl_cut (J := JQ fs ls P) (fl_splitB s hs h1 h0) fun fs' ⟨r, g1, g2, g3, g4⟩ => ?_
 have := hw fs'.e fs'.z r g2 g4
 rw [g3.eq, ← g1] at this
 exact this
theorem fl_done {fs0 : Sf} {ls : Bool → List (Nat × AV)} {P : Prop} (r : Bool) (hH : fs.H = fs0.H) (hz : zle fs0.z fs.z) (ha : AtL fs.e (ls r)) (hr : r = true ↔ P) : FL call B [] fs (JQ fs0 ls P) := fl_nil ⟨r, hH, hz, ha, hr⟩
end
theorem join_t {r s : Bool} {P Q : Prop} (hs : s = true ↔ P) (h : s = true) (hr : r = true ↔ Q) : r = true ↔ P ∧ Q := by
 have := hs.1 h
 rw [hr]; exact ⟨fun q => ⟨this, q⟩, fun q => q.2⟩
theorem join_f {s : Bool} {P Q : Prop} (hs : s = true ↔ P) (h : s = false) : false = true ↔ P ∧ Q := by
 constructor
 ·intro h; cases h
 ·intro q; rw [hs.2 q.1] at h; cases h
theorem join_ot {s : Bool} {P Q : Prop} (hs : s = true ↔ P) (h : s = true) : true = true ↔ P ∨ Q := ⟨fun _ => .inl (hs.1 h), fun _ => rfl⟩
theorem join_of {r s : Bool} {P Q : Prop} (hs : s = true ↔ P) (h : s = false) (hr : r = true ↔ Q) : r = true ↔ P ∨ Q := by
 constructor
 ·intro g; exact .inr (hr.1 g)
 ·intro q
  rcases q with q | q
  ·rw [hs.2 q] at h; cases h
  ·exact hr.2 q
theorem dec_iff {P : Prop} [Decidable P] : decide P = true ↔ P := decide_eq_true_iff
theorem dec_not {P : Prop} [Decidable P] : (!decide P) = true ↔ ¬ P := by simp
theorem not_iffB {r : Bool} {P : Prop} (h : r = true ↔ P) : (!r) = true ↔ ¬ P := by
 rw [← h]; cases r <;> simp
theorem bn_iff {r : Bool} {P : Prop} (h : r = true ↔ P) (hr : r = false) : ¬ P := fun p => by rw [h.2 p] at hr; cases hr
open Go.RowKit
open Go.Eng (Od need need_pos need_some setL binV binBV setL_length setL_get)
def zd (z0 z : Mem) : Mem := fun b k => z b k ∧ (∀ k', ¬ z0 b k') ∧ k.isRo = false
theorem zd_le {z0 z : Mem} : zle (zd z0 z) z := fun _ _ h => h.1
theorem zd_mono {z0 z z' : Mem} (h : zle z z') : zle (zd z0 z) (zd z0 z') := fun b k g => ⟨h b k g.1, g.2⟩
theorem zd_anti {z0 z1 z : Mem} (h : zle z0 z1) : zle (zd z1 z) (zd z0 z) := fun b k g => ⟨g.1, fun k' h' => g.2.1 k' (h b k' h'), g.2.2⟩
section
variable {call : Call'} {B : Base} {fs : Sf} {l : List I} {Q : Sf → Prop} {d : Nat}
theorem fx_frzN {α : Type} {size : Nat} {R : RT α} [RMono R] {k : Nat} {c : XC} {Q : Exit → Sf → Prop} {u : AV} {ty n : Nat} {cs : List C} {r : List α} {p q : List HA} {z0 : Mem} (e : fs.H = p ++ .row u ty size n cs :: q) (hz0 : zle z0 fs.z) (hc : CL size R (zd z0 fs.z) cs r) (hn : r.length = n) (hm : n ≤ 9223372036854775807)
    (hw : ∀ z', zle fs.z z' → SZ size R (zd z0 z') u r → FX call k B c (fs.frz z' (p ++ q)) Q) : FX call k B c fs Q := fun st rf => by
  obtain ⟨g1, g2⟩ := rf.hold.h (.row u ty size n cs) (by rw [e]; simp)
  rcases g2 with ⟨h0, rfl⟩ | ⟨b, rfl, h3⟩
  · have hr0 : r = [] := List.eq_nil_of_length_eq_zero (by omega)
    subst hr0
    refine hw fs.z (zle.refl _) .nil st ?_
    have hsub : (p ++ q).Sublist fs.H := by rw [e]; exact (List.Sublist.refl p).append (List.sublist_cons_self _ _)
    exact ⟨rf.env, rf.hold.sub hsub, rf.le, rf.old, fun b hb => rf.own b ((fps_sub hsub).subset hb), rf.zle, rf.zin⟩
  · have h1 := rf.frz (p := p) (q := q) (b := b) (k := .cells ty cs) (a := .row (.c (.sl b 0 n size)) ty size n cs) e rfl (fun m hm => by
      obtain ⟨_, hm⟩ := hm
      rcases hm with ⟨_, hm⟩ | ⟨b', hb', hm⟩
      · cases hm
      · injection hb' with hb'; injection hb' with hb'; subst hb'; exact hm)
    have hnb : ∀ k', ¬ z0 b k' := fun k' hb => (rf.hold.z b k' (hz0 b k' hb)).2.2 (by rw [e, fps_app, fps_cons]; simp [HA.fp])
    exact hw _ (fun _ _ h => .inl h) ((hc.mono (zd_mono fun _ _ h => .inl h)).sz hn hm ⟨.inr ⟨rfl, rfl⟩, hnb, rfl⟩) st h1
theorem fl_cmpn {k : NK} {ne : Bool} {x y : Od} {u v : AV} {a b r : Bool} (hx : fs.ev x = u) (hy : fs.ev y = v) (ha : isNil k u = some a) (hb : isNil k v = some b) (hab : (a || b) = true) (hr : ((a && b) != ne) = r) (hw : FL call B l (fs.put d (.c (.v (.bool r)))) Q) : FL call B (⟨some d, none, .cmpn k ne x y⟩ :: l) fs Q :=
  fl_q (fun _ => rfl) (fun st rf => by
    simp only [stepQ, rf.ev, hx, hy, ha, hb, hab, hr]; rfl) hw
theorem Rf.asblk {st : AS} (h : Rf B fs st) {u : AV} {b ty n size : Nat} {cs : List C} {p q : List HA} (e : fs.H = p ++ .row u ty size n cs :: q) (hu : u = .c (.sl b 0 n size)) (hb0 : st.mem.get b = some (.cells ty cs)) : Rf B (fs.heap (p ++ .blk b (.cells ty cs) :: q)) st := by
 subst hu
 have e2 : fps (p ++ .blk b (.cells ty cs) :: q) = fps fs.H := by rw [e, fps_app, fps_app, fps_cons, fps_cons]; rfl
 refine ⟨h.env, ⟨fun x k hb => ?_, fun a ha => ?_, fun x hb => ?_, ?_⟩, h.le, h.old, fun x hb => ?_, h.zle, h.zin⟩
 ·show _ ∧ _ ∧ x ∉ fps (p ++ .blk b (.cells ty cs) :: q)
  rw [e2]; exact h.hold.z x k hb
 ·have ha : a ∈ p ++ .blk b (.cells ty cs) :: q := ha
  rcases List.mem_append.1 ha with ha | ha
  ·exact h.hold.h a (by rw [e]; simp [ha])
  ·rcases List.mem_cons.1 ha with rfl | ha
   ·exact hb0
   ·exact h.hold.h a (by rw [e]; simp [ha])
 ·have hb : x ∈ fps (p ++ .blk b (.cells ty cs) :: q) := hb
  rw [e2] at hb; exact h.hold.lt x hb
 ·show (fps (p ++ .blk b (.cells ty cs) :: q)).Nodup
  rw [e2]; exact h.hold.nd
 ·have hb : x ∈ fps (p ++ .blk b (.cells ty cs) :: q) := hb
  rw [e2] at hb; exact h.own x hb
theorem fl_rowC {u : AV} {ty n size : Nat} {cs : List C} {p q : List HA} (e : fs.H = p ++ .row u ty size n cs :: q) (hn : 0 < n) (h1 : ∀ b, u = .c (.sl b 0 n size) → FL call B l (fs.heap (p ++ .blk b (.cells ty cs) :: q)) Q) : FL call B l fs Q := fun st r => by
 obtain ⟨g1, g2⟩ := r.hold.h (.row u ty size n cs) (by rw [e]; simp)
 rcases g2 with ⟨h0, _⟩ | ⟨b, hu, h3⟩
 ·omega
 ·exact h1 b hu st (r.asblk e hu h3)
theorem fl_lenR {x : Od} {u : AV} {ty n size : Nat} {cs : List C} (hx : fs.ev x = u) (hm : HA.row u ty size n cs ∈ fs.H) (hw : FL call B l (fs.put d (.c (.v (.int .i64 n)))) Q) : FL call B (⟨some d, none, .len false x⟩ :: l) fs Q := fun st r => by
 obtain ⟨g1, g2⟩ := r.hold.h _ hm
 have hl : lenOf u = some n := by
  rcases g2 with ⟨h0, rfl⟩ | ⟨b, rfl, h3⟩
  ·rw [h0]; rfl
  ·rfl
 exact fl_len hx hl hw st r
theorem setL_at {α : Type} (l : List α) (j : Nat) (x : List α) (h : j + x.length ≤ l.length) (i : Nat) : (setL l j x)[i]? = if j ≤ i ∧ i < j + x.length then x[i - j]? else l[i]? := by
 rw [setL_get l j x h]
 by_cases h1 : i < j
 ·rw [if_pos h1, if_neg (by omega)]
 ·rw [if_neg h1]
  by_cases h2 : i < j + x.length
  ·rw [if_pos h2, if_pos (by omega)]
  ·rw [if_neg h2, if_neg (by omega)]
theorem win_drop {cs ws : List C} {o off n : Nat} (hw : o + ws.length ≤ cs.length) (hl : off + n ≤ ws.length) : ((setL cs o ws).drop (o + off)).take n = (ws.drop off).take n := by
 apply List.ext_getElem?
 intro i
 rw [List.getElem?_take, List.getElem?_take]
 split
 ·rename_i hi
  rw [List.getElem?_drop, List.getElem?_drop, setL_at _ _ _ hw, if_pos (by omega), show o + off + i - o = off + i by omega]
 ·rfl
theorem win_set {cs ws ds : List C} {o off : Nat} (hw : o + ws.length ≤ cs.length) (hl : off + ds.length ≤ ws.length) : setL (setL cs o ws) (o + off) ds = setL cs o (setL ws off ds) := by
  have h1 := setL_length cs o ws hw
  have h2 := setL_length ws off ds hl
  apply List.ext_getElem?
  intro i
  rw [setL_at _ _ _ (by omega), setL_at _ _ _ hw, setL_at _ _ _ (by rw [h2]; exact hw), h2]
  by_cases g1 : o + off ≤ i ∧ i < o + off + ds.length
  · rw [if_pos g1, if_pos (by omega), setL_at _ _ _ hl, if_pos (by omega)]
    congr 1; omega
  · rw [if_neg g1]
    by_cases g2 : o ≤ i ∧ i < o + ws.length
    · rw [if_pos g2, if_pos g2, setL_at _ _ _ hl, if_neg (by omega)]
    · rw [if_neg g2, if_neg g2]
theorem win_self {cs : List C} {o n : Nat} (h : o + n ≤ cs.length) : setL cs o ((cs.drop o).take n) = cs := by
 have hl : ((cs.drop o).take n).length = n := by rw [List.length_take, List.length_drop]; omega
 apply List.ext_getElem?
 intro i
 rw [setL_at _ _ _ (by omega), hl]
 split
 ·rename_i g
  rw [List.getElem?_take, if_pos (by omega), List.getElem?_drop]
  congr 1; omega
 ·rfl
theorem fl_ldW {agg : Bool} {size : Nat} {x : Od} {b o off ty : Nat} {cs ws : List C} {v : AV} (hx : fs.ev x = .c (.ptr b (o + off))) (hm : HA.blk b (.cells ty (setL cs o ws)) ∈ fs.H) (hw : o + ws.length ≤ cs.length) (hl : off + size ≤ ws.length) (hv : mkAV agg ((ws.drop off).take size) = v) (hk : FL call B l (fs.put d v) Q) : FL call B (⟨some d, none, .load agg size x⟩ :: l) fs Q :=
 fl_ld hx hm (by rw [setL_length _ _ _ hw]; omega) (by rw [win_drop hw hl]; exact hv) hk
theorem fl_stW {size : Nat} {x y : Od} {b o off ty : Nat} {cs ws ds ws' : List C} {v : AV} {H' : List HA} (hx : fs.ev x = .c (.ptr b (o + off))) (hy : fs.ev y = v) (hv : v.cells? = some ds) (hr : Rep1 fs.H (.blk b (.cells ty (setL cs o ws))) (.blk b (.cells ty (setL cs o ws'))) H') (hw : o + ws.length ≤ cs.length) (he : setL ws off ds = ws') (hs : ds.length = size) (h : off + size ≤ ws.length)
  (hk : FL call B l (fs.heap H') Q) : FL call B (⟨none, none, .store size x y⟩ :: l) fs Q := by
 subst he hs
 exact fl_stE hx hy hv hr (win_set hw h) rfl (by rw [setL_length _ _ _ hw]; omega) hk
end
theorem fg_ldW {call : Call'} {B : Base} {an : List Nat} {j : Nat} {l : List D} {fs : Sf} {T : Mem} {tag last : Nat} {pj lj : List Nat} {Q : Sf → Prop} {i : I} {d : Nat} {agg : Bool} {size : Nat} {x : Od} {b o off ty : Nat} {cs ws : List C} {v : AV} {af : List Nat} (hi : i.o = .load agg size x) (hd : i.d = some d) (hg : GK fs i) (hx : fs.ev x = .c (.ptr b (o + off))) (hT : T b (.cells ty (setL cs o ws)))
  (hw : o + ws.length ≤ cs.length) (hl : off + size ≤ ws.length) (hv : mkAV agg ((ws.drop off).take size) = v) (hs : sameA v v = true) (hk : FG call B an (j + 1) l (fs.put d v) T tag last pj (j :: lj) Q) : FG call B an j (⟨i, af⟩ :: l) fs T tag last pj lj Q :=
 fg_load hi hd hg hx hT rfl (by rw [setL_length _ _ _ hw]; omega) (by rw [win_drop hw hl]; exact hv) hs hk
theorem ret_h {fs : Sf} {ts : List RR} {vs : List AV} {x : Exit} {Post : AV → Mem → List HA → Prop} {H' : List HA} (hx : x = .ret ∨ x = .normal) (h : ResL fs ts vs) (hs : H'.Sublist fs.H) (hp : Post (packR vs) fs.z H') : RetQ ts Post x fs := ⟨hx, vs, H', h, hs, hp⟩
def cloneX (ty size bytes : Nat) (zero : List Value) : XC := .seq (.region [⟨some 2, none, .mv (.k (.slice none 0 0))⟩])
  (.seq (.seq (.region [⟨some 3, none, .mv (.t 0)⟩, ⟨some 4, none, .cmpn .sl false (.t 3) (.k (.slice none 0 0))⟩]) (.cond (.t 4) (.seq (.region [⟨some 2, none, .mv (.k (.slice none 0 0))⟩]) .ret) .skip))
  (.seq (.region [⟨some 5, none, .bslice ty size 0 zero []⟩, ⟨some 6, none, .mv (.t 0)⟩, ⟨some 7, none, .app ty size bytes zero (.t 5) (.t 6)⟩, ⟨some 2, none, .mv (.t 7)⟩]) .ret))
def ClonePost {α : Type} (ty size : Nat) (R : RT α) (z : Mem) (l : List α) (v : AV) (z' : Mem) (H' : List HA) : Prop := ∃ cs, H' = [.row v ty size l.length cs] ∧ CL size R z' cs l ∧ z' = z ∧ ∃ c, v = .c c ∧ sameC c c = true
theorem clone_fc {T : Tr FE} {hand : Call'} {k0 k f ty size bytes : Nat} {zero : List Value} {α : Type} {R : RT α} [RMono R] {z : Mem} {v : AV} {l : List α} (hT : T.get f = some ⟨8, cloneX ty size bytes zero, [.t 2]⟩) (hk : 1 ≤ k) (hv : SZ size R z v l) (hb : l.length * bytes ≤ 140737488355328) :
    FCt (evF T hand k0 k) f [v] z [] (ClonePost ty size R z l) := by
  refine fct_of hT hk (by show 1 ≤ 8; omega) fun B j hj => ?_
  have hle := hv.le
  refine fx_sr (fl_mv rfl (fl_nil ?_))
  refine fx_ss (fx_sr (fl_mv rfl ?_))
  have key : isNil .sl v = some false → FL (evF T hand k0 j) B [⟨some 4, none, .cmpn .sl false (.t 3) (.k (.slice none 0 0))⟩] (((⟨argE [v], z, []⟩ : Sf).put 2 nilv).put 3 v) fun fs' => FX (evF T hand k0 j) k0 B (.seq (.cond (.t 4) (.seq (.region [⟨some 2, none, .mv (.k (.slice none 0 0))⟩]) .ret) .skip)
      (.seq (.region [⟨some 5, none, .bslice ty size 0 zero []⟩, ⟨some 6, none, .mv (.t 0)⟩, ⟨some 7, none, .app ty size bytes zero (.t 5) (.t 6)⟩, ⟨some 2, none, .mv (.t 7)⟩]) .ret)) fs' (RetQ [.t 2] (ClonePost ty size R z l)) := fun hn => by
    refine fl_cmpn (a := false) (b := true) rfl rfl hn rfl rfl rfl (fl_nil ?_)
    refine fx_cseq (fx_condF rfl (fx_kseq (fx_sr ?_)))
    refine fl_bslice rfl fun b => ?_
    refine fl_mv rfl ?_
    refine fl_asrow (p := []) (n := 0) (cs := repl 0 (zero.map fun v => .v v)) (size := size) (b := b) (ty := ty) (q := []) rfl (by simp [repl]) ?_
    refine fl_appS rfl rfl hv (fun _ _ => rep0) (by rw [Nat.zero_add]; exact hb) (by omega) fun c' hc' news hnews => ?_
    refine fl_mv rfl (fl_nil (fx_ret ?_))
    refine ret_h (.inl rfl) (rt rfl rn) (List.Sublist.refl _) ⟨news, ?_, hnews, rfl, c', rfl, hc'⟩
    simp only [List.nil_append, Nat.zero_add, repl]
    rfl
  cases hv with
  | nil =>
    refine fl_cmpn (a := true) (b := true) rfl rfl rfl rfl rfl rfl (fl_nil ?_)
    refine fx_cseq (fx_condT rfl (fx_ss (fx_sr (fl_mv rfl (fl_row0 ty size (fl_nil (fx_rseq ?_)))))))
    exact ret_h (.inl rfl) (rt rfl rn) (List.Sublist.refl _) ⟨[], rfl, CL.nil, rfl, _, rfl, rfl⟩
  | em => exact key rfl
  | sl b o n k full l hl hm hz hk hf hh => exact key rfl
theorem FCt.clone {call : Call'} {f ty size : Nat} {α : Type} {R : RT α} {z : Mem} {v : AV} {l : List α} (h : FCt call f [v] z [] (ClonePost ty size R z l)) (hR : ∀ {z1 z2 : Mem} {cs : List C} {a : α}, R z1 cs a → R z2 cs a) (hm : l.length ≤ 9223372036854775807) : FC call f [v] z fun v' z' => SZ size R (zd z z') v' l := fun mem nx hh => by
  obtain ⟨w, mem', nx', z', H', h1, h2, h3, h4, h5, h6, h7, cs, e1, hcl, e2, c, e3, hc⟩ := h mem nx hh
  subst e1 e2 e3
  obtain ⟨g1, g2⟩ := h4.h _ (List.mem_singleton.2 rfl)
  rcases g2 with ⟨h0, hw⟩ | ⟨b, hw, h8⟩
  · have e : l = [] := List.eq_nil_of_length_eq_zero (by omega)
    subst e
    injection hw with hw
    subst hw
    exact ⟨_, mem', nx', z', [], h1, h2, h3, h4.sub (List.nil_sublist _), h5, h6, fun b hb => by simp [fps] at hb, rfl, .nil⟩
  · injection hw with hw
    subst hw
    have hfb : b ∈ fps [HA.row (.c (.sl b 0 l.length size)) ty size l.length cs] := by simp [fps, HA.fp]
    refine ⟨_, mem', nx', fun x y => z' x y ∨ (x = b ∧ y = .cells ty cs), [], h1, h2, h3, ⟨fun x k hx => ?_, fun a ha => by simp at ha, fun x hx => by simp [fps] at hx, by simp [fps]⟩, fun _ _ hx => .inl hx, fun x k hx => ?_, fun x hx => by simp [fps] at hx, rfl, ?_⟩
    · rcases hx with hx | ⟨rfl, rfl⟩
      · obtain ⟨k1, k2, _⟩ := h4.z x k hx
        exact ⟨k1, k2, by simp [fps]⟩
      · exact ⟨h8, h4.lt _ hfb, by simp [fps]⟩
    · rcases hx with hx | ⟨rfl, rfl⟩
      · exact .inl hx
      · rcases h7 _ hfb with k | k
        · exact .inr (.inl k)
        · simp [fps] at k
    · refine CL.sz (ty := ty) (cs := cs) ⟨hcl.1, fun i a hi => ⟨(hcl.2 i a hi).1, hR (hcl.2 i a hi).2⟩⟩ rfl hm ⟨.inr ⟨rfl, rfl⟩, fun k' hb => (h4.z b k' hb).2.2 hfb, rfl⟩
def copiedX (clone size : Nat) : XC := .seq (.region [⟨some 4, none, .mv (.k (.slice none 0 0))⟩])
  (.seq (.region [⟨some 6, none, .mv (.t 0)⟩, ⟨some 7, none, .call clone [(.t 6)]⟩, ⟨some 0, none, .mv (.t 7)⟩])
  (.seq (.seq (.region [⟨some 8, none, .mv (.t 0)⟩, ⟨some 9, none, .len false (.t 8)⟩, ⟨some 10, none, .mv (.k (.int .i64 0))⟩])
  (.block 0 (.loop (.seq (.region [⟨some 11, none, .bin .lss (.t 10) (.t 9)⟩])
  (.seq (.cond (.t 11) .skip (.exit 0))
  (.seq (.block 1 (.seq (.region [⟨some 12, none, .mv (.t 10)⟩, ⟨some 5, none, .mv (.t 12)⟩])
  (.region [⟨some 13, none, .mv (.t 1)⟩, ⟨some 14, none, .mv (.t 0)⟩, ⟨some 15, none, .mv (.t 5)⟩, ⟨some 16, none, .iad size (.t 14) (.t 15)⟩, ⟨some 17, none, .callv (.t 13) [(.t 16)]⟩])))
  (.region [⟨some 18, none, .bin .add (.t 10) (.k (.int .i64 1))⟩, ⟨some 10, none, .mv (.t 18)⟩])))))))
  (.seq (.region [⟨some 19, none, .mv (.t 0)⟩, ⟨some 4, none, .mv (.t 19)⟩]) .ret)))
def ElemPost {α : Type} (R : RT α) (b ty o : Nat) (cs ws : List C) (a : α) (z : Mem) (_ : AV) (z' : Mem) (H' : List HA) : Prop := ∃ ws', H' = [.blk b (.cells ty (setL cs o ws'))] ∧ ws'.length = ws.length ∧ R (zd z z') ws' a
def CLp {α : Type} (size : Nat) (R : RT α) (z0 zz : Mem) (i : Nat) (cs : List C) (l : List α) : Prop := cs.length = l.length * size ∧ ∀ (j : Nat) (a : α), l[j]? = some a → ((cs.drop (j * size)).take size).length = size ∧ (j < i → R (zd z0 zz) ((cs.drop (j * size)).take size) a) ∧ (i ≤ j → R z0 ((cs.drop (j * size)).take size) a)
theorem seg_le {j n size : Nat} (h : j < n) : j * size + size ≤ n * size := by
 have : (j + 1) * size ≤ n * size := Nat.mul_le_mul_right _ h
 rw [Nat.add_mul, Nat.one_mul] at this
 exact this
theorem CLp.start {α : Type} {size : Nat} {R : RT α} {z : Mem} {cs : List C} {l : List α} (h : CL size R z cs l) : CLp size R z z 0 cs l := ⟨h.1, fun j a hj => ⟨(h.2 j a hj).1, fun hh => absurd hh (Nat.not_lt_zero _), fun _ => (h.2 j a hj).2⟩⟩
theorem CLp.done {α : Type} {size : Nat} {R : RT α} {z0 zz : Mem} {i : Nat} {cs : List C} {l : List α} (h : CLp size R z0 zz i cs l) (hi : l.length ≤ i) : CL size R (zd z0 zz) cs l := ⟨h.1, fun j a hj => ⟨(h.2 j a hj).1, (h.2 j a hj).2.1 (by have := (List.getElem?_eq_some_iff.1 hj).1; omega)⟩⟩
theorem CLp.step {α : Type} {size : Nat} {R : RT α} [RMono R] {z0 zz z' : Mem} {i : Nat} {cs ws' : List C} {l : List α} {a : α} (h : CLp size R z0 zz i cs l) (hz0 : zle z0 zz) (hz : zle zz z') (ha : l[i]? = some a) (hl : ws'.length = size) (hR : R (zd zz z') ws' a) : CLp size R z0 z' (i + 1) (setL cs (i * size) ws') l := by
 have hi := (List.getElem?_eq_some_iff.1 ha).1
 have hs := seg_le (size := size) hi
 have hcs := h.1
 have hsl : (setL cs (i * size) ws').length = cs.length := setL_length _ _ _ (by omega)
 refine ⟨by rw [hsl, hcs], fun j b hj => ?_⟩
 have hjl := (List.getElem?_eq_some_iff.1 hj).1
 have hsj := seg_le (size := size) hjl
 have hlen : (((setL cs (i * size) ws').drop (j * size)).take size).length = size := by rw [List.length_take, List.length_drop, hsl, hcs]; omega
 by_cases e : j = i
 ·subst e
  rw [ha] at hj; injection hj with hj; subst hj
  have e1 := win_drop (cs := cs) (ws := ws') (o := j * size) (off := 0) (n := size) (by omega) (by omega)
  rw [Nat.add_zero, List.drop_zero] at e1
  have e1 := e1.trans (List.take_of_length_le (by omega))
  refine ⟨hlen, fun _ => ?_, fun hh => by omega⟩
  rw [e1]
  exact RMono.mono (zd_anti hz0) hR
 ·have e1 : ((setL cs (i * size) ws').drop (j * size)).take size = (cs.drop (j * size)).take size := by
   apply List.ext_getElem?
   intro q
   rw [List.getElem?_take, List.getElem?_take]
   split
   ·rename_i hq
    rw [List.getElem?_drop, List.getElem?_drop, setL_at _ _ _ (by omega), if_neg]
    intro g
    rcases Nat.lt_or_gt_of_ne e with g1 | g1
    ·have := seg_le (size := size) g1; omega
    ·have := seg_le (size := size) g1; omega
   ·rfl
  rw [e1]
  have := h.2 j b hj
  exact ⟨this.1, fun hh => RMono.mono (zd_mono hz) (this.2.1 (by omega)), fun hh => this.2.2 (by omega)⟩
theorem copied_fc {T : Tr FE} {hand : Call'} {k0 k f g clone ty size bytes : Nat} {zero : List Value} {α : Type} {R : RT α} [RMono R] {z : Mem} {v : AV} {l : List α} (hT : T.get f = some ⟨20, copiedX clone size, [.t 4]⟩) (hC : T.get clone = some ⟨8, cloneX ty size bytes zero, [.t 2]⟩) (hk : 2 ≤ k) (hk0 : 9223372036854775807 < k0) (hv : SZ size R z v l) (hb : l.length * bytes ≤ 140737488355328) (hbl : l.length ≤ 1000000)
    (hg : ∀ (j : Nat) (z' : Mem) (b o : Nat) (cs ws : List C) (a : α), k = j + 1 → zle z z' → a ∈ l → R z ws a → o + ws.length ≤ cs.length → FCt (evF T hand k0 j) g [.c (.ptr b o)] z' [.blk b (.cells ty (setL cs o ws))] (ElemPost R b ty o cs ws a z')) :
    FC (evF T hand k0 k) f [v, .c (.fn g [] [])] z fun v' z' => SZ size R (zd z z') v' l := by
  have hle := hv.le
  refine fc_of hT (by omega) (by show 2 ≤ 20; omega) fun B j hj => ?_
  refine fx_sr (fl_mv rfl (fl_nil ?_))
  refine fx_sr (fl_mv rfl ?_)
  refine fl_callL (Hs := []) (Hr := []) rfl rfl (clone_fc hC (by omega) hv hb) fun w z1 H1 hz1 ⟨cs, e1, hcs, e2, c0, e3, hc0⟩ => ?_
  subst e1 e2 e3
  refine fl_mv rfl (fl_nil ?_)
  refine fx_ss (fx_sr (fl_mv rfl ?_))
  refine fl_lenR (u := .c c0) (ty := ty) (size := size) (n := l.length) (cs := cs) rfl (List.mem_cons_self ..) (fl_mv rfl (fl_nil ?_))
  refine fx_seq (fx_block ?_)
  refine fx_loop (fun n fs => ∃ (i : Nat) (cs : List C) (e : Env) (zz : Mem) (Hx : List HA), fs = ⟨e, zz, Hx ++ [.row (.c c0) ty size l.length cs]⟩ ∧ zle z1 zz ∧ AtL e [(0, .c c0), (1, .c (.fn g [] [])), (9, .c (.v (.int .i64 (l.length : Int)))), (10, .c (.v (.int .i64 (i : Int))))] ∧ n = l.length - i ∧ i ≤ l.length ∧ CLp size R z1 zz i cs l) ?_ _
    ⟨0, cs, _, _, [], rfl, zle.refl _, (atc rfl (atc rfl (atc rfl (atc rfl atn)))), rfl, Nat.zero_le _, CLp.start hcs⟩ (by omega)
  intro n fs hI
  obtain ⟨i, cs, e, zz, Hx, rfl, hzz, hat, rfl, hi, hcl⟩ := hI
  refine fx_at hat fun e => ?_
  refine fx_sub (List.sublist_append_right _ _) ?_
  refine fx_sr (fl_bin rfl rfl (b_lss _ _ _) (fl_nil ?_))
  refine fx_cseq (fx_condD rfl (fun hlt => ?_) (fun hlt => ?_))
  · have hlt : i < l.length := by omega
    refine fx_kseq (fx_seq (fx_block ?_))
    refine fx_sr (fl_mv rfl (fl_mv rfl (fl_nil ?_)))
    refine fx_region (fl_mv rfl (fl_mv rfl (fl_mv rfl ?_)))
    refine fl_rowC (p := []) (q := []) rfl (by omega) fun b hb => ?_
    injection hb with hb
    subst hb
    refine fl_iad (n := l.length) (b := b) (o := 0) rfl rfl i rfl hlt ?_
    obtain ⟨a, ha⟩ : ∃ a, l[i]? = some a := ⟨_, List.getElem?_eq_getElem hlt⟩
    have hseg := seg_le (size := size) hlt
    have hw := hcl.2 i a ha
    have hself := win_self (cs := cs) (o := i * size) (n := size) (by rw [hcl.1]; exact hseg)
    have hcall := hg j zz b (0 + i * size) cs ((cs.drop (i * size)).take size) a hj hzz (List.mem_of_getElem? ha) (hw.2.2 (Nat.le_refl _)) (by rw [hw.1, hcl.1]; omega)
    rw [Nat.zero_add, hself] at hcall
    refine fl_callvL (Hs := [.blk b (.cells ty cs)]) (Hr := []) (us := []) (cs := []) rfl (by rw [Nat.zero_add]; rfl) rfl hcall fun w z2 H2 hz2 ⟨ws', e1, hl', hR'⟩ => ?_
    subst e1
    refine fl_asrow (p := []) (q := []) (n := l.length) (size := size) rfl (by rw [setL_length _ _ _ (by rw [hl', hw.1, hcl.1]; omega), hcl.1]) ?_
    refine fl_nil ?_
    refine sq_n ?_
    refine fx_region (fl_bin rfl rfl (b_add' (r := ((i + 1 : Nat) : Int)) (wi64 (by omega))) (fl_mv rfl (fl_nil ?_)))
    refine lq_n (by omega) ⟨i + 1, setL cs (i * size) ws', _, _, [], rfl, hzz.trans hz2, (atc rfl (atc rfl (atc rfl (atc rfl atn)))), rfl, by omega, hcl.step hzz hz2 ha (by rw [hl', hw.1]) hR'⟩
  · have hlt : l.length ≤ i := by omega
    refine fx_eseq ?_
    refine lq_e ?_
    refine sq_n ?_
    refine fx_sr (fl_mv rfl (fl_mv rfl (fl_nil ?_)))
    refine fx_frzN (p := []) (q := []) (z0 := z1) rfl hzz (hcl.done hlt) rfl hle fun z' hz' hs' => ?_
    refine fx_ret ?_
    exact ret_q (.inl rfl) (rt rfl rn) hs'
section
variable {call : Call'} {k : Nat} {B : Base} {c : XC} {fs : Sf} {Q : Exit → Sf → Prop}
theorem fx_base (h : zle B.z fs.z → FX call k B c fs Q) : FX call k B c fs Q := fun st r => h r.zle st r
def memH (H : List HA) : Mem := fun b k => HA.blk b k ∈ H
def minus (z U : Mem) : Mem := fun b k => z b k ∧ ∀ k', ¬ U b k'
open Classical in
noncomputable def listU (U : Mem) (n : Nat) : List HA := (List.range n).filterMap fun b => if h : ∃ k, U b k then some (.blk b (Classical.choose h)) else none
theorem listU_mem {U : Mem} {n b : Nat} {k : Blk} (hf : ∀ b k k', U b k → U b k' → k = k') (hn : ∀ b k, U b k → b < n) : HA.blk b k ∈ listU U n ↔ U b k := by
 unfold listU
 rw [List.mem_filterMap]
 constructor
 ·rintro ⟨a, ha, h⟩
  split at h
  ·rename_i hh
   injection h with h
   injection h with h1 h2
   subst h1; subst h2
   exact Classical.choose_spec hh
  ·cases h
 ·intro h
  refine ⟨b, List.mem_range.2 (hn b k h), ?_⟩
  have hh : ∃ k, U b k := ⟨k, h⟩
  rw [dif_pos hh, hf b _ _ (Classical.choose_spec hh) h]
theorem listU_blk {U : Mem} {n : Nat} {a : HA} (h : a ∈ listU U n) : ∃ b k, a = .blk b k ∧ U b k := by
 unfold listU at h
 rw [List.mem_filterMap] at h
 obtain ⟨b, _, h⟩ := h
 split at h
 ·rename_i hh
  injection h with h
  exact ⟨b, _, h.symm, Classical.choose_spec hh⟩
 ·cases h
theorem listU_fps {U : Mem} {n : Nat} : (fps (listU U n)).Sublist (List.range n) := by
 unfold listU
 generalize List.range n = r
 induction r with
 | nil => exact List.Sublist.refl _
 | cons b r ih =>
  rw [List.filterMap_cons]
  split
  ·exact ih.cons _
  ·rename_i a h
   split at h
   ·injection h with h
    subst h
    rw [fps_cons]
    exact ih.cons_cons _
   ·cases h
theorem Rf.thaw {st : AS} (r : Rf B fs st) {zA zB : Mem} (hA : CE.zle B.z zA) (hAB : CE.zle zA zB) (hB : CE.zle zB fs.z) :
  ∃ G : List HA, (∀ b k, memH G b k ↔ zd zA zB b k) ∧ (∀ a, a ∈ G → ∃ b k, a = .blk b k) ∧ (∀ b k k', memH G b k → memH G b k' → k = k') ∧ Rf B ⟨fs.e, minus fs.z (zd zA zB), G ++ fs.H⟩ st := by
 have hf : ∀ b k k', zd zA zB b k → zd zA zB b k' → k = k' := fun b k k' h1 h2 => by
  have g1 := (r.hold.z b k (hB _ _ h1.1)).1
  have g2 := (r.hold.z b k' (hB _ _ h2.1)).1
  rw [g1] at g2
  injection g2
 have hn : ∀ b k, zd zA zB b k → b < st.nx := fun b k h => (r.hold.z b k (hB _ _ h.1)).2.1
 have hfp : ∀ b, b ∈ fps (listU (zd zA zB) st.nx) → ∃ k, zd zA zB b k := fun b hb => by
  obtain ⟨a, ha, hb⟩ := mem_fps.1 hb
  obtain ⟨b', k, rfl, hk⟩ := listU_blk ha
  simp [HA.fp] at hb
  subst hb
  exact ⟨k, hk⟩
 refine ⟨listU (zd zA zB) st.nx, fun b k => listU_mem hf hn, fun a ha => (by obtain ⟨b, k, h, _⟩ := listU_blk ha; exact ⟨b, k, h⟩), fun b k k' h1 h2 => hf b k k' ((listU_mem hf hn).1 h1) ((listU_mem hf hn).1 h2), ⟨r.env, ⟨fun b k hb => ?_, fun a ha => ?_, fun b hb => ?_, ?_⟩, r.le, r.old, fun b hb => ?_, fun b k hb => ?_, fun b k hb => r.zin b k hb.1⟩⟩
 ·obtain ⟨g1, g2, g3⟩ := r.hold.z b k hb.1
  refine ⟨g1, g2, ?_⟩
  rw [fps_app, List.mem_append]
  rintro (g4 | g4)
  ·obtain ⟨k', hk⟩ := hfp b g4
   exact hb.2 k' hk
  ·exact g3 g4
 ·rcases List.mem_append.1 ha with ha | ha
  ·obtain ⟨b, k, rfl, hk⟩ := listU_blk ha
   exact (r.hold.z b k (hB _ _ hk.1)).1
  ·exact r.hold.h a ha
 ·have hb : b ∈ fps (listU (zd zA zB) st.nx ++ fs.H) := hb
  rw [fps_app, List.mem_append] at hb
  rcases hb with hb | hb
  ·obtain ⟨k, hk⟩ := hfp b hb
   exact hn b k hk
  ·exact r.hold.lt b hb
 ·show (fps (listU (zd zA zB) st.nx ++ fs.H)).Nodup
  rw [fps_app]
  refine List.nodup_append.2 ⟨listU_fps.nodup List.nodup_range, r.hold.nd, fun x hx y hy e => ?_⟩
  subst e
  obtain ⟨k, hk⟩ := hfp x hx
  exact (r.hold.z x k (hB _ _ hk.1)).2.2 hy
 ·have hb : b ∈ fps (listU (zd zA zB) st.nx ++ fs.H) := hb
  rw [fps_app, List.mem_append] at hb
  rcases hb with hb | hb
  ·obtain ⟨k, hk⟩ := hfp b hb
   rcases r.zin b k (hB _ _ hk.1) with g | g
   ·exact absurd (hA b k g) (hk.2.1 k)
   ·exact g
  ·exact r.own b hb
 ·exact ⟨r.zle b k hb, fun k' hk => hk.2.1 k (hA b k hb)⟩
theorem fl_thaw {l : List I} {Q : Sf → Prop} {zA zB : Mem} (hA : zle B.z zA) (hAB : zle zA zB) (hB : zle zB fs.z)
  (hw : ∀ (G : List HA) (zt : Mem), (∀ b k, memH G b k ↔ zd zA zB b k) → (∀ a, a ∈ G → ∃ b k, a = .blk b k) → (∀ b k k', memH G b k → memH G b k' → k = k') → zle zA zt → zle (zd zB fs.z) zt → FL call B l ⟨fs.e, zt, G ++ fs.H⟩ Q) : FL call B l fs Q := fun st r => by
 obtain ⟨G, h1, h2, h3, h4⟩ := r.thaw hA hAB hB
 exact hw G _ h1 h2 h3 (fun b k h => ⟨hB _ _ (hAB _ _ h), fun k' hk => hk.2.1 k h⟩) (fun b k h => ⟨h.1, fun k' hk => h.2.1 k' hk.1⟩) st h4
theorem zd_in {zA z1 z z' : Mem} (h : zle (zd z1 z) z') (hA : zle zA z1) : zle (zd z1 z) (zd zA z') := fun b k g => ⟨h b k g, fun k' hk => g.2.1 k' (hA _ _ hk), g.2.2⟩
end
open Go.RowKit
structure Memo where
 f : Nat
 args : List AV
 mem : List Blk
 res : AV
 out : List (Nat × Blk)
def memT : Nat → List Blk → Tr Blk
 | _, [] => .nil
 | k, b :: l => Tr.put (k + 1) (memT (k + 1) l) k (some b)
theorem memT_get : ∀ (l : List Blk) (k b : Nat), (memT k l).get b = if k ≤ b then l[b - k]? else none := by
  intro l
  induction l with
  | nil => intro k b; simp [memT, Tr.get_nil]
  | cons x l ih =>
    intro k b
    rw [memT, Tr.get_put _ _ _ _ _ (by omega), ih]
    by_cases h : k = b
    · subst h; simp
    · rw [if_neg h]
      by_cases h2 : k ≤ b
      · obtain ⟨j, rfl⟩ : ∃ j, b = k + 1 + j := ⟨b - (k + 1), by omega⟩
        rw [if_pos (by omega), if_pos h2, show k + 1 + j - (k + 1) = j by omega, show k + 1 + j - k = j + 1 by omega]
        rfl
      · rw [if_neg (by omega), if_neg h2]
def putOut : Tr Blk → Nat → List Blk → Tr Blk
 | t, _, [] => t
 | t, n, b :: l => putOut (Tr.put (n + 1) t n (some b)) (n + 1) l
theorem putOut_get : ∀ (l : List Blk) (t : Tr Blk) (n b : Nat), (putOut t n l).get b = if n ≤ b ∧ b < n + l.length then l[b - n]? else t.get b := by
  intro l
  induction l with
  | nil => intro t n b; rw [if_neg (by simp only [List.length_nil]; omega)]; rfl
  | cons x l ih =>
    intro t n b
    rw [putOut, ih]
    by_cases h : n + 1 ≤ b ∧ b < n + 1 + l.length
    · obtain ⟨j, rfl⟩ : ∃ j, b = n + 1 + j := ⟨b - (n + 1), by omega⟩
      rw [if_pos h, if_pos (by simp; omega), show n + 1 + j - (n + 1) = j by omega, show n + 1 + j - n = j + 1 by omega]
      rfl
    · rw [if_neg h, Tr.get_put _ _ _ _ _ (by omega)]
      by_cases h2 : n = b
      · subst h2
        simp
      · rw [if_neg h2, if_neg (by simp only [List.length_cons]; omega)]
def renC (σ : Nat → Option Nat) : C → Option C
 | .any => some .any
 | .v x => some (.v x)
 | .ptr b o => match σ b with
  | some b' => some (.ptr b' o)
  | none => none
 | .sl b o n s => match σ b with
  | some b' => some (.sl b' o n s)
  | none => none
 | .fn f [] [] => some (.fn f [] [])
 | .fn _ _ _ => none
 | .mp b => match σ b with
  | some b' => some (.mp b')
  | none => none
 | .em => some .em
def renL (σ : Nat → Option Nat) : List C → Option (List C)
 | [] => some []
 | c :: l => match renC σ c with
  | some c' => match renL σ l with
   | some l' => some (c' :: l')
   | none => none
  | none => none
def ren1 (σ : Nat → Option Nat) : AV → Option AV
 | .any => some .any
 | .c c => match renC σ c with
  | some c' => some (.c c')
  | none => none
 | .agg l => match renL σ l with
  | some l' => some (.agg l')
  | none => none
 | .tup _ => none
def renT (σ : Nat → Option Nat) : List AV → Option (List AV)
 | [] => some []
 | c :: l => match ren1 σ c with
  | some c' => match renT σ l with
   | some l' => some (c' :: l')
   | none => none
  | none => none
def renA (σ : Nat → Option Nat) : AV → Option AV
 | .tup l => match renT σ l with
  | some l' => some (.tup l')
  | none => none
 | v => ren1 σ v
def renB (σ : Nat → Option Nat) : Blk → Option Blk
 | .cells ty cs => match renL σ cs with
  | some cs' => some (.cells ty cs')
  | none => none
 | _ => none
section
variable {σ : Nat → Option Nat} {ρA ρB : Plan}
theorem renC_rep (hσ : ∀ b b', σ b = some b' → ρA b' = ρB b) {c c' : C} (h : renC σ c = some c') {x : Value} : CRep ρB c x ↔ CRep ρA c' x := by
  unfold renC at h
  split at h
  · injection h with h; subst h
    exact ⟨fun g => by cases g with | any _ h1 => exact .any _ h1, fun g => by cases g with | any _ h1 => exact .any _ h1⟩
  · injection h with h; subst h
    exact ⟨fun g => by cases g with | v _ h1 => exact .v _ h1, fun g => by cases g with | v _ h1 => exact .v _ h1⟩
  · split at h
    · rename_i b o b' hb
      injection h with h; subst h
      exact ⟨fun g => by cases g with | ptr _ _ la h1 => exact .ptr _ _ la ((hσ _ _ hb).trans h1), fun g => by cases g with | ptr _ _ la h1 => exact .ptr _ _ la ((hσ _ _ hb).symm.trans h1)⟩
    · cases h
  · split at h
    · rename_i b o n s b' hb
      injection h with h; subst h
      exact ⟨fun g => by cases g with | sl _ _ _ _ cap la h1 h2 h3 h4 => exact .sl _ _ _ _ cap la ((hσ _ _ hb).trans h1) h2 h3 h4, fun g => by cases g with | sl _ _ _ _ cap la h1 h2 h3 h4 => exact .sl _ _ _ _ cap la ((hσ _ _ hb).symm.trans h1) h2 h3 h4⟩
    · cases h
  · injection h with h; subst h
    exact ⟨fun g => by cases g with | fn _ _ _ us vs h1 h2 s1 s2 hf hv => exact .fn _ _ _ us vs h1 h2 s1 s2 (fun i p j c hp => by simp at hp) (fun i p j c hp => by simp at hp),
      fun g => by cases g with | fn _ _ _ us vs h1 h2 s1 s2 hf hv => exact .fn _ _ _ us vs h1 h2 s1 s2 (fun i p j c hp => by simp at hp) (fun i p j c hp => by simp at hp)⟩
  · cases h
  · split at h
    · rename_i b b' hb
      injection h with h; subst h
      exact ⟨fun g => by cases g with | mp _ la h1 => exact .mp _ la ((hσ _ _ hb).trans h1), fun g => by cases g with | mp _ la h1 => exact .mp _ la ((hσ _ _ hb).symm.trans h1)⟩
    · cases h
  · injection h with h; subst h
    exact ⟨fun g => by cases g with | em A cap => exact .em A cap, fun g => by cases g with | em A cap => exact .em A cap⟩
theorem renL_get : ∀ {l l' : List C}, renL σ l = some l' → l.length = l'.length ∧ (∀ (i : Nat) (c : C), l[i]? = some c → ∃ c', l'[i]? = some c' ∧ renC σ c = some c') ∧ (∀ (i : Nat) (c' : C), l'[i]? = some c' → ∃ c, l[i]? = some c ∧ renC σ c = some c') := by
 intro l
 induction l with
 | nil =>
  intro l' h
  simp only [renL] at h
  injection h with h; subst h
  exact ⟨rfl, fun i c hc => by simp at hc, fun i c hc => by simp at hc⟩
 | cons c l ih =>
  intro l' h
  simp only [renL] at h
  split at h
  case h_2 => cases h
  rename_i c1 hc1
  split at h
  case h_2 => cases h
  rename_i l1 hl1
  injection h with h; subst h
  obtain ⟨g1, g2, g3⟩ := ih hl1
  refine ⟨by simp [g1], fun i d hd => ?_, fun i d hd => ?_⟩
  ·cases i with
   | zero => simp at hd; subst hd; exact ⟨c1, rfl, hc1⟩
   | succ i => exact g2 i d (by simpa using hd)
  ·cases i with
   | zero => simp at hd; subst hd; exact ⟨c, rfl, hc1⟩
   | succ i => exact g3 i d (by simpa using hd)
theorem ren1_rep (hσ : ∀ b b', σ b = some b' → ρA b' = ρB b) {c c' : AV} (h : ren1 σ c = some c') {x : Value} : AVRep (CRep ρB) c x ↔ AVRep (CRep ρA) c' x := by
 unfold ren1 at h
 split at h
 ·injection h with h; subst h
  exact ⟨fun g => .any _, fun g => .any _⟩
 ·split at h
  case h_2 => cases h
  rename_i c c1 hc
  injection h with h; subst h
  exact ⟨fun g => by cases g with | c _ _ h1 => exact .c _ _ ((renC_rep hσ hc).1 h1), fun g => by cases g with | c _ _ h1 => exact .c _ _ ((renC_rep hσ hc).2 h1)⟩
 ·split at h
  case h_2 => cases h
  rename_i l l1 hl
  injection h with h; subst h
  obtain ⟨g1, g2, g3⟩ := renL_get hl
  refine ⟨fun g => ?_, fun g => ?_⟩
  ·cases g with
   | agg _ xs hs hc =>
    refine .agg _ xs (by omega) fun i d hd => ?_
    obtain ⟨c, hc1, hc2⟩ := g3 i d hd
    exact (renC_rep hσ hc2).1 (hc i c hc1)
  ·cases g with
   | agg _ xs hs hc =>
    refine .agg _ xs (by omega) fun i d hd => ?_
    obtain ⟨c, hc1, hc2⟩ := g2 i d hd
    exact (renC_rep hσ hc2).2 (hc i c hc1)
 ·cases h
theorem renT_get : ∀ {l l' : List AV}, renT σ l = some l' → l.length = l'.length ∧ (∀ (i : Nat) (c : AV), l[i]? = some c → ∃ c', l'[i]? = some c' ∧ ren1 σ c = some c') ∧ (∀ (i : Nat) (c' : AV), l'[i]? = some c' → ∃ c, l[i]? = some c ∧ ren1 σ c = some c') := by
 intro l
 induction l with
 | nil =>
  intro l' h
  simp only [renT] at h
  injection h with h; subst h
  exact ⟨rfl, fun i c hc => by simp at hc, fun i c hc => by simp at hc⟩
 | cons c l ih =>
  intro l' h
  simp only [renT] at h
  split at h
  case h_2 => cases h
  rename_i c1 hc1
  split at h
  case h_2 => cases h
  rename_i l1 hl1
  injection h with h; subst h
  obtain ⟨g1, g2, g3⟩ := ih hl1
  refine ⟨by simp [g1], fun i d hd => ?_, fun i d hd => ?_⟩
  ·cases i with
   | zero => simp at hd; subst hd; exact ⟨c1, rfl, hc1⟩
   | succ i => exact g2 i d (by simpa using hd)
  ·cases i with
   | zero => simp at hd; subst hd; exact ⟨c, rfl, hc1⟩
   | succ i => exact g3 i d (by simpa using hd)
theorem renA_rep (hσ : ∀ b b', σ b = some b' → ρA b' = ρB b) {c c' : AV} (h : renA σ c = some c') {x : Value} (g : AVRep (CRep ρB) c x) : AVRep (CRep ρA) c' x := by
 unfold renA at h
 split at h
 ·split at h
  case h_2 => cases h
  rename_i l l1 hl
  injection h with h; subst h
  obtain ⟨g1, g2, g3⟩ := renT_get hl
  cases g with
  | tup _ xs hs hc =>
   refine .tup _ xs (by omega) fun i d hd => ?_
   obtain ⟨c, hc1, hc2⟩ := g3 i d hd
   exact (ren1_rep hσ hc2).1 (hc i c hc1)
 ·exact (ren1_rep hσ h).1 g
theorem renB_ro {k k' : Blk} (h : renB σ k = some k') : k.isRo = false ∧ k'.isRo = false := by
 unfold renB at h
 split at h
 case h_2 => cases h
 split at h
 case h_2 => cases h
 injection h with h; subst h
 exact ⟨rfl, rfl⟩
theorem renB_rep (hσ : ∀ b b', σ b = some b' → ρA b' = ρB b) {k k' : Blk} (h : renB σ k = some k') {w : World} {la : Pl} : BlkRep ρB w la k ↔ BlkRep ρA w la k' := by
 unfold renB at h
 split at h
 case h_2 => cases h
 split at h
 case h_2 => cases h
 rename_i ty cs cs' hl
 injection h with h; subst h
 obtain ⟨g1, g2, g3⟩ := renL_get hl
 refine ⟨fun g => ?_, fun g => ?_⟩
 ·cases g with
  | cells _ _ cur hh ht hle hf =>
   refine .cells _ _ cur hh ht (by omega) fun i d hd => ?_
   obtain ⟨c, hc1, hc2⟩ := g3 i d hd
   obtain ⟨x, hx, hr⟩ := hf i c hc1
   exact ⟨x, hx, (renC_rep hσ hc2).1 hr⟩
 ·cases g with
  | cells _ _ cur hh ht hle hf =>
   refine .cells _ _ cur hh ht (by omega) fun i d hd => ?_
   obtain ⟨c, hc1, hc2⟩ := g2 i d hd
   obtain ⟨x, hx, hr⟩ := hf i c hc1
   exact ⟨x, hx, (renC_rep hσ hc2).2 hr⟩
end
def uC : C → C → List (Nat × Nat) → List (Nat × Nat)
 | .ptr b _, .ptr b' _, acc => (b', b) :: acc
 | .sl b _ _ _, .sl b' _ _ _, acc => (b', b) :: acc
 | .mp b, .mp b', acc => (b', b) :: acc
 | _, _, acc => acc
def uL : List C → List C → List (Nat × Nat) → List (Nat × Nat)
 | a :: l, b :: r, acc => uL l r (uC a b acc)
 | _, _, acc => acc
def uA : AV → AV → List (Nat × Nat) → List (Nat × Nat)
 | .c a, .c b, acc => uC a b acc
 | .agg l, .agg r, acc => uL l r acc
 | _, _, acc => acc
def uAs : List AV → List AV → List (Nat × Nat) → List (Nat × Nat)
 | a :: l, b :: r, acc => uAs l r (uA a b acc)
 | _, _, acc => acc
def lkp : List (Nat × Nat) → Nat → Option Nat
 | [], _ => none
 | p :: l, i => match Nat.beq p.1 i with
  | true => some p.2
  | false => lkp l i
def uM (mem : Tr Blk) : Nat → List Blk → List (Nat × Nat) → List (Nat × Nat)
 | _, [], acc => acc
 | i, k :: l, acc => match lkp acc i with
  | none => acc
  | some b => match mem.get b, k with
   | some (.cells _ cs), .cells _ cs' => uM mem (i + 1) l (uL cs cs' acc)
   | _, _ => acc
def acts (acc : List (Nat × Nat)) : Nat → List Blk → Option (List Nat)
 | _, [] => some []
 | i, _ :: l => match lkp acc i with
  | none => none
  | some b => match acts acc (i + 1) l with
   | some r => some (b :: r)
   | none => none
def idxO : List (Nat × Blk) → Nat → Nat → Option Nat
 | [], _, _ => none
 | p :: l, n, b => match Nat.beq p.1 b with
  | true => some n
  | false => idxO l (n + 1) b
def sig (N : Nat) (act : List Nat) (out : List (Nat × Blk)) (nx : Nat) (b : Nat) : Option Nat := match Nat.blt b N with
 | true => act[b]?
 | false => idxO out nx b
def sameAs : List AV → List AV → Bool
 | [], [] => true
 | a :: l, b :: r => sameA a b && sameAs l r
 | _, _ => false
theorem sameAs_eq : ∀ {l r : List AV}, sameAs l r = true → l = r
 | [], [], _ => rfl
 | [], _ :: _, h => by cases h
 | _ :: _, [], h => by cases h
 | a :: l, b :: r, h => by
  simp only [sameAs, Bool.and_eq_true] at h
  rw [sameA_eq h.1, sameAs_eq h.2]
def sameK' : Blk → Blk → Bool
 | .cells a l, .cells b r => Nat.beq a b && sameL l r
 | _, _ => false
theorem sameK'_eq {a b : Blk} (h : sameK' a b = true) : a = b := by
 unfold sameK' at h
 split at h
 ·simp only [Bool.and_eq_true] at h
  rw [Nat.eq_of_beq_eq_true h.1, sameL_eq h.2]
 ·cases h
def okM (σ : Nat → Option Nat) (mem : Tr Blk) : List Nat → List Blk → Bool
  | [], [] => true
  | b :: l, k :: r => (match renB σ k with
    | some k' => (match mem.get b with
      | some k2 => sameK' k' k2
      | none => false)
    | none => false) && okM σ mem l r
  | _, _ => false
def memN : Nat → List Nat → Bool
 | _, [] => false
 | a, b :: l => Nat.beq a b || memN a l
theorem memN_iff {a : Nat} : ∀ {l : List Nat}, memN a l = true ↔ a ∈ l := by
 intro l
 induction l with
 | nil => simp [memN]
 | cons b l ih => simp [memN, ih]
def nodN : List Nat → Bool
 | [] => true
 | a :: l => !memN a l && nodN l
theorem nodN_nd : ∀ {l : List Nat}, nodN l = true → l.Nodup := by
 intro l
 induction l with
 | nil => intro _; exact List.nodup_nil
 | cons a l ih =>
  intro h
  simp only [nodN, Bool.and_eq_true, Bool.not_eq_true'] at h
  exact List.nodup_cons.2 ⟨fun hm => (by rw [memN_iff.2 hm] at h; cases h.1), ih h.2⟩
theorem okM_get {σ : Nat → Option Nat} {mem : Tr Blk} : ∀ {l : List Nat} {r : List Blk}, okM σ mem l r = true → l.length = r.length ∧ ∀ (i b : Nat) (k : Blk), l[i]? = some b → r[i]? = some k → ∃ k2, renB σ k = some k2 ∧ mem.get b = some k2 := by
 intro l
 induction l with
 | nil =>
  intro r h
  cases r with
  | nil => exact ⟨rfl, fun i b k hb => by simp at hb⟩
  | cons => cases h
 | cons a l ih =>
  intro r h
  cases r with
  | nil => cases h
  | cons k r =>
   simp only [okM, Bool.and_eq_true] at h
   obtain ⟨h1, h2⟩ := h
   obtain ⟨g1, g2⟩ := ih h2
   refine ⟨by simp [g1], fun i b k' hb hk => ?_⟩
   cases i with
   | zero =>
    simp at hb hk
    subst hb hk
    split at h1
    case h_2 => cases h1
    rename_i k1 hk1
    split at h1
    case h_2 => cases h1
    rename_i k2 hk2
    have := sameK'_eq h1
    subst this
    exact ⟨k1, hk1, hk2⟩
   | succ i => exact g2 i b k' (by simpa using hb) (by simpa using hk)
def outs (σ : Nat → Option Nat) : List (Nat × Blk) → Option (List Blk)
 | [] => some []
 | p :: l => match renB σ p.2 with
  | some k => match outs σ l with
   | some r => some (k :: r)
   | none => none
  | none => none
theorem outs_get {σ : Nat → Option Nat} : ∀ {l : List (Nat × Blk)} {r : List Blk}, outs σ l = some r → l.length = r.length ∧ ∀ (i : Nat) (k : Blk), r[i]? = some k → ∃ p, l[i]? = some p ∧ renB σ p.2 = some k := by
 intro l
 induction l with
 | nil =>
  intro r h
  simp only [outs] at h
  injection h with h; subst h
  exact ⟨rfl, fun i k hk => by simp at hk⟩
 | cons p l ih =>
  intro r h
  simp only [outs] at h
  split at h
  case h_2 => cases h
  rename_i k hk
  split at h
  case h_2 => cases h
  rename_i r1 hr1
  injection h with h; subst h
  obtain ⟨g1, g2⟩ := ih hr1
  refine ⟨by simp [g1], fun i k' hk' => ?_⟩
  cases i with
  | zero => simp at hk'; subst hk'; exact ⟨p, rfl, hk⟩
  | succ i => exact g2 i k' (by simpa using hk')
def hand1 (e : Memo) (args : List AV) (mem : Tr Blk) (nx : Nat) : Option (AV × Tr Blk × Nat) :=
 match acts (uM mem 0 e.mem (uAs args e.args [])) 0 e.mem with
 | none => none
 | some act => match renT (sig e.mem.length act e.out nx) e.args with
  | none => none
  | some args' => match sameAs args' args && (nodN act && okM (sig e.mem.length act e.out nx) mem act e.mem) with
   | false => none
   | true => match outs (sig e.mem.length act e.out nx) e.out with
    | none => none
    | some ks => match renA (sig e.mem.length act e.out nx) e.res with
     | none => none
     | some r => some (r, putOut mem nx ks, nx + ks.length)
structure MemoOk (P : Program) (e : Memo) : Prop where
 ok : ∃ mem' nx', FSnd P e.f e.args (memT 0 e.mem) e.mem.length e.res mem' nx' ∧ (∀ (i : Nat) (k : Blk), e.mem[i]? = some k → mem'.get i = some k) ∧ ∀ (i : Nat) (p : Nat × Blk), e.out[i]? = some p → e.mem.length ≤ p.1 ∧ mem'.get p.1 = some p.2
 nd : (e.out.map Prod.fst).Nodup
theorem idxO_get : ∀ {l : List (Nat × Blk)} {n b j : Nat}, idxO l n b = some j → n ≤ j ∧ ∃ p, l[j - n]? = some p ∧ p.1 = b := by
 intro l
 induction l with
 | nil => intro n b j h; cases h
 | cons p l ih =>
  intro n b j h
  simp only [idxO] at h
  split at h
  ·rename_i hb
   injection h with h; subst h
   exact ⟨Nat.le_refl _, p, by simp, Nat.eq_of_beq_eq_true hb⟩
  ·obtain ⟨h1, q, h2, h3⟩ := ih h
   refine ⟨by omega, q, ?_, h3⟩
   rw [show j - n = (j - (n + 1)) + 1 by omega]
   simpa using h2
theorem hand1_snd {P : Program} {e : Memo} (he : MemoOk P e) {args : List AV} {mem : Tr Blk} {nx : Nat} {res : AV} {mem' : Tr Blk} {nx' : Nat} (h : hand1 e args mem nx = some (res, mem', nx')) : FSnd P e.f args mem nx res mem' nx' := by
  unfold hand1 at h
  split at h
  case h_1 => cases h
  rename_i act hact
  clear hact
  split at h
  case h_1 => cases h
  rename_i args' hargs
  split at h
  case h_1 => cases h
  rename_i hchk
  simp only [Bool.and_eq_true] at hchk
  obtain ⟨hc1, hc2, hc3⟩ := hchk
  have := sameAs_eq hc1
  subst this
  have hnd := nodN_nd hc2
  obtain ⟨hlen, hmem⟩ := okM_get hc3
  split at h
  case h_1 => cases h
  rename_i ks hks
  split at h
  case h_1 => cases h
  rename_i r hr
  injection h with h
  obtain ⟨h1, h2⟩ := Prod.mk.inj h
  subst h1
  obtain ⟨h3, h4⟩ := Prod.mk.inj h2
  subst h3
  subst h4
  obtain ⟨hklen, hkget⟩ := outs_get hks
  obtain ⟨memc, nxc, hF, hsame, hout⟩ := he.ok
  generalize hσ : sig e.mem.length act e.out nx = σ at *
  have hσ1 : ∀ b, b < e.mem.length → σ b = act[b]? := fun b hb => by
    rw [← hσ]
    have : Nat.blt b e.mem.length = true := by rw [Nat.blt_eq]; exact hb
    simp only [sig, this]
  have hσ2 : ∀ b, ¬ b < e.mem.length → σ b = idxO e.out nx b := fun b hb => by
    rw [← hσ]
    have : Nat.blt b e.mem.length = false := by
      cases hh : Nat.blt b e.mem.length with
      | false => rfl
      | true => rw [Nat.blt_eq] at hh; exact absurd hh hb
    simp only [sig, this]
  refine ⟨⟨by omega, fun b k hb => ?_, fun b k hb hr => ?_⟩, fun K w0 ρ w vs hms hfree hl hrep => ?_⟩
  · rw [putOut_get] at hb
    split at hb
    · rename_i hh; exact .inr hh
    · exact .inl ⟨k, hb⟩
  · rw [putOut_get] at hb
    split at hb
    · obtain ⟨p, hp, hk⟩ := hkget _ _ hb
      rw [(renB_ro hk).2] at hr; cases hr
    · exact hb
  · -- canonical plan
    let ρc : Plan := fun b => if b < e.mem.length then (act[b]?).bind ρ else none
    let m1 : Mem := fun b k => mem.m b k ∧ b ∈ act
    let K' : Nat → Prop := fun x => x < w.heap.size ∧ ¬ ∃ b k la, m1 b k ∧ k.isRo = false ∧ ρ b = some la ∧ la.b = x
    have hat : ∀ i, i < e.mem.length → ∃ b k k2 la, act[i]? = some b ∧ e.mem[i]? = some k ∧ renB σ k = some k2 ∧ mem.m b k2 ∧ ρ b = some la ∧ ρc i = some la ∧ BlkRep ρ w la k2 := fun i hi => by
      have h1 : act[i]? = some (act[i]'(by omega)) := List.getElem?_eq_getElem (by omega)
      have h2 : e.mem[i]? = some (e.mem[i]'hi) := List.getElem?_eq_getElem hi
      obtain ⟨k2, h3, h4⟩ := hmem i _ _ h1 h2
      obtain ⟨la, h5, h6⟩ := hms.blk _ _ h4
      exact ⟨_, _, k2, la, h1, h2, h3, h4, h5, by simp only [ρc]; rw [if_pos hi, h1]; exact h5, h6⟩
    have hσρ : ∀ b b', σ b = some b' → b < e.mem.length → ρ b' = ρc b := fun b b' hb hlt => by
      rw [hσ1 b hlt] at hb
      simp only [ρc]
      rw [if_pos hlt, hb]
      rfl
    let σ0 : Nat → Option Nat := fun b => if b < e.mem.length then act[b]? else none
    have hM : MSat K' w ρc (memT 0 e.mem).m w := by
      have hget : ∀ b k, (memT 0 e.mem).m b k → b < e.mem.length ∧ e.mem[b]? = some k := fun b k hb => by
        unfold Tr.m at hb
        rw [memT_get, if_pos (Nat.zero_le _), Nat.sub_zero] at hb
        exact ⟨(List.getElem?_eq_some_iff.1 hb).1, hb⟩
      refine ⟨fun b k hb => ?_, fun b k la hb hla => ?_, fun b b' k k' la la' hb hb' hla hla' _ _ hq => ?_, fun b hb => hb.1, ⟨rfl, rfl, rfl, Nat.le_refl _, fun _ _ => rfl⟩⟩
      · obtain ⟨h1, h2⟩ := hget b k hb
        obtain ⟨b0, k0, k2, la, g1, g2, g3, g4, g5, g6, g7⟩ := hat b h1
        rw [h2] at g2; injection g2 with g2; subst g2
        refine ⟨la, g6, ?_⟩
        have key : ∀ (c c' : C) (x : Value), renC σ c = some c' → CRep ρ c' x → CRep ρc c x := by
          intro c c' x hc hx
          have hnew : ∀ b b', σ b = some b' → ¬ b < e.mem.length → ρ b' = none := fun b b' hb hn => by
            rw [hσ2 b hn] at hb
            obtain ⟨h1, p, h2, h3⟩ := idxO_get hb
            have := (List.getElem?_eq_some_iff.1 h2).1
            exact hfree b' h1 (by omega)
          have hboth : ∀ b b', σ b = some b' → ρ b' = ρc b := fun b b' hb => by
            by_cases hn : b < e.mem.length
            · exact hσρ b b' hb hn
            · rw [hnew b b' hb hn]; simp only [ρc]; rw [if_neg hn]
          exact (renC_rep hboth hc).2 hx
        unfold renB at g3
        split at g3
        case h_2 => cases g3
        split at g3
        case h_2 => cases g3
        rename_i ty cs cs' hl'
        injection g3 with g3; subst g3
        obtain ⟨q1, q2, q3⟩ := renL_get hl'
        cases g7 with
        | cells _ _ cur hh ht hle hf =>
          refine .cells _ _ cur hh ht (by omega) fun i d hd => ?_
          obtain ⟨c, hc1, hc2⟩ := q2 i d hd
          obtain ⟨x, hx, hrx⟩ := hf i c hc1
          exact ⟨x, hx, key d c x hc2 hrx⟩
      · obtain ⟨h1, h2⟩ := hget b k hb
        obtain ⟨b0, k0, k2, la0, g1, g2, g3, g4, g5, g6, g7⟩ := hat b h1
        rw [g6] at hla; injection hla with hla; subst hla
        rw [h2] at g2; injection g2 with g2; subst g2
        exact ⟨fun _ hk => hk.2 ⟨b0, k2, la0, ⟨g4, List.mem_of_getElem? g1⟩, (renB_ro g3).2, g5, rfl⟩, fun hr => (by rw [(renB_ro g3).1] at hr; cases hr), (hms.own b0 k2 la0 g4 g5).2.2⟩
      · obtain ⟨h1, h2⟩ := hget b k hb
        obtain ⟨h1', h2'⟩ := hget b' k' hb'
        obtain ⟨b0, k0, k2, la0, g1, g2, g3, g4, g5, g6, g7⟩ := hat b h1
        obtain ⟨b0', k0', k2', la0', g1', g2', g3', g4', g5', g6', g7'⟩ := hat b' h1'
        rw [g6] at hla; injection hla with hla; subst hla
        rw [g6'] at hla'; injection hla' with hla'; subst hla'
        have := hms.inj b0 b0' k2 k2' la0 la0' g4 g4' g5 g5' (renB_ro g3).2 (renB_ro g3').2 hq
        subst this
        exact (List.getElem?_inj (List.getElem?_eq_some_iff.1 g1).1 hnd).1 (g1.trans g1'.symm)
    have hboth : ∀ b b', σ b = some b' → ρ b' = ρc b := fun b b' hb => by
      by_cases hn : b < e.mem.length
      · exact hσρ b b' hb hn
      · rw [hσ2 b hn] at hb
        obtain ⟨h1, p, h2, h3⟩ := idxO_get hb
        have := (List.getElem?_eq_some_iff.1 h2).1
        rw [hfree b' h1 (by omega)]
        simp only [ρc]; rw [if_neg hn]
    have hfc : Free ρc e.mem.length nxc := fun b h1 h2 => by simp only [ρc]; rw [if_neg (by omega)]
    obtain ⟨ha1, ha2, ha3⟩ := renT_get hargs
    have hra : ∀ k v, e.args[k]? = some v → AVRep (CRep ρc) v (vs.getD k undef) := fun k v hv => by
      obtain ⟨v', hv1, hv2⟩ := ha2 k v hv
      exact (ren1_rep hboth hv2).2 (hrep k v' hv1)
    refine (hF.run K' w ρc w vs hM hfc (by omega) hra).mono fun e' w' ⟨x, ρc', he', hg, hm', hx⟩ => ?_
    let ρ' : Plan := fun b => if nx ≤ b ∧ b < nx + ks.length then (e.out[b - nx]?).bind (fun p => ρc' p.1) else ρ b
    have hold : ∀ b, b < e.mem.length → ρc' b = ρc b := fun b hb => hg.out b (.inl hb)
    have hρold : ∀ b la, ρ b = some la → ρ' b = ρ b := fun b la hb => by
      simp only [ρ']
      rw [if_neg fun hh => by have := hfree b hh.1 hh.2; rw [hb] at this; cases this]
    have hnewb : ∀ j p, e.out[j]? = some p → ρ' (nx + j) = ρc' p.1 := fun j p hp => by
      have := (List.getElem?_eq_some_iff.1 hp).1
      simp only [ρ']
      rw [if_pos (by omega), show nx + j - nx = j by omega, hp]
      rfl
    have hboth' : ∀ b b', σ b = some b' → ρ' b' = ρc' b := fun b b' hb => by
      by_cases hn : b < e.mem.length
      · obtain ⟨b0, k0, k2, la0, g1, g2, g3, g4, g5, g6, g7⟩ := hat b hn
        rw [hσ1 b hn, g1] at hb; injection hb with hb; subst hb
        rw [hρold _ _ g5, hold b hn, g5, g6]
      · rw [hσ2 b hn] at hb
        obtain ⟨h1, p, h2, h3⟩ := idxO_get hb
        have := hnewb (b' - nx) p h2
        rw [show nx + (b' - nx) = b' by omega] at this
        rw [this, h3]
    have hgr : Grown ρ nx (nx + ks.length) ρ' := ⟨fun b la hb => by rw [hρold b la hb]; exact hb, fun b hb => by simp only [ρ']; rw [if_neg (by omega)]⟩
    refine ⟨x, ρ', he', hgr, ?_, renA_rep hboth' hr hx⟩
    let m2 : Mem := fun b k => (b ∈ act ∧ mem.m b k) ∨ ∃ j p, e.out[j]? = some p ∧ b = nx + j ∧ renB σ p.2 = some k
    have hw2 : ∀ b k, m2 b k → ∃ i kc, memc.m i kc ∧ ρ' b = ρc' i ∧ renB σ kc = some k ∧ ((i < e.mem.length ∧ act[i]? = some b) ∨ ∃ j p, e.out[j]? = some p ∧ b = nx + j ∧ p.1 = i) := fun b k hb => by
      rcases hb with ⟨hb, hk⟩ | ⟨j, p, hp, rfl, hk⟩
      · obtain ⟨i, hi⟩ := List.getElem?_of_mem hb
        have hlt := (List.getElem?_eq_some_iff.1 hi).1
        obtain ⟨b0, k0, k2, la0, g1, g2, g3, g4, g5, g6, g7⟩ := hat i (by omega)
        rw [hi] at g1; injection g1 with g1; subst g1
        have : k = k2 := by
          have h1 : mem.get b = some k := hk
          have h2 : mem.get b = some k2 := g4
          rw [h1] at h2; injection h2
        subst this
        exact ⟨i, k0, hsame i k0 g2, by rw [hρold _ _ g5, hold i (by omega), g5, g6], g3, .inl ⟨by omega, hi⟩⟩
      · exact ⟨p.1, p.2, (hout j p hp).2, hnewb j p hp, hk, .inr ⟨j, p, hp, rfl, rfl⟩⟩
    have hM2 : MSat K' w ρ' m2 w' := by
      refine ⟨fun b k hb => ?_, fun b k la hb hla => ?_, fun b b' k k' la la' hb hb' hla hla' _ _ hq => ?_, hm'.kept, hm'.fr⟩
      · obtain ⟨i, kc, h1, h2, h3, h4⟩ := hw2 b k hb
        obtain ⟨la, h5, h6⟩ := hm'.blk i kc h1
        exact ⟨la, h2.trans h5, (renB_rep hboth' h3).1 h6⟩
      · obtain ⟨i, kc, h1, h2, h3, h4⟩ := hw2 b k hb
        have := hm'.own i kc la h1 (h2.symm.trans hla)
        exact ⟨fun _ => this.1 (renB_ro h3).1, fun hr => (by rw [(renB_ro h3).2] at hr; cases hr), this.2.2⟩
      · obtain ⟨i, kc, h1, h2, h3, h4⟩ := hw2 b k hb
        obtain ⟨i', kc', h1', h2', h3', h4'⟩ := hw2 b' k' hb'
        have hii := hm'.inj i i' kc kc' la la' h1 h1' (h2.symm.trans hla) (h2'.symm.trans hla') (renB_ro h3).1 (renB_ro h3').1 hq
        subst hii
        rcases h4 with ⟨h5, h6⟩ | ⟨j, p, h5, h6, h7⟩ <;> rcases h4' with ⟨h5', h6'⟩ | ⟨j', p', h5', h6', h7'⟩
        · rw [h6] at h6'; injection h6'
        · have := (hout j' p' h5').1; omega
        · have := (hout j p h5).1; omega
        · have e1 : (e.out.map Prod.fst)[j]? = some i := by rw [List.getElem?_map, h5]; simp [h7]
          have e2 : (e.out.map Prod.fst)[j']? = some i := by rw [List.getElem?_map, h5']; simp [h7']
          have := (List.getElem?_inj (List.getElem?_eq_some_iff.1 e1).1 he.nd).1 (e1.trans e2.symm)
          omega
    refine hms.frame (m1 := m1) (m2 := m2) (fun b k hb => hb.1) hgr.le hM2 fun b k hb => ?_
    unfold Tr.m at hb
    rw [putOut_get] at hb
    split at hb
    · rename_i hh
      obtain ⟨p, hp, hk⟩ := hkget _ _ hb
      exact .inl ⟨.inr ⟨b - nx, p, hp, by omega, hk⟩, fun hr => by rw [(renB_ro hk).2] at hr; cases hr⟩
    · by_cases hb2 : b ∈ act
      · exact .inl ⟨.inl ⟨hb2, hb⟩, fun _ => hb⟩
      · exact .inr ⟨hb, fun k1 hk1 => hb2 hk1.2⟩
def handL (l : List Memo) (h0 : Call') : Call' := fun f args mem nx => match l with
 | [] => h0 f args mem nx
 | e :: l => match Nat.beq e.f f with
  | true => match hand1 e args mem nx with
   | some r => some r
   | none => handL l h0 f args mem nx
  | false => handL l h0 f args mem nx
theorem handL_snd {P : Program} {h0 : Call'} (hh : CallSnd P h0) : ∀ {l : List Memo}, (∀ e ∈ l, MemoOk P e) → CallSnd P (handL l h0) := by
 intro l
 induction l with
 | nil => intro _ f args mem nx res mem' nx' h; exact hh f args mem nx res mem' nx' h
 | cons e l ih =>
  intro hl f args mem nx res mem' nx' h
  have ih := ih fun x hx => hl x (List.mem_cons_of_mem _ hx)
  simp only [handL] at h
  split at h
  ·rename_i hf
   have := Nat.eq_of_beq_eq_true hf
   subst this
   split at h
   ·rename_i r hr
    injection h with h; subst h
    exact hand1_snd (hl e (List.mem_cons_self ..)) hr
   ·exact ih _ _ _ _ _ _ _ h
  ·exact ih _ _ _ _ _ _ _ h
def sameR : AV → AV → Bool
 | .tup l, .tup r => sameAs l r
 | a, b => sameA a b
theorem sameR_eq {a b : AV} (h : sameR a b = true) : a = b := by
 unfold sameR at h
 split at h
 ·rw [sameAs_eq h]
 ·exact sameA_eq h
def keptM (m : Tr Blk) : Nat → List Blk → Bool
  | _, [] => true
  | i, k :: l => (match m.get i with
    | some k' => sameK' k' k
    | none => false) && keptM m (i + 1) l
theorem keptM_get {m : Tr Blk} : ∀ {l : List Blk} {n : Nat}, keptM m n l = true → ∀ (i : Nat) (k : Blk), l[i]? = some k → m.get (n + i) = some k := by
 intro l
 induction l with
 | nil => intro n _ i k hk; simp at hk
 | cons b l ih =>
  intro n h i k hk
  simp only [keptM, Bool.and_eq_true] at h
  cases i with
  | zero =>
   simp at hk
   subst hk
   obtain ⟨h, _⟩ := h
   split at h
   ·rename_i k' hk'
    rw [Nat.add_zero, hk', sameK'_eq h]
   ·cases h
  | succ i =>
   have := ih h.2 i k (by simpa using hk)
   rw [← this]
   congr 1
   omega
def outM (m : Tr Blk) (N : Nat) : List (Nat × Blk) → Bool
  | [] => true
  | p :: l => Nat.ble N p.1 && (match m.get p.1 with
    | some k' => sameK' k' p.2
    | none => false) && outM m N l
theorem outM_get {m : Tr Blk} {N : Nat} : ∀ {l : List (Nat × Blk)}, outM m N l = true → ∀ (i : Nat) (p : Nat × Blk), l[i]? = some p → N ≤ p.1 ∧ m.get p.1 = some p.2 := by
 intro l
 induction l with
 | nil => intro _ i p hp; simp at hp
 | cons b l ih =>
  intro h i p hp
  simp only [outM, Bool.and_eq_true] at h
  cases i with
  | zero =>
   simp at hp
   subst hp
   obtain ⟨⟨h0, h⟩, _⟩ := h
   split at h
   ·rename_i k' hk'
    exact ⟨Nat.le_of_ble_eq_true h0, by rw [hk', sameK'_eq h]⟩
   ·cases h
  | succ i => exact ih h.2 i p (by simpa using hp)
def chk (e : Memo) : Option (AV × Tr Blk × Nat) → Bool
 | some (r, m, n) => sameR r e.res && (keptM m 0 e.mem && (outM m e.mem.length e.out && nodN (e.out.map Prod.fst)))
 | none => false
theorem memo_of {P : Program} (hm : P.follows .mixedOrders = true) {l : List (Nat × F2)} (hT : TblOk P (mkT (tblE l))) {hand : Call'} (hh : CallSnd P hand) (k0 n : Nat) {e : Memo}
  (h : true = chk e (f2 (mkT2 l) hand k0 n e.f e.args (memT 0 e.mem) e.mem.length (fun v m n => some (v, m, n)))) : MemoOk P e := by
 cases hr : f2 (mkT2 l) hand k0 n e.f e.args (memT 0 e.mem) e.mem.length (fun v m n => some (v, m, n)) with
 | none => rw [hr] at h; cases h
 | some q =>
  obtain ⟨r, m, nx⟩ := q
  rw [hr] at h
  have h := h.symm
  simp only [chk, Bool.and_eq_true] at h
  obtain ⟨h1, h2, h3, h4⟩ := h
  have := sameR_eq h1
  subst this
  have hs := evF_sound hm hT hh k0 n _ _ _ _ _ _ _ (evF_of2 hr)
  exact ⟨⟨m, nx, hs, fun i k hk => by have := keptM_get h2 i k hk; simpa using this, outM_get h3⟩, nodN_nd h4⟩
theorem FOk.mk2 {P : Program} {f : Nat} {fn : Func} {e : F2} (hf : P.funcs[f]? = some fn) (hn : fn.ntmps = e.n) (hb : fn.body.isSome = true) (hname : (fn.name != "runtime.NumGoroutine") = true)
  (hic : IC.of P e.n (fn.body.getD .skip) = e.x.xc.ic) (hr : fn.results.toList.map (RR.of P) = e.ts.map some) (hok : e.x.xc.ok = true) : FOk P f e.fe := by
 obtain ⟨c, hc⟩ := Option.isSome_iff_exists.1 hb
 exact ⟨fn, c, hf, hn, hc, hname, by rw [hc] at hic; exact hic, hr, hok⟩
theorem all_c {P : Program} {f : Nat} {e : F2} {l : List (Nat × F2)} (h : FOk P f e.fe) (g : ∀ p, p ∈ tblE l → FOk P p.1 p.2) : ∀ p, p ∈ tblE ((f, e) :: l) → FOk P p.1 p.2 := by
 intro p hp
 simp only [tblE, List.map_cons, List.mem_cons] at hp
 rcases hp with rfl | hp
 ·exact h
 ·exact g p hp
theorem all_m {P : Program} {e : Memo} {l : List Memo} (h : MemoOk P e) (g : ∀ p, p ∈ l → MemoOk P p) : ∀ p, p ∈ e :: l → MemoOk P p := by
 intro p hp
 rcases List.mem_cons.1 hp with rfl | hp
 ·exact h
 ·exact g p hp
def noHand : Call' := fun _ _ _ _ => none
theorem noHand_snd {P : Program} : CallSnd P noHand := fun _ _ _ _ _ _ _ h => by cases h
def ixb : List UInt8 → Nat → Nat → Int
 | [], _, _ => -1
 | b :: l, c, i => match Nat.beq b.toNat c with
  | true => .ofNat i
  | false => ixb l c (i + 1)
theorem ixb_eq (c : UInt8) : ∀ (l : List UInt8) (i : Nat), ixb l c.toNat i = if Lib.indexByte l c = -1 then -1 else Lib.indexByte l c + i := by
 intro l
 induction l with
 | nil => intro i; simp [ixb, Lib.indexByte]
 | cons b l ih =>
  intro i
  by_cases h : b = c
  ·subst h
   have h0 : Lib.indexByte (b :: l) b = 0 := by simp [Lib.indexByte]
   rw [h0]
   simp [ixb]
  ·have h1 : Nat.beq b.toNat c.toNat = false := by
    cases hh : Nat.beq b.toNat c.toNat with
    | false => rfl
    | true => exact absurd (UInt8.toNat_inj.1 (Nat.eq_of_beq_eq_true hh)) h
   have h0 : Lib.indexByte (b :: l) c = if Lib.indexByte l c = -1 then -1 else Lib.indexByte l c + 1 := by simp [Lib.indexByte, h]
   have := Lib.indexByte_ge l c
   simp only [ixb, h1, ih]
   rw [h0]
   by_cases h3 : Lib.indexByte l c = -1
   ·simp only [h3, if_true]
   ·simp only [h3, if_false]
    rw [if_neg (by omega)]
    push_cast
    omega
def hIx (f0 : Nat) : Call' := fun f args mem nx => match Nat.beq f f0 with
 | true => match args with
  | [.c (.v (.string s)), .c (.v (.int .u8 c))] => some (.c (.v (.int .i64 (ixb s.data.toList (Nat.mod c.toNat 256) 0))), mem, nx)
  | _ => none
 | false => none
theorem hIx_snd {P : Program} {f0 : Nat} {fn : Func} (hf : P.funcs[f0]? = some fn) (hname : (fn.name == "runtime.NumGoroutine") = false) (hb : fn.body.isNone = true) (hn : Extern.findNext fn = none) (he : Extern.find fn = some Extern.BytealgIndexByte.indexByte) : CallSnd P (hIx f0) := by
 intro f args mem nx res mem' nx' h
 simp only [hIx] at h
 split at h
 case h_2 => cases h
 rename_i hff
 have := Nat.eq_of_beq_eq_true hff
 subst this
 split at h
 case h_2 => cases h
 rename_i s c
 injection h with h
 obtain ⟨h1, h2⟩ := Prod.mk.inj h
 subst h1
 obtain ⟨h3, h4⟩ := Prod.mk.inj h2
 subst h3
 subst h4
 refine ⟨Low.refl _ _, fun K w0 ρ w vs hms hfree hl hrep => .inr ⟨.int .i64 (Lib.indexByte s.data.toList c.toNat.toUInt8), ?_, _, ρ, rfl, Grown.refl _ _, hms, ?_⟩⟩
 ·have h0 := hrep 0 _ rfl
  have h1 := hrep 1 _ rfl
  have e0 : vs.getD 0 undef = .string s := h0.valInv rfl
  have e1 : vs.getD 1 undef = .int .u8 c := h1.valInv rfl
  have hsz : vs.size = 2 := hl
  have hvs : vs = #[.string s, .int .u8 c] := by
   apply Array.ext
   ·exact hsz
   ·intro i h1 h2
    have : i = 0 ∨ i = 1 := by omega
    rcases this with rfl | rfl
    ·simpa [Array.getD_eq_getD_getElem?, hsz] using e0
    ·simpa [Array.getD_eq_getD_getElem?, hsz] using e1
  rw [hvs, run_callFunc_extern hf hname hb hn he, Lib.run_indexByteString]
  rfl
 ·have : ixb s.data.toList (Nat.mod c.toNat 256) 0 = Lib.indexByte s.data.toList c.toNat.toUInt8 := by
   have e : Nat.mod c.toNat 256 = c.toNat.toUInt8.toNat := by simp [Nat.toUInt8, UInt8.ofNat]; rfl
   rw [e, ixb_eq]
   split
   ·rename_i hh; exact hh.symm
   ·simp
  rw [this]
  exact .c _ _ (.v _ rfl)
open Go.RowKit
open Go.Eng (Od need need_pos need_some setL binV binBV setL_length)
inductive SR : C → C → Prop where
 | same (c : C) : SR c c
 | i (k : IntKind) (n m : Int) : SR (.v (.int k n)) (.v (.int k m))
 | b (x y : Bool) : SR (.v (.bool x)) (.v (.bool y))
 | s (x y : ByteArray) : SR (.v (.string x)) (.v (.string y))
 | sl (b o n s : Nat) : SR (.sl b o n s) (.v (.slice none 0 0))
 | em : SR .em (.v (.slice none 0 0))
def SRL (l l' : List C) : Prop := l'.length = l.length ∧ ∀ (i : Nat) (c c' : C), l[i]? = some c → l'[i]? = some c' → SR c c'
theorem SRL.refl (l : List C) : SRL l l := ⟨rfl, fun i c c' h h' => by rw [h] at h'; injection h' with h'; subst h'; exact .same c⟩
theorem SRL.cons {c c' : C} {l l' : List C} (h : SR c c') (g : SRL l l') : SRL (c :: l) (c' :: l') := ⟨by simp [g.1], fun i a a' h1 h2 => by
  cases i with
  | zero => simp at h1 h2; subst h1; subst h2; exact h
  | succ i => exact g.2 i a a' (by simpa using h1) (by simpa using h2)⟩
theorem SRL.nil : SRL [] [] := SRL.refl []
theorem SRL.inv {c : C} {l ws : List C} (h : SRL (c :: l) ws) : ∃ c' ws', ws = c' :: ws' ∧ SR c c' ∧ SRL l ws' := by
 cases ws with
 | nil => have := h.1; simp at this
 | cons c' ws' => exact ⟨c', ws', rfl, h.2 0 c c' rfl rfl, by have := h.1; simpa using this, fun i a a' h1 h2 => h.2 (i + 1) a a' (by simpa using h1) (by simpa using h2)⟩
theorem SRL.inv0 {ws : List C} (h : SRL [] ws) : ws = [] := List.eq_nil_of_length_eq_zero h.1
theorem SRL.sub {l ws : List C} (h : SRL l ws) (o n : Nat) : SRL ((l.drop o).take n) ((ws.drop o).take n) := ⟨by simp [h.1], fun i c c' h1 h2 => by
  rw [List.getElem?_take] at h1 h2
  split at h1
  · rename_i hi
    rw [if_pos hi] at h2
    rw [List.getElem?_drop] at h1 h2
    exact h.2 _ c c' h1 h2
  · cases h1⟩
theorem SRL.set {l ws ds : List C} {o : Nat} (h : SRL l ws) (ho : o + ds.length ≤ l.length) (g : SRL ((l.drop o).take ds.length) ds) : SRL l (setL ws o ds) := by
 have hl := setL_length ws o ds (by rw [h.1]; exact ho)
 refine ⟨by rw [hl, h.1], fun i c c' h1 h2 => ?_⟩
 rw [setL_at _ _ _ (by rw [h.1]; exact ho)] at h2
 split at h2
 ·rename_i hi
  refine g.2 (i - o) c c' ?_ h2
  rw [List.getElem?_take, if_pos (by omega), List.getElem?_drop, show o + (i - o) = i by omega]
  exact h1
 ·exact h.2 i c c' h1 h2
theorem SR.int {k : IntKind} {n : Int} {c : C} (h : SR (.v (.int k n)) c) : ∃ m, c = .v (.int k m) := by
 cases h with
 | same => exact ⟨_, rfl⟩
 | i k n m => exact ⟨_, rfl⟩
theorem SR.row {α : Type} {size : Nat} {R : RT α} {U : Mem} {c c' : C} {l : List α} (h : SR c c') (hc : CZ size R U c l) : ∃ l' : List α, CZ size R U c' l' := by
 cases h with
 | same => exact ⟨l, hc⟩
 | sl => exact ⟨[], .nil⟩
 | em => exact ⟨[], .nil⟩
 | i => cases hc
 | b => cases hc
 | s => cases hc
theorem SR.refl_row {α : Type} {size : Nat} {R : RT α} {U : Mem} {c : C} {l : List α} (hc : CZ size R U c l) : SR c (.v (.slice none 0 0)) := by
 cases hc with
 | nil => exact .same _
 | em => exact .em
 | sl b o n k full l hl hm hz hk hf h => exact .sl ..
def KR (k0 k : Blk) : Prop := ∃ ty cs0 cs, k0 = .cells ty cs0 ∧ k = .cells ty cs ∧ SRL cs0 cs
structure GS (U : Mem) (G : List HA) : Prop where
 k : ∀ b k0 cs0, U b k0 → k0.cs = some cs0 → ∃ k, HA.blk b k ∈ G ∧ KR k0 k
 f : ∀ b k k', U b k → U b k' → k = k'
theorem rep1_of {a a' : HA} : ∀ {l : List HA}, a ∈ l → ∃ l', Rep1 l a a' l'
 | x :: l, h => by
  rcases List.mem_cons.1 h with rfl | h
  ·exact ⟨_, rep0⟩
  ·obtain ⟨l', h'⟩ := rep1_of (a' := a') h
   exact ⟨_, repS h'⟩
section
variable {call : Call'} {B : Base} {fs : Sf} {l : List I} {Q : Sf → Prop} {d : Nat} {U : Mem} {G pre : List HA}
theorem fl_ldG {agg : Bool} {size : Nat} {x : Od} {b p off : Nat} {cs : List C} (hH : ∀ a, a ∈ G → a ∈ fs.H) (hG : GS U G) (hx : fs.ev x = .c (.ptr b (p + off))) (ha : At U b p cs) (hl : off + size ≤ cs.length)
  (hw : ∀ ws, SRL ((cs.drop off).take size) ws → FL call B l (fs.put d (mkAV agg ws)) Q) : FL call B (⟨some d, none, .load agg size x⟩ :: l) fs Q := by
 obtain ⟨k0, full, h1, h2, h3, h4⟩ := ha
 obtain ⟨k, hk, ty, cs0, cs1, rfl, rfl, hs⟩ := hG.k b k0 full h1 h2
 injection h2 with h2
 subst h2
 refine fl_ld hx (hH _ hk) (by rw [hs.1]; omega) rfl (hw _ ?_)
 have e : ((cs.drop off).take size) = ((cs0.drop (p + off)).take size) := by
  rw [← h4, List.drop_take, List.take_take, List.drop_drop]
  congr 1
  omega
 rw [e]
 exact hs.sub _ _
theorem fl_stG1 {size : Nat} {x y : Od} {b p off : Nat} {cs ds : List C} {v : AV} {h1 : HA} (hH : fs.H = h1 :: G) (hG : GS U G) (hx : fs.ev x = .c (.ptr b (p + off))) (hy : fs.ev y = v) (hv : v.cells? = some ds) (ha : At U b p cs) (hl : off + size ≤ cs.length) (hs : SRL ((cs.drop off).take size) ds)
  (hw : ∀ G', GS U G' → FL call B l (fs.heap (h1 :: G')) Q) : FL call B (⟨none, none, .store size x y⟩ :: l) fs Q := by
 obtain ⟨k0, full, g1, g2, g3, g4⟩ := ha
 obtain ⟨k, hk, ty, cs0, cs1, rfl, rfl, hs1⟩ := hG.k b k0 full g1 g2
 injection g2 with g2
 subst g2
 have hds : ds.length = size := by rw [hs.1, List.length_take, List.length_drop]; omega
 obtain ⟨G', hr⟩ := rep1_of (a' := .blk b (.cells ty (setL cs1 (p + off) ds))) hk
 have hlen : p + off + ds.length ≤ cs0.length := by omega
 have e : ((cs.drop off).take size) = ((cs0.drop (p + off)).take ds.length) := by
  rw [← g4, List.drop_take, List.take_take, List.drop_drop, hds]
  congr 1
  omega
 refine fl_st hx hy hv (by rw [hH]; exact repS hr) hds (by rw [hs1.1]; omega) (hw G' ⟨fun b' k0' cs0' u1 u2 => ?_, hG.f⟩)
 obtain ⟨pp, qq, e1, e2⟩ := hr.split
 by_cases hb : b' = b
 ·subst hb
  have := hG.f _ _ _ g1 u1
  subst this
  exact ⟨_, by rw [e2]; simp, ty, cs0, _, rfl, rfl, hs1.set hlen (by rw [← e]; exact hs)⟩
 ·obtain ⟨k, hk', hkr⟩ := hG.k b' k0' cs0' u1 u2
  refine ⟨k, ?_, hkr⟩
  rw [e1] at hk'
  rw [e2]
  simp only [List.mem_append, List.mem_cons] at hk' ⊢
  rcases hk' with hk' | hk' | hk'
  ·exact .inl hk'
  ·injection hk' with hk'; exact absurd hk' hb
  ·exact .inr (.inr hk')
theorem fl_stG2 {size : Nat} {x y : Od} {b p off : Nat} {cs ds : List C} {v : AV} {h1 h2 : HA} (hH : fs.H = h1 :: h2 :: G) (hG : GS U G) (hx : fs.ev x = .c (.ptr b (p + off))) (hy : fs.ev y = v) (hv : v.cells? = some ds) (ha : At U b p cs) (hl : off + size ≤ cs.length) (hs : SRL ((cs.drop off).take size) ds)
  (hw : ∀ G', GS U G' → FL call B l (fs.heap (h1 :: h2 :: G')) Q) : FL call B (⟨none, none, .store size x y⟩ :: l) fs Q := by
 obtain ⟨k0, full, g1, g2, g3, g4⟩ := ha
 obtain ⟨k, hk, ty, cs0, cs1, rfl, rfl, hs1⟩ := hG.k b k0 full g1 g2
 injection g2 with g2
 subst g2
 have hds : ds.length = size := by rw [hs.1, List.length_take, List.length_drop]; omega
 obtain ⟨G', hr⟩ := rep1_of (a' := .blk b (.cells ty (setL cs1 (p + off) ds))) hk
 have hlen : p + off + ds.length ≤ cs0.length := by omega
 have e : ((cs.drop off).take size) = ((cs0.drop (p + off)).take ds.length) := by
  rw [← g4, List.drop_take, List.take_take, List.drop_drop, hds]
  congr 1
  omega
 refine fl_st hx hy hv (by rw [hH]; exact repS (repS hr)) hds (by rw [hs1.1]; omega) (hw G' ⟨fun b' k0' cs0' u1 u2 => ?_, hG.f⟩)
 obtain ⟨pp, qq, e1, e2⟩ := hr.split
 by_cases hb : b' = b
 ·subst hb
  have := hG.f _ _ _ g1 u1
  subst this
  exact ⟨_, by rw [e2]; simp, ty, cs0, _, rfl, rfl, hs1.set hlen (by rw [← e]; exact hs)⟩
 ·obtain ⟨k, hk', hkr⟩ := hG.k b' k0' cs0' u1 u2
  refine ⟨k, ?_, hkr⟩
  rw [e1] at hk'
  rw [e2]
  simp only [List.mem_append, List.mem_cons] at hk' ⊢
  rcases hk' with hk' | hk' | hk'
  ·exact .inl hk'
  ·injection hk' with hk'; exact absurd hk' hb
  ·exact .inr (.inr hk')
theorem fps_perm {H H' : List HA} (h : H.Perm H') : (fps H).Perm (fps H') := by
 induction h with
 | nil => exact .refl _
 | cons a _ ih => rw [fps_cons, fps_cons]; exact ih.append_left _
 | swap a b l => rw [fps_cons, fps_cons, fps_cons, fps_cons, ← List.append_assoc, ← List.append_assoc]; exact List.perm_append_comm.append_right _
 | trans _ _ h1 h2 => exact h1.trans h2
theorem fl_perm {H' : List HA} (hp : fs.H.Perm H') (hw : FL call B l (fs.heap H') Q) : FL call B l fs Q := fun st r => by
 have hf := fps_perm hp
 refine hw st ⟨r.env, ⟨fun b k hb => ?_, fun a ha => r.hold.h a (hp.mem_iff.2 ha), fun b hb => r.hold.lt b (hf.mem_iff.2 hb), hf.nodup r.hold.nd⟩, r.le, r.old, fun b hb => r.own b (hf.mem_iff.2 hb), r.zle, r.zin⟩
 obtain ⟨h1, h2, h3⟩ := r.hold.z b k hb
 exact ⟨h1, h2, fun h => h3 (hf.mem_iff.2 h)⟩
theorem fl_swap1 {x : HA} (e : fs.H = x :: G) (hw : FL call B l (fs.heap (G ++ [x])) Q) : FL call B l fs Q := fl_perm (by rw [e]; exact List.perm_append_comm (l₁ := [x])) hw
theorem fl_swap2 {x : HA} (e : fs.H = G ++ [x]) (hw : FL call B l (fs.heap (x :: G)) Q) : FL call B l fs Q := fl_perm (by rw [e]; exact List.perm_append_comm) hw
end
theorem FC.lent {call : Call'} {f : Nat} {args : List AV} {z : Mem} {G : List HA} {Post : AV → Mem → Prop} (h : FC call f args (tz z G) Post) (hG : ∀ a, a ∈ G → ∃ b k, a = .blk b k) :
    FCt call f args z G fun v z' H' => H' = G ∧ ∃ z1, Post v z1 ∧ zle (zd (tz z G) z1) z' := fun mem nx hh => by
  have hfp : ∀ b, b ∈ fps G ↔ ∃ k, HA.blk b k ∈ G := fun b => by
    constructor
    · intro hb
      obtain ⟨a, ha, hb⟩ := mem_fps.1 hb
      obtain ⟨b', k, rfl⟩ := hG a ha
      simp [HA.fp] at hb
      subst hb
      exact ⟨k, ha⟩
    · rintro ⟨k, hk⟩
      exact mem_fps.2 ⟨_, hk, by simp [HA.fp]⟩
  obtain ⟨v, mem', nx', z1, H', h1, h2, h3, h4, h5, h6, h7, e, hp⟩ := h mem nx ⟨fun b k hb => by
    rcases hb with hb | hb
    · obtain ⟨g1, g2, _⟩ := hh.z b k hb
      exact ⟨g1, g2, by simp [fps]⟩
    · exact ⟨hh.h _ hb, hh.lt b ((hfp b).2 ⟨k, hb⟩), by simp [fps]⟩, fun a ha => by simp at ha, fun b hb => by simp [fps] at hb, by simp [fps]⟩
  subst e
  refine ⟨v, mem', nx', fun b k => z1 b k ∧ b ∉ fps G, G, h1, h2, fun b hb hn => h3 b hb (by simp [fps]), ⟨fun b k hb => ?_, fun a ha => ?_, fun b hb => Nat.lt_of_lt_of_le (hh.lt b hb) h2, hh.nd⟩, fun b k hb => ⟨h5 b k (.inl hb), (hh.z b k hb).2.2⟩, fun b k hb => ?_, fun b hb => .inr hb, rfl, z1, hp, fun b k hb => ⟨hb.1, fun hn => ?_⟩⟩
  · obtain ⟨g1, g2, _⟩ := h4.z b k hb.1
    exact ⟨g1, g2, hb.2⟩
  · obtain ⟨b, k, rfl⟩ := hG a ha
    show mem'.get b = some k
    rw [h3 b (hh.lt b ((hfp b).2 ⟨k, ha⟩)) (by simp [fps])]
    exact hh.h _ ha
  · rcases h6 b k hb.1 with (g | g) | g | g
    · exact .inl g
    · exact .inr (.inr ((hfp b).2 ⟨k, g⟩))
    · exact .inr (.inl g)
    · simp [fps] at g
  · obtain ⟨k', hk⟩ := (hfp b).1 hn
    exact hb.2.1 k' (.inr hk)
theorem FCt.frame {call : Call'} {f : Nat} {args : List AV} {z : Mem} {G : List HA} (h : FCt call f args (fun _ _ => False) G fun _ _ H' => H' = []) : FCt call f args z G fun _ z' H' => z' = z ∧ H' = [] := fun mem nx hh => by
 obtain ⟨v, mem', nx', z1, H', h1, h2, h3, h4, h5, h6, h7, e⟩ := h mem nx ⟨fun b k hb => hb.elim, hh.h, hh.lt, hh.nd⟩
 subst e
 refine ⟨v, mem', nx', z, [], h1, h2, h3, ⟨fun b k hb => ?_, fun a ha => by simp at ha, fun b hb => by simp [fps] at hb, by simp [fps]⟩, zle.refl _, fun b k hb => .inl hb, fun b hb => by simp [fps] at hb, rfl, rfl⟩
 obtain ⟨g1, g2, g3⟩ := hh.z b k hb
 exact ⟨by rw [h3 b g2 g3]; exact g1, Nat.lt_of_lt_of_le g2 h2, by simp [fps]⟩
open Go.RowKit
open Go.ChangeShapes Go.WideShapes
inductive Tt where
 | v (x : Value)
 | sl (size : Nat) (es : List (List Tt))
inductive TT where
 | b
 | i (k : IntKind)
 | s
 | sl (size : Nat) (es : List TT)
def TT.fields (P : Program) (g : TypeId → Option (List TT)) : Nat → List Field → Option (List TT)
 | _, [] => some []
 | off, f :: r => match g f.type with
  | some sh => if f.offset = off ∧ sh.length = P.cellsOf f.type then (TT.fields P g (off + sh.length) r).map (sh ++ ·) else none
  | none => none
def TT.of (P : Program) : Nat → TypeId → Option (List TT)
 | 0, _ => none
 | n + 1, t => match P.underlying t with
  | some .bool => some [.b]
  | some (.int k) => some [.i k]
  | some .string => some [.s]
  | some (.slice e) => match TT.of P n e with
   | some sh => if 0 < P.cellsOf e ∧ sh.length = P.cellsOf e then some [.sl (P.cellsOf e) sh] else none
   | none => none
  | some (.struct fs) => match TT.fields P (TT.of P n) 0 fs.toList with
   | some sh => if sh.length = P.cellsOf t then some sh else none
   | none => none
  | _ => none
inductive TOk : TT → Tt → Prop where
 | b (x : Bool) : TOk .b (.v (.bool x))
 | i (k : IntKind) (n : Int) (h : (Lit.int k n).wf = true) : TOk (.i k) (.v (.int k n))
 | s (x : ByteArray) (h : x.size ≤ maxLen) : TOk .s (.v (.string x))
 | sl (size : Nat) (sh : List TT) (es : List (List Tt)) (hm : es.length ≤ maxLen) (hl : ∀ e, e ∈ es → e.length = sh.length)
   (h : ∀ (e : List Tt) (i : Nat) (a : TT) (u : Tt), e ∈ es → sh[i]? = some a → e[i]? = some u → TOk a u) : TOk (.sl size sh) (.sl size es)
inductive TN (S : Nat → Prop) (w : World) : Tt → Value → Prop where
 | v (x : Value) (h1 : x.oneCell' = true) : TN S w (.v x) x
 | nil (size : Nat) : TN S w (.sl size []) (.slice none 0 0)
 | sl (size : Nat) (es : List (List Tt)) (A : Addr) (cap : Nat) (f : Nat → Nat → Value) (hc : es.length ≤ cap) (hm : cap ≤ maxLen) (hz : ∀ e, e ∈ es → e.length = size)
   (hA : es = [] ∨ ∃ b o, A = ⟨b, o, none⟩ ∧ S b ∧ ∀ k i, k < es.length → i < size → w.cell? ⟨b, o + (k * size + i), none⟩ = some (f k i))
   (hf : ∀ (k i : Nat) (e : List Tt) (t : Tt), es[k]? = some e → e[i]? = some t → TN S w t (f k i)) : TN S w (.sl size es) (.slice (some A) es.length cap)
def All3 (R : TT → Tt → Value → Prop) : List TT → List Tt → List Value → Prop
 | [], [], [] => True
 | a :: as, b :: bs, c :: cs => R a b c ∧ All3 R as bs cs
 | _, _, _ => False
theorem All3.append {R : TT → Tt → Value → Prop} : ∀ {as : List TT} {bs : List Tt} {cs : List Value} {as' : List TT} {bs' : List Tt} {cs' : List Value}, All3 R as bs cs → All3 R as' bs' cs' → All3 R (as ++ as') (bs ++ bs') (cs ++ cs')
 | [], [], [], _, _, _, _, h => h
 | a :: as, b :: bs, c :: cs, _, _, _, h, h' => ⟨h.1, All3.append h.2 h'⟩
 | [], _ :: _, _, _, _, _, h, _ => by simp [All3] at h
 | [], [], _ :: _, _, _, _, h, _ => by simp [All3] at h
 | _ :: _, [], _, _, _, _, h, _ => by simp [All3] at h
 | _ :: _, _ :: _, [], _, _, _, h, _ => by simp [All3] at h
theorem All3.len {R : TT → Tt → Value → Prop} : ∀ {as : List TT} {bs : List Tt} {cs : List Value}, All3 R as bs cs → bs.length = as.length ∧ cs.length = as.length
 | [], [], [], _ => ⟨rfl, rfl⟩
 | a :: as, b :: bs, c :: cs, h => by have := All3.len h.2; simp [this.1, this.2]
 | [], _ :: _, _, h => by simp [All3] at h
 | [], [], _ :: _, h => by simp [All3] at h
 | _ :: _, [], _, h => by simp [All3] at h
 | _ :: _, _ :: _, [], h => by simp [All3] at h
theorem All3.get {R : TT → Tt → Value → Prop} : ∀ {as : List TT} {bs : List Tt} {cs : List Value}, All3 R as bs cs → ∀ {i : Nat} {a : TT} {b : Tt}, as[i]? = some a → bs[i]? = some b → ∃ c, cs[i]? = some c ∧ R a b c
 | [], [], [], _, i, a, b, h1, _ => by simp at h1
 | a :: as, b :: bs, c :: cs, h, i, a', b', h1, h2 => by
  cases i with
  | zero =>
   simp at h1 h2
   subst h1; subst h2
   exact ⟨c, by simp, h.1⟩
  | succ i =>
   simp at h1 h2
   obtain ⟨c', h3, h4⟩ := All3.get h.2 h1 h2
   exact ⟨c', by simpa using h3, h4⟩
 | [], _ :: _, _, h, _, _, _, _, _ => by simp [All3] at h
 | [], [], _ :: _, h, _, _, _, _, _ => by simp [All3] at h
 | _ :: _, [], _, h, _, _, _, _, _ => by simp [All3] at h
 | _ :: _, _ :: _, [], h, _, _, _, _, _ => by simp [All3] at h
section
variable {H : Type} {enc : TypeId × Value → H} {P : Program} {w : World} {base : Nat} {sp : Nat → Bool} {held : Bool}
theorem cells?_get {a : Addr} {n : Nat} {cs : List Value} (h : w.cells? base a n = some cs) : cs.length = n ∧ ∀ i, i < n → w.cell? (a.add i) = cs[i]? := by
  unfold World.cells? at h
  split at h
  · refine ⟨by simpa using mapM_some_length h, fun i hi => ?_⟩
    exact mapM_some_get h i i (by simp [hi])
  · cases h
theorem cell_plain {a : Addr} {v : Value} (h : w.cell? a = some v) : a.spot = none ∧ a.block < w.heap.size := by
 unfold World.cell? at h
 split at h
 ·rename_i c x y hb
  split at h
  ·cases h
  ·rename_i hs
   refine ⟨by simpa using hs, ?_⟩
   exact (Array.getElem?_eq_some_iff.1 hb).1
 ·cases h
abbrev TRd (w : World) : TT → Tt → Value → Prop := fun a u v => TOk a u ∧ TN (fun b => b < w.heap.size) w u v
theorem trod_fields {g : TypeId → Option (List TT)} {fuel : Nat}
  (hg : ∀ {t : TypeId} {sh : List TT} {cs : List Value} {x : DataW H × List MemPlace}, g t = some sh → DataW.trod enc P w base sp held fuel t cs = some x → ∃ us, All3 (TRd w) sh us cs) :
  ∀ (fs : List Field) (off : Nat) (sh : List TT) (cs : List Value), TT.fields P g off fs = some sh → off + sh.length = cs.length →
   (∀ f, f ∈ fs → ∃ x, DataW.trod enc P w base sp held fuel f.type ((cs.drop f.offset).take (P.cellsOf f.type)) = some x) → ∃ us, All3 (TRd w) sh us (cs.drop off)
 | [], off, sh, cs, h, hl, _ => by
  simp [TT.fields] at h
  subst h
  refine ⟨[], ?_⟩
  rw [List.drop_eq_nil_of_le (by simp at hl; omega)]
  trivial
 | f :: r, off, sh, cs, h, hl, hx => by
  unfold TT.fields at h
  cases hgf : g f.type with
  | none => rw [hgf] at h; cases h
  | some s1 =>
   rw [hgf] at h
   simp only at h
   split at h
   case isFalse => cases h
   rename_i hc
   obtain ⟨hoff, hsz⟩ := hc
   cases hr : TT.fields P g (off + s1.length) r with
   | none => rw [hr] at h; cases h
   | some s2 =>
    rw [hr] at h
    simp at h
    subst h
    rw [List.length_append] at hl
    obtain ⟨us2, h2⟩ := trod_fields hg r (off + s1.length) s2 cs hr (by omega) fun f hf => hx f (by simp [hf])
    obtain ⟨x, hxx⟩ := hx f (by simp)
    obtain ⟨us1, h1⟩ := hg hgf hxx
    refine ⟨us1 ++ us2, ?_⟩
    have e : cs.drop off = (cs.drop f.offset).take (P.cellsOf f.type) ++ cs.drop (off + s1.length) := by
     rw [hoff, ← hsz, ← List.drop_drop, List.take_append_drop]
    rw [e]
    exact h1.append h2
theorem trod_tree : ∀ (n fuel : Nat) {t : TypeId} {sh : List TT} {cs : List Value} {x : DataW H × List MemPlace}, TT.of P n t = some sh → DataW.trod enc P w base sp held fuel t cs = some x → ∃ us, All3 (TRd w) sh us cs
 | 0, _, _, _, _, _, h, _ => by simp [TT.of] at h
 | n + 1, fuel, t, sh, cs, x, h, hx => by
  unfold TT.of at h
  cases hu : P.underlying t with
  | none => rw [hu] at h; cases h
  | some d =>
   rw [hu] at h
   cases fuel with
   | zero => simp [DataW.trod] at hx
   | succ m =>
    cases d <;> simp only [reduceCtorEq] at h
    case bool =>
     injection h with h; subst h
     unfold DataW.trod at hx
     rw [hu] at hx
     split at hx <;> simp_all
     rename_i b
     exact ⟨[.v (.bool b)], ⟨.b b, .v _ rfl⟩, trivial⟩
    case int k =>
     injection h with h; subst h
     unfold DataW.trod at hx
     rw [hu] at hx
     split at hx <;> simp_all
     obtain ⟨⟨h1, h2⟩, _⟩ := hx
     exact ⟨[.v (.int _ _)], ⟨.i _ _ h2, .v _ rfl⟩, trivial⟩
    case string =>
     injection h with h; subst h
     unfold DataW.trod at hx
     rw [hu] at hx
     split at hx <;> simp_all
     exact ⟨[.v (.string _)], ⟨.s _ hx.1, .v _ rfl⟩, trivial⟩
    case slice e =>
     cases he : TT.of P n e with
     | none => rw [he] at h; cases h
     | some sh1 =>
      rw [he] at h
      simp only at h
      split at h
      case isFalse => cases h
      rename_i hc
      obtain ⟨hpos, hlen⟩ := hc
      injection h with h; subst h
      rcases DataW.trod_slice hu hx with ⟨hcs, _⟩ | ⟨a, len, cap, elems, rest, m', hm', hcs, _, _, hl, hcap, hel, hread, _⟩
      ·subst hcs
       refine ⟨[.sl (P.cellsOf e) []], ⟨.sl _ _ _ (by simp) (by simp) (by simp), ?_⟩, trivial⟩
       exact .nil _
      ·subst hcs
       have key : ∀ k, ∃ (cs' : List Value) (us : List Tt), k < len → w.cells? base (a.add (k * P.cellsOf e)) (P.cellsOf e) = some cs' ∧ All3 (TRd w) sh1 us cs' := by
        intro k
        by_cases hk : k < len
        ·have h1 := hread k hk
         have h2 : ∃ y, elems[k]? = some y := ⟨_, List.getElem?_eq_getElem (by omega)⟩
         obtain ⟨y, hy⟩ := h2
         rw [hy] at h1
         simp only [Option.bind_eq_some_iff] at h1
         obtain ⟨c1, hc1, hy1⟩ := h1
         obtain ⟨us, hus⟩ := trod_tree n m' he hy1
         exact ⟨c1, us, fun _ => ⟨hc1, hus⟩⟩
        ·exact ⟨[], [], fun h => absurd h hk⟩
       let ccs : Nat → List Value := fun k => Classical.choose (key k)
       let uss : Nat → List Tt := fun k => Classical.choose (Classical.choose_spec (key k))
       have hspec : ∀ k, k < len → w.cells? base (a.add (k * P.cellsOf e)) (P.cellsOf e) = some (ccs k) ∧ All3 (TRd w) sh1 (uss k) (ccs k) := fun k => Classical.choose_spec (Classical.choose_spec (key k))
       have hcell : ∀ k i, k < len → i < P.cellsOf e → w.cell? ((a.add (k * P.cellsOf e)).add i) = some ((ccs k).getD i undef) := by
        intro k i hk hi
        obtain ⟨h1, h2⟩ := cells?_get (hspec k hk).1
        rw [h2 i hi, List.getD_eq_getElem?_getD, List.getElem?_eq_getElem (by omega)]; rfl
       have hes : ((List.range len).map uss).length = len := by simp
       have hmem : ∀ e', e' ∈ (List.range len).map uss → ∃ k, k < len ∧ e' = uss k := by
        intro e' he'
        obtain ⟨k, hk, rfl⟩ := List.mem_map.1 he'
        exact ⟨k, by simpa using hk, rfl⟩
       have hspot : len = 0 ∨ a.spot = none ∧ a.block < w.heap.size := by
        by_cases h0 : len = 0
        ·exact .inl h0
        ·right
         have := hcell 0 0 (by omega) hpos
         have e0 : (a.add (0 * P.cellsOf e)).add 0 = a := by simp [Addr.add]
         rw [e0] at this
         exact cell_plain this
       have hT : TN (fun b => b < w.heap.size) w (.sl (P.cellsOf e) ((List.range len).map uss)) (.slice (some a) ((List.range len).map uss).length cap) := by
        refine .sl _ _ a cap (fun k i => (ccs k).getD i undef) (by rw [hes]; exact hl) hcap ?_ ?_ ?_
        ·intro e' he'
         obtain ⟨k, hk, rfl⟩ := hmem e' he'
         rw [(hspec k hk).2.len.1, hlen]
        ·rcases hspot with h0 | ⟨hs, hb⟩
         ·left; subst h0; rfl
         ·right
          refine ⟨a.block, a.off, by cases a; simp_all, hb, fun k i hk hi => ?_⟩
          rw [hes] at hk
          rw [← hcell k i hk hi]
          congr 1
          unfold Addr.add
          cases a
          simp only at hs
          subst hs
          by_cases e1 : k * P.cellsOf e = 0 <;> by_cases e2 : i = 0 <;> simp [e1, e2, Nat.add_assoc]
        ·intro k i e' u hk hi
         have hkl : k < len := by
          have := (List.getElem?_eq_some_iff.1 hk).1
          simpa using this
         rw [List.getElem?_map, List.getElem?_range hkl] at hk
         injection hk with hk
         subst hk
         have hA := (hspec k hkl).2
         have hil : i < sh1.length := by rw [← hA.len.1]; exact (List.getElem?_eq_some_iff.1 hi).1
         obtain ⟨c, hc1, hc2⟩ := hA.get (List.getElem?_eq_getElem hil) hi
         have : (ccs k).getD i undef = c := by rw [List.getD_eq_getElem?_getD, hc1]; rfl
         rw [this]
         exact hc2.2
       rw [hes] at hT
       refine ⟨[.sl (P.cellsOf e) ((List.range len).map uss)], ⟨.sl _ _ _ (by rw [hes]; omega) ?_ ?_, hT⟩, trivial⟩
       ·intro e' he'
        obtain ⟨k, hk, rfl⟩ := hmem e' he'
        exact (hspec k hk).2.len.1
       ·intro e' i a' u he' h1 h2
        obtain ⟨k, hk, rfl⟩ := hmem e' he'
        obtain ⟨c, hc1, hc2⟩ := (hspec k hk).2.get h1 h2
        exact hc2.1
    case struct fs =>
     cases hf : TT.fields P (TT.of P n) 0 fs.toList with
     | none => rw [hf] at h; cases h
     | some s1 =>
      rw [hf] at h
      simp only at h
      split at h
      case isFalse => cases h
      rename_i hc
      injection h with h; subst h
      obtain ⟨xs, m', hm', _, hcl, hxl, hget⟩ := DataW.trod_struct hu hx
      have := trod_fields (enc := enc) (P := P) (w := w) (base := base) (sp := sp) (held := held) (g := TT.of P n) (fuel := m') (fun h1 h2 => trod_tree n m' h1 h2) fs.toList 0 s1 cs hf (by omega) fun f hfm => by
       obtain ⟨i, hi, he⟩ := List.getElem_of_mem hfm
       have h1 := hget i f (by rw [← he]; simp)
       rw [List.getElem?_eq_getElem (by rw [hxl]; simpa using hi)] at h1
       exact ⟨_, h1⟩
      simpa using this
end
inductive TZ (z : Mem) : Tt → C → Prop where
 | v (x : Value) (h : x.oneCell' = true) : TZ z (.v x) (.v x)
 | nil (size : Nat) : TZ z (.sl size []) (.v (.slice none 0 0))
 | em (size : Nat) : TZ z (.sl size []) .em
 | sl (size : Nat) (es : List (List Tt)) (b : Nat) (cs : List C) (g : Nat → Nat → C) (hb : z b (.ro cs)) (hm : es.length ≤ maxLen) (hl : cs.length = es.length * size) (he : ∀ e, e ∈ es → e.length = size)
   (hc : ∀ k i, k < es.length → i < size → cs[k * size + i]? = some (g k i)) (hf : ∀ (k i : Nat) (e : List Tt) (u : Tt), es[k]? = some e → e[i]? = some u → TZ z u (g k i)) : TZ z (.sl size es) (.sl b 0 es.length size)
theorem TZ.mono {z z' : Mem} (hz : zle z z') {u : Tt} {c : C} (h : TZ z u c) : TZ z' u c := by
 induction h with
 | v x h => exact .v x h
 | nil s => exact .nil s
 | em s => exact .em s
 | sl size es b cs g hb hm hl he hc hf ih => exact .sl size es b cs g (hz _ _ hb) hm hl he hc ih
structure En (K : Nat → Prop) (w : World) (t : Tr Blk) (ρ : Plan) (nx : Nat) : Prop where
 sat : MSat K w ρ t.m w
 free : ∀ b, nx ≤ b → ρ b = none
 lt : ∀ b k, t.get b = some k → b < nx
abbrev EnQ (K : Nat → Prop) (w : World) (t : Tr Blk) (ρ : Plan) (nx : Nat) (Q : Tr Blk → Plan → Prop) : Prop := ∃ t' ρ' nx', En K w t' ρ' nx' ∧ ρ.le ρ' ∧ nx ≤ nx' ∧ zle t.m t'.m ∧ Q t' ρ'
section
variable {K : Nat → Prop} {w : World}
theorem MSat.ro {ρ : Plan} {m m' : Mem} {nx : Nat} (h : MSat K w ρ m w) (hn : ρ nx = none) {cs : List C} {la : Pl} (hk : BlkRep (upd ρ nx la) w la (.ro cs)) (hK : K la.b)
  (hm' : ∀ b k', m' b k' → (b = nx ∧ k' = .ro cs) ∨ (b ≠ nx ∧ m b k')) : MSat K w (upd ρ nx la) m' w := by
 have hle := (grown_upd hn la).le
 refine ⟨fun b k hb => ?_, fun b k l hb hl => ?_, fun b b' k1 k2 l l' h1 h2 h3 h4 r1 r2 h5 => ?_, h.kept, h.fr⟩
 ·rcases hm' b k hb with ⟨rfl, rfl⟩ | ⟨hne, hm⟩
  ·exact ⟨la, upd_same _ _ _, hk⟩
  ·obtain ⟨l, h1, h2⟩ := h.blk b k hm
   exact ⟨l, hle _ _ h1, h2.mono hle rfl⟩
 ·rcases hm' b k hb with ⟨rfl, rfl⟩ | ⟨hne, hm⟩
  ·rw [upd_same] at hl; injection hl with hl; subst hl
   exact ⟨fun hr => (by cases hr), fun _ => hK, h.kept _ hK⟩
  ·rw [upd_other _ _ _ _ hne] at hl
   exact h.own b k l hm hl
 ·rcases hm' b k1 h1 with ⟨rfl, rfl⟩ | ⟨hne, hm⟩
  ·cases r1
  ·rcases hm' b' k2 h2 with ⟨rfl, rfl⟩ | ⟨hne', hm2⟩
   ·cases r2
   ·rw [upd_other _ _ _ _ hne] at h3
    rw [upd_other _ _ _ _ hne'] at h4
    exact h.inj b b' k1 k2 l l' hm hm2 h3 h4 r1 r2 h5
theorem En.ro {t : Tr Blk} {ρ : Plan} {nx : Nat} (h : En K w t ρ nx) {cs : List C} {la : Pl} (hk : BlkRep (upd ρ nx la) w la (.ro cs)) (hK : K la.b) : En K w (Tr.put (nx + 1) t nx (some (.ro cs))) (upd ρ nx la) (nx + 1) := by
 have hg : ∀ b, (Tr.put (nx + 1) t nx (some (Blk.ro cs))).get b = if nx = b then some (.ro cs) else t.get b := fun b => by rw [Tr.get_put _ _ _ _ _ (by omega)]
 refine ⟨h.sat.ro (h.free nx (Nat.le_refl _)) hk hK fun b k' hb => ?_, fun b hb => ?_, fun b k hb => ?_⟩
 ·have hb : (Tr.put (nx + 1) t nx (some (Blk.ro cs))).get b = some k' := hb
  rw [hg] at hb
  split at hb
  ·rename_i e; injection hb with hb; exact .inl ⟨e.symm, hb.symm⟩
  ·rename_i e; exact .inr ⟨fun e' => e e'.symm, hb⟩
 ·rw [upd_other _ _ _ _ (by omega)]; exact h.free b (by omega)
 ·rw [hg] at hb
  split at hb
  ·omega
  ·have := h.lt b k hb; omega
def EnP (K : Nat → Prop) (w : World) (u : Tt) (x : Value) : Prop := ∀ t ρ nx, En K w t ρ nx → ∃ c, EnQ K w t ρ nx fun t' ρ' => TZ t'.m u c ∧ CRep ρ' c x
theorem en_list : ∀ (l : List (Tt × Value)), (∀ p, p ∈ l → EnP K w p.1 p.2) → ∀ t ρ nx, En K w t ρ nx → ∃ cs : List C, EnQ K w t ρ nx fun t' ρ' => cs.length = l.length ∧ ∀ (i : Nat) (p : Tt × Value), l[i]? = some p → ∃ c, cs[i]? = some c ∧ TZ t'.m p.1 c ∧ CRep ρ' c p.2 := by
 intro l
 induction l with
 | nil => intro _ t ρ nx h; exact ⟨[], t, ρ, nx, h, Plan.le_refl _, Nat.le_refl _, zle.refl _, rfl, fun i p hp => by simp at hp⟩
 | cons p l ih =>
  intro hp t ρ nx h
  obtain ⟨c, t1, ρ1, n1, g1, g2, g3, g4, g5, g6⟩ := hp p (List.mem_cons_self ..) t ρ nx h
  obtain ⟨cs, t2, ρ2, n2, k1, k2, k3, k4, k5, k6⟩ := ih (fun q hq => hp q (List.mem_cons_of_mem _ hq)) t1 ρ1 n1 g1
  refine ⟨c :: cs, t2, ρ2, n2, k1, Plan.le_trans g2 k2, Nat.le_trans g3 k3, g4.trans k4, by simp [k5], fun i q hq => ?_⟩
  cases i with
  | zero =>
   simp at hq
   subst hq
   exact ⟨c, rfl, g5.mono k4, g6.mono k2⟩
  | succ i => exact k6 i q (by simpa using hq)
theorem en_tree {u : Tt} {x : Value} (h : TN K w u x) : EnP K w u x := by
  induction h with
  | v x h1 => exact fun t ρ nx h => ⟨.v x, t, ρ, nx, h, Plan.le_refl _, Nat.le_refl _, zle.refl _, .v x h1, .v x h1⟩
  | nil size => exact fun t ρ nx h => ⟨.v (.slice none 0 0), t, ρ, nx, h, Plan.le_refl _, Nat.le_refl _, zle.refl _, .nil size, .v _ rfl⟩
  | sl size es A cap f hc hm hz hA hf ih =>
    intro t ρ nx h
    rcases hA with rfl | ⟨b, o, rfl, hK, hcell⟩
    · exact ⟨.em, t, ρ, nx, h, Plan.le_refl _, Nat.le_refl _, zle.refl _, .em size, .em A cap⟩
    · let l : List (Tt × Value) := (List.range (es.length * size)).map fun j => (((es[j / size]?.getD [])[j % size]?).getD (.v undef), f (j / size) (j % size))
      have hll : l.length = es.length * size := by simp [l]
      have hdiv : ∀ j, j < es.length * size → j / size < es.length ∧ j % size < size := fun j hj => by
        have h0 : 0 < size := by
          rcases Nat.eq_zero_or_pos size with h0 | h0
          · subst h0; simp at hj
          · exact h0
        exact ⟨(Nat.div_lt_iff_lt_mul h0).2 hj, Nat.mod_lt _ h0⟩
      have hel : ∀ j, j < es.length * size → ∃ e u, es[j / size]? = some e ∧ e[j % size]? = some u ∧ l[j]? = some (u, f (j / size) (j % size)) := fun j hj => by
        obtain ⟨h1, h2⟩ := hdiv j hj
        have e1 := List.getElem?_eq_getElem h1
        have h3 : (es[j / size]).length = size := hz _ (List.getElem_mem h1)
        have e2 : (es[j / size])[j % size]? = some ((es[j / size])[j % size]'(by omega)) := List.getElem?_eq_getElem (by omega)
        refine ⟨_, _, e1, e2, ?_⟩
        simp only [l]
        rw [List.getElem?_map, List.getElem?_range hj]
        simp [e1, e2]
      obtain ⟨cs, t1, ρ1, n1, g1, g2, g3, g4, g5, g6⟩ := en_list l (fun p hp => by
        obtain ⟨j, hj⟩ := List.mem_iff_getElem?.1 hp
        have hjl : j < es.length * size := by rw [← hll]; exact (List.getElem?_eq_some_iff.1 hj).1
        obtain ⟨e, u, e1, e2, e3⟩ := hel j hjl
        rw [e3] at hj; injection hj with hj; subst hj
        exact ih _ _ e u e1 e2) t ρ nx h
      rw [hll] at g5
      have hidx : ∀ k i, k < es.length → i < size → k * size + i < es.length * size ∧ (k * size + i) / size = k ∧ (k * size + i) % size = i := fun k i hk hi => by
        have h0 : 0 < size := by omega
        refine ⟨?_, ?_, ?_⟩
        · calc k * size + i < k * size + size := by omega
            _ = (k + 1) * size := by rw [Nat.add_mul, Nat.one_mul]
            _ ≤ es.length * size := Nat.mul_le_mul_right _ hk
        · rw [Nat.mul_comm, Nat.mul_add_div h0, Nat.div_eq_of_lt hi, Nat.add_zero]
        · rw [Nat.mul_comm, Nat.mul_add_mod, Nat.mod_eq_of_lt hi]
      let la : Pl := ⟨b, o, o + cap * size⟩
      have hn := g1.free n1 (Nat.le_refl _)
      have hle := (grown_upd hn la).le
      have hzle : zle t1.m (Tr.put (n1 + 1) t1 n1 (some (Blk.ro cs))).m := fun b' k hb => by
        have := g1.lt b' k hb
        show (Tr.put (n1 + 1) t1 n1 (some (Blk.ro cs))).get b' = some k
        rw [Tr.get_put _ _ _ _ _ (by omega), if_neg (by omega)]
        exact hb
      refine ⟨.sl n1 0 es.length size, _, _, _, g1.ro (cs := cs) (la := la) (.ro cs ?_ fun i c hi => ?_) hK, Plan.le_trans g2 hle, by omega, g4.trans hzle, .sl size es n1 cs (fun k i => cs.getD (k * size + i) .any) ?_ (by omega) g5 hz (fun k i hk hi => ?_) (fun k i e u he hu => ?_), ?_⟩
      · show o + cs.length ≤ o + cap * size
        rw [g5]
        exact Nat.add_le_add_left (Nat.mul_le_mul_right _ hc) _
      · have hi' : i < es.length * size := by rw [← g5]; exact (List.getElem?_eq_some_iff.1 hi).1
        obtain ⟨h1, h2⟩ := hdiv i hi'
        obtain ⟨e, u, e1, e2, e3⟩ := hel i hi'
        obtain ⟨c', k1, k2, k3⟩ := g6 i _ e3
        rw [k1] at hi; injection hi with hi; subst hi
        refine ⟨_, ?_, k3.mono hle⟩
        have := hcell (i / size) (i % size) h1 h2
        rw [Nat.div_add_mod'] at this
        exact this
      · show (Tr.put (n1 + 1) t1 n1 (some (Blk.ro cs))).get n1 = some (.ro cs)
        rw [Tr.get_put _ _ _ _ _ (by omega), if_pos rfl]
      · have := (hidx k i hk hi).1
        rw [List.getElem?_eq_getElem (by omega), List.getD_eq_getElem?_getD, List.getElem?_eq_getElem (by omega)]
        rfl
      · have hk : k < es.length := (List.getElem?_eq_some_iff.1 he).1
        have hi : i < size := by rw [← hz e (List.mem_of_getElem? he)]; exact (List.getElem?_eq_some_iff.1 hu).1
        obtain ⟨h1, h2, h3⟩ := hidx k i hk hi
        obtain ⟨e', u', e1, e2, e3⟩ := hel _ h1
        rw [h2] at e1; rw [h3] at e2
        rw [he] at e1; injection e1 with e1; subst e1
        rw [hu] at e2; injection e2 with e2; subst e2
        obtain ⟨c', k1, k2, k3⟩ := g6 _ _ e3
        have : cs.getD (k * size + i) C.any = c' := by rw [List.getD_eq_getElem?_getD, k1]; rfl
        simp only [this]
        exact k2.mono hzle
      · have := CRep.sl (ρ := upd ρ1 n1 la) n1 0 es.length size cap la (upd_same _ _ _) (by show o + 0 + cap * size ≤ o + cap * size; omega) hc hm
        simpa [la] using this
end
def TC (z : Mem) (a : TT) (c : C) : Prop := ∃ u, TOk a u ∧ TZ z u c
inductive TCs (z : Mem) : List TT → List C → Prop where
 | nil : TCs z [] []
 | cons {a : TT} {c : C} {as : List TT} {cs : List C} (h : TC z a c) (t : TCs z as cs) : TCs z (a :: as) (c :: cs)
theorem tcs_of {z : Mem} : ∀ {as : List TT} {cs : List C}, cs.length = as.length → (∀ (i : Nat) (a : TT) (c : C), as[i]? = some a → cs[i]? = some c → TC z a c) → TCs z as cs
 | [], [], _, _ => .nil
 | a :: as, c :: cs, hl, h => .cons (h 0 a c rfl rfl) (tcs_of (by simpa using hl) fun i a' c' h1 h2 => h (i + 1) a' c' (by simpa using h1) (by simpa using h2))
 | [], _ :: _, hl, _ => by simp at hl
 | _ :: _, [], hl, _ => by simp at hl
theorem TC.b {z : Mem} {c : C} (h : TC z .b c) : ∃ x : Bool, c = .v (.bool x) := by
 obtain ⟨u, h1, h2⟩ := h
 cases h1; cases h2; exact ⟨_, rfl⟩
theorem TC.s {z : Mem} {c : C} (h : TC z .s c) : ∃ x : ByteArray, c = .v (.string x) := by
 obtain ⟨u, h1, h2⟩ := h
 cases h1; cases h2; exact ⟨_, rfl⟩
theorem TC.i {z : Mem} {k : IntKind} {c : C} (h : TC z (.i k) c) : ∃ n : Int, c = .v (.int k n) := by
 obtain ⟨u, h1, h2⟩ := h
 cases h1; cases h2; exact ⟨_, rfl⟩
theorem TC.sl {z : Mem} {size : Nat} {sh : List TT} {c : C} {α : Type} {R : RT α} (hs : sh.length = size) (hR : ∀ cs, TCs z sh cs → ∃ a, R z cs a) (h : TC z (.sl size sh) c) : ∃ l : List α, CZ size R z c l := by
  obtain ⟨u, h1, h2⟩ := h
  cases h1 with
  | sl _ _ es hm hl hok =>
    cases h2 with
    | nil => exact ⟨[], .nil⟩
    | em => exact ⟨[], .em⟩
    | sl _ _ b cs g hb hm' hlen he hc hf =>
      have key : ∀ k : Fin es.length, ∃ a : α, R z ((cs.drop (0 + k.1 * size)).take size) a := fun ⟨k, hk⟩ => by
        have hkl : k * size + size ≤ es.length * size := by
          calc k * size + size = (k + 1) * size := by rw [Nat.add_mul, Nat.one_mul]
            _ ≤ es.length * size := Nat.mul_le_mul_right _ hk
        refine hR ((cs.drop (0 + k * size)).take size) (tcs_of (by rw [List.length_take, List.length_drop]; omega) fun i a' c' h1 h2 => ?_)
        have hi : i < size := by rw [← hs]; exact (List.getElem?_eq_some_iff.1 h1).1
        rw [List.getElem?_take, if_pos hi, List.getElem?_drop, Nat.zero_add, hc k i hk hi] at h2
        injection h2 with h2; subst h2
        have e1 := List.getElem?_eq_getElem hk
        have h3 : (es[k]).length = size := he _ (List.getElem_mem hk)
        have e2 : (es[k])[i]? = some ((es[k])[i]'(by omega)) := List.getElem?_eq_getElem (by omega)
        exact ⟨_, hok _ i a' _ (List.getElem_mem hk) h1 e2, hf k i _ _ e1 e2⟩
      refine ⟨List.ofFn fun k => Classical.choose (key k), .sl b 0 es.length _ cs _ (by simp) (by simp [maxLen] at hm'; omega) hb rfl (by omega) fun i a hi => ?_⟩
      rw [List.getElem?_ofFn] at hi
      split at hi
      · rename_i hil
        injection hi with hi; subst hi
        exact Classical.choose_spec (key ⟨i, hil⟩)
      · cases hi
theorem nil_m {b : Nat} {k : Blk} (h : (Tr.nil : Tr Blk).m b k) : False := by
 simp only [Tr.m, Tr.get_nil] at h
 cases h
theorem en_nil (W : World) : En (fun b => b < W.heap.size) W .nil (fun _ => none) 0 :=
 ⟨⟨fun b k h => (nil_m h).elim, fun b k la h => (nil_m h).elim, fun b b' k k' la la' h => (nil_m h).elim, fun b h => h, ⟨rfl, rfl, rfl, Nat.le_refl _, fun _ _ => rfl⟩⟩, fun _ _ => rfl, fun b k h => (nil_m h).elim⟩
theorem en_trees {K : Nat → Prop} {W : World} : ∀ {sh : List TT} {us : List Tt} {xs : List Value}, (∀ b, b < W.heap.size → K b) → All3 (TRd W) sh us xs → ∀ t ρ nx, En K W t ρ nx → (∀ b, K b ↔ b < W.heap.size) →
  ∃ cs : List C, EnQ K W t ρ nx fun t' ρ' => cs.length = xs.length ∧ TCs t'.m sh cs ∧ ∀ (i : Nat) (c : C), cs[i]? = some c → ∃ x, xs[i]? = some x ∧ CRep ρ' c x
 | [], [], [], _, _, t, ρ, nx, h, _ => ⟨[], t, ρ, nx, h, Plan.le_refl _, Nat.le_refl _, zle.refl _, rfl, .nil, fun i c hc => by simp at hc⟩
 | a :: as, u :: us, x :: xs, hK, h3, t, ρ, nx, h, hKK => by
  obtain ⟨⟨ha, hu⟩, h3⟩ := h3
  have e : (fun b => b < W.heap.size) = K := funext fun b => propext (hKK b).symm
  rw [e] at hu
  obtain ⟨c, t1, ρ1, n1, g1, g2, g3, g4, g5, g6⟩ := en_tree hu t ρ nx h
  obtain ⟨cs, t2, ρ2, n2, k1, k2, k3, k4, k5, k6, k7⟩ := en_trees hK h3 t1 ρ1 n1 g1 hKK
  refine ⟨c :: cs, t2, ρ2, n2, k1, Plan.le_trans g2 k2, Nat.le_trans g3 k3, g4.trans k4, by simp [k5], .cons ⟨u, ha, g5.mono k4⟩ k6, fun i c' hc => ?_⟩
  cases i with
  | zero => simp at hc; subst hc; exact ⟨x, rfl, g6.mono k2⟩
  | succ i => exact k7 i c' (by simpa using hc)
 | [], _ :: _, _, _, h, _, _, _, _, _ => by simp [All3] at h
 | [], [], _ :: _, _, h, _, _, _, _, _ => by simp [All3] at h
 | _ :: _, [], _, _, h, _, _, _, _, _ => by simp [All3] at h
 | _ :: _, _ :: _, [], _, h, _, _, _, _, _ => by simp [All3] at h
theorem agg_rep {ρ : Plan} {cs : List C} {xs : Array Value} (hl : cs.length = xs.toList.length) (h : ∀ (i : Nat) (c : C), cs[i]? = some c → ∃ x, xs.toList[i]? = some x ∧ CRep ρ c x) : AVRep (CRep ρ) (.agg cs) (.agg xs) := by
 refine .agg cs xs (by simpa using hl.symm) fun i c hc => ?_
 obtain ⟨x, h1, h2⟩ := h i c hc
 have : xs.getD i undef = x := by
  rw [Array.getD_eq_getD_getElem?, ← Array.getElem?_toList, h1]; rfl
 rw [this]; exact h2
theorem law_of {P : Program} {f : Nat} {call : Call'} (hc : CallSnd P call) (hcal : Go.Eng.callable P f = true) {W : World} {t : Tr Blk} {ρ : Plan} {nx : Nat} (hE : En (fun b => b < W.heap.size) W t ρ nx) {args : List AV}
  (hF : FC call f args t.m fun v _ => v = .c (.v (.bool true))) {vs : Array Value} (hs : vs.size = args.length) (hr : ∀ k v, args[k]? = some v → AVRep (CRep ρ) v (vs.getD k undef)) :
  Calls P f vs W fun e W' => e = .returned (.bool true) ∧ Below W.heap.size W W' := by
 obtain ⟨v, mem', nx', z', H', h1, h2, h3, h4, h5, h6, h7, h8, h9⟩ := hF t nx ⟨fun b k hb => ⟨hb, hE.lt b k hb, by simp [fps]⟩, fun a ha => by simp at ha, fun b hb => by simp [fps] at hb, by simp [fps]⟩
 subst h9
 refine (((hc _ _ _ _ _ _ _ h1).run (fun b => b < W.heap.size) W ρ W vs hE.sat (fun b hb _ => hE.free b hb) hs hr).calls hcal).mono fun e W' ⟨x, ρ', he, _, hm, hx⟩ => ?_
 subst he
 refine ⟨?_, hm.fr.os, hm.fr.tape, hm.fr.output, hm.fr.size, hm.fr.block⟩
 cases hx with
 | c _ _ hx => cases hx with
  | v _ _ => rfl
end Go.CE
