/-
  The engine, part 18: calls, drawn regions and rows, as they are run by rewriting.
-/
import Derived.Test.YtnealepilmobjaaEng17
set_option linter.unusedVariables false
set_option linter.unusedSimpArgs false
namespace Go.Eng
open Go.RowKit

section
variable {Γ : Ctx} {R : Exit → AS → Prop} {st st' : AS} {i : I} {l : List I} {f : FuncId} {xs : List Od}
theorem runV_ar {d : Option Nat} {av v : AV} {rs : List (Nat × Row)} {r : Option (AS × AV)} (hk : ∀ K : List I → AS → Prop, (∀ l st, AR Γ l R st → K l st) → runV r d i l K st) (hr : r = some (st', v)) : AR Γ l R (st'.putO d v) := by
  subst hr
  exact AR.go hk
/-- a call whose contract tells one answer -/
theorem AR.callE {av : AV} {rs : List (Nat × Row)} (hi : i.o = .call f xs) (hg : i.g = none ∨ ∃ s b, i.g = some (s, b) ∧ (st.get s).bool? = some b)
    (hfn : CtrE Γ.P f (xs.map (fun x => (st.ev x).hand st)) av rs)
    (hl : (xs.all fun x => !(st.ev x).lends) = true ∨ (av.fresh = true ∧ rowsFresh rs = true))
    (hc : ∃ p, st.call (i.d.getD 0) av rs = some p)
    (hk : ∀ K : List I → AS → Prop, (∀ l st, AR Γ l R st → K l st) → runV (st.call (i.d.getD 0) av rs) i.d i l K st) : AR Γ (i :: l) R st := by
  refine AR.callGen (caps := []) (.inl ⟨hi, rfl⟩) hg (by rw [List.map_nil, List.append_nil]; exact hfn) ?_ fun av' rs' hq => ?_
  · rcases hl with h | h
    · exact .inl (by simpa using h)
    · exact .inr fun av' rs' ⟨h1, h2⟩ => by subst h1; subst h2; exact h
  · obtain ⟨rfl, rfl⟩ := hq
    obtain ⟨⟨st', v⟩, hp⟩ := hc
    exact ⟨st', v, hp, runV_ar (rs := rs') (av := v) hk hp⟩
theorem AR.callvE {t : Nat} {caps : List C} {av : AV} {rs : List (Nat × Row)} (hi : i.o = .callv (.t t) xs) (ht : st.get t = .c (.fn f caps)) (hg : i.g = none ∨ ∃ s b, i.g = some (s, b) ∧ (st.get s).bool? = some b)
    (hfn : CtrE Γ.P f (xs.map (fun x => (st.ev x).hand st) ++ caps.map fun c => .c (hand st c)) av rs)
    (hl : ((xs.all fun x => !(st.ev x).lends) && caps.all fun c => !c.lends) = true ∨ (av.fresh = true ∧ rowsFresh rs = true))
    (hc : ∃ p, st.call (i.d.getD 0) av rs = some p)
    (hk : ∀ K : List I → AS → Prop, (∀ l st, AR Γ l R st → K l st) → runV (st.call (i.d.getD 0) av rs) i.d i l K st) : AR Γ (i :: l) R st := by
  refine AR.callGen (caps := caps) (.inr ⟨t, hi, ht⟩) hg hfn ?_ fun av' rs' hq => ?_
  · rcases hl with h | h
    · exact .inl h
    · exact .inr fun av' rs' ⟨h1, h2⟩ => by subst h1; subst h2; exact h
  · obtain ⟨rfl, rfl⟩ := hq
    obtain ⟨⟨st', v⟩, hp⟩ := hc
    exact ⟨st', v, hp, runV_ar (rs := rs') (av := v) hk hp⟩
end

section names
variable {st : AS} {d r : Nat} {av v : AV} {vs : List AV} {c : C} {cs : List C} {fr : Bool} {t : T} {ts : List T} {es : List (List T)} {ty size off n k j f : Nat} {xs : List Od} {x : Od}
theorem call_nil : AS.call st d av [] = some (st, av.noid) := rfl
theorem call_one : AS.call st d av [(r, .tr fr ty size es)] = some (st.new d (.tr fr ty size es), av.nid r d) := rfl
theorem avnoid_any : AV.noid .any = .any := rfl
theorem avnoid_c : AV.noid (.c c) = .c (noid c) := rfl
theorem avnoid_agg : AV.noid (.agg cs) = .agg (cs.map noid) := rfl
theorem avnoid_tup : AV.noid (.tup vs) = .tup (vs.map AV.noid1) := rfl
theorem avnoid1_c : AV.noid1 (.c c) = .c (noid c) := rfl
theorem avnoid1_agg : AV.noid1 (.agg cs) = .agg (cs.map noid) := rfl
theorem avnoid1_any : AV.noid1 .any = .any := rfl
theorem noid_t : noid (.t fr t) = .t fr t := rfl
theorem noid_elt : noid (.elt fr ts) = .elt fr ts := rfl
theorem avnid_any {r d : Nat} : AV.nid r d .any = .any := rfl
theorem avnid_c {r d : Nat} : AV.nid r d (.c c) = .c (nid r d c) := rfl
theorem avnid_agg {r d : Nat} : AV.nid r d (.agg cs) = .agg (cs.map (nid r d)) := rfl
theorem avnid_tup {r d : Nat} : AV.nid r d (.tup vs) = .tup (vs.map (AV.nid1 r d)) := rfl
theorem avnid1_c {r d : Nat} : AV.nid1 r d (.c c) = .c (nid r d c) := rfl
theorem avnid1_agg {r d : Nat} : AV.nid1 r d (.agg cs) = .agg (cs.map (nid r d)) := rfl
theorem nid_t {r d : Nat} : nid r d (.t fr t) = .t fr t := rfl
theorem nid_elt {r d : Nat} : nid r d (.elt fr ts) = .elt fr ts := rfl
theorem nid_row {r d : Nat} : nid r d (.row r off n) = .row d off n := by simp [Eng.nid]
theorem nid_ptr {r d : Nat} : nid r d (.ptr r k j) = .ptr d k j := by simp [Eng.nid]
theorem avhand_c : AV.hand st (.c c) = .c (hand st c) := rfl
theorem avhand_agg : AV.hand st (.agg cs) = .agg (cs.map (hand st)) := rfl
theorem avhand_any : AV.hand st .any = .any := rfl
theorem hand_t : hand st (.t fr t) = .t false t := rfl
theorem hand_elt : hand st (.elt fr ts) = .elt false ts := rfl
theorem hand_fn : hand st (.fn f []) = .fn f [] := rfl
theorem hand_any : hand st .any = .any := rfl
def handRow (off n : Nat) : Option Row → C
  | some (.tr _ _ size es) => if off + n ≤ es.length then .t false (.sl size ((es.drop off).take n)) else .any
  | _ => .any
theorem hand_row : hand st (.row r off n) = handRow off n (st.row r) := by
  simp only [Eng.hand, handRow]
  cases st.row r with
  | none => rfl
  | some row => cases row <;> rfl
theorem handRow_tr (h : off + n ≤ es.length) : handRow off n (some (.tr fr ty size es)) = .t false (.sl size ((es.drop off).take n)) := by simp [handRow, h]
def handPtr (k j : Nat) : Option Row → C
  | some (.tr _ _ size es) => if k < es.length then .elt false ((getE es k).drop j) else .any
  | some (.bx _ cs) => match trees cs with
    | some (_, ts) => if k = 0 then .elt false (ts.drop j) else .any
    | none => .any
  | none => .any
theorem hand_ptr : hand st (.ptr r k j) = handPtr k j (st.row r) := rfl
theorem handPtr_tr (h : k < es.length) : handPtr k j (some (.tr fr ty size es)) = .elt false ((getE es k).drop j) := by simp [handPtr, h]
def handBx (j : Nat) : Option (Bool × List T) → C
  | some (_, ts) => .elt false (ts.drop j)
  | none => .any
theorem handPtr_bx : handPtr 0 j (some (.bx ty cs)) = handBx j (trees cs) := by
  simp only [handPtr, handBx]
  cases trees cs with
  | none => rfl
  | some p => obtain ⟨_, _⟩ := p; rfl
theorem handBx_some : handBx j (some (fr, ts)) = .elt false (ts.drop j) := rfl
theorem lends_t : C.lends (.t fr t) = false := rfl
theorem lends_elt : C.lends (.elt fr ts) = false := rfl
theorem lends_row : C.lends (.row r off n) = true := rfl
theorem lends_ptr : C.lends (.ptr r k j) = true := rfl
theorem lends_fn : C.lends (.fn f cs) = false := rfl
theorem avlends_c : AV.lends (.c c) = c.lends := rfl
theorem avlends_agg : AV.lends (.agg cs) = cs.any C.lends := rfl
theorem killL_t : killL d (.t fr t) = .t fr t := rfl
theorem killL_elt : killL d (.elt fr ts) = .elt fr ts := rfl
theorem killL_any : killL d .any = .any := rfl
theorem killL_row : killL d (.row r off n) = if r = d then .any else .row r off n := rfl
theorem killL_ptr : killL d (.ptr r k j) = if r = d then .any else .ptr r k j := rfl
theorem ncall_ex {p : AS × AV} : ∃ q, some p = some q := ⟨p, rfl⟩
end names

/- what is kept behind a region: slots and rows -/
def pickB (r : Nat) : Option Row → List (Nat × Row) → List (Nat × Row)
  | some x, l => (r, x) :: l
  | none, l => l
def pickR (rows : List (Nat × Row)) : List Nat → List (Nat × Row)
  | [] => []
  | r :: rs => pickB r (lk rows r) (pickR rows rs)
def AS.keep2 (st : AS) (ks rs : List Nat) : AS := ⟨ks.map fun i => (i, st.get i), pickR st.rows rs⟩
theorem lk_pickR (rows : List (Nat × Row)) (rs : List Nat) (r : Nat) {row : Row} (h : lk (pickR rows rs) r = some row) : lk rows r = some row := by
  induction rs with
  | nil => simp [pickR, lk] at h
  | cons x rs ih =>
    simp only [pickR] at h
    cases hx : lk rows x with
    | none => rw [hx] at h; exact ih h
    | some y =>
      rw [hx] at h
      simp only [pickB, lk] at h
      split at h
      · rename_i e
        injection h with h
        subst e; subst h
        exact hx
      · exact ih h
theorem Sat.keep2 {Γ : Ctx} {st : AS} {a : Act} {w : World} (h : Sat Γ st a w) (ks rs : List Nat) : Sat Γ (st.keep2 ks rs) a w := by
  obtain ⟨ρ, h⟩ := h
  refine ⟨ρ, h.weaken (fun r row hr => lk_pickR _ _ _ hr) fun i => ?_⟩
  rcases lk_keep st ks i with h1 | h1
  · have : (st.keep2 ks rs).get i = .any := by simp only [AS.keep2]; rw [get_mk, h1]; rfl
    rw [this]; exact .any _
  · have : (st.keep2 ks rs).get i = st.get i := by simp only [AS.keep2]; rw [get_mk, h1]; rfl
    rw [this]; exact h.env i
theorem AR.keep2 {Γ : Ctx} {Q : Exit → AS → Prop} {st : AS} (ks rs : List Nat) (h : Q .normal (st.keep2 ks rs)) : AR Γ [] Q st :=
  AR.of (st' := st.keep2 ks rs) (fun a w hs => hs.keep2 ks rs) (AR.nil h)
theorem AWI.keep2 {Γ : Ctx} {Q : Exit → AS → Prop} {c : IC} {st : AS} (ks rs : List Nat) (h : AWI Γ c Q (st.keep2 ks rs)) : AWI Γ c Q st :=
  AWI.of (fun a w hs => hs.keep2 ks rs) h
theorem keep2_mk {env : List (Nat × AV)} {rows : List (Nat × Row)} {ks rs : List Nat} : AS.keep2 ⟨env, rows⟩ ks rs = ⟨ks.map fun i => (i, (lk env i).getD .any), pickR rows rs⟩ := rfl
theorem pickR_nil {rows : List (Nat × Row)} : pickR rows [] = [] := rfl
theorem pickR_cons {rows : List (Nat × Row)} {r : Nat} {rs : List Nat} : pickR rows (r :: rs) = pickB r (lk rows r) (pickR rows rs) := rfl
theorem pickB_some {r : Nat} {x : Row} {l : List (Nat × Row)} : pickB r (some x) l = (r, x) :: l := rfl
theorem pickB_none {r : Nat} {l : List (Nat × Row)} : pickB r none l = l := rfl

/- a plain value's mark says nothing -/
def C.norm : C → C
  | .t _ (.v u) => .t true (.v u)
  | c => c
def AV.norm : AV → AV
  | .c x => .c x.norm
  | .agg cs => .agg (cs.map C.norm)
  | v => v
def AS.norm (st : AS) : AS := ⟨st.env.map fun p => (p.1, p.2.norm), st.rows⟩
theorem Sat.norm {Γ : Ctx} {st : AS} {a : Act} {w : World} (h : Sat Γ st a w) : Sat Γ st.norm a w := by
  obtain ⟨ρ, h⟩ := h
  refine ⟨ρ, h.weaken (fun r row hr => hr) fun i => ?_⟩
  have hg : st.norm.get i = (st.get i).norm := by
    simp only [AS.norm, AS.get, lk_map]
    cases lk st.env i <;> rfl
  rw [hg]
  have hc : ∀ c x, CRep ρ (SFof Γ st ρ w) (SAof Γ st ρ w) w c x → CRep ρ (SFof Γ st ρ w) (SAof Γ st ρ w) w c.norm x := by
    intro c x hc
    cases c with
    | t fr t =>
      cases t with
      | v u => cases hc with
        | t _ _ _ ht => cases ht with
          | v _ h1 => exact .t true _ _ (.v _ h1)
      | sl => exact hc
      | w => exact hc
    | _ => exact hc
  have hv := h.env i
  revert hv
  generalize st.get i = v
  generalize a.tmps.getD i undef = x
  intro hv
  cases hv with
  | any x => exact .any x
  | c c x h => exact .c _ _ (hc _ _ h)
  | agg cs xs hs hh =>
    refine .agg _ xs (by simpa using hs) fun i c hi => ?_
    rw [List.getElem?_map] at hi
    cases hci : cs[i]? with
    | none => simp [hci] at hi
    | some c0 =>
      simp [hci] at hi
      subst hi
      exact hc _ _ (hh i c0 hci)
  | tup vs xs hs h => exact .tup vs xs hs h

/- a row is settled -/
section frz
variable {Γ : Ctx} {Q : Exit → AS → Prop} {st : AS} {l : List I} {r size : Nat} {fr : Bool} {es : List (List T)}
theorem Sat.frz {a : Act} {w : World} (h : Sat Γ st a w) (hX : ∀ b, ¬ Γ.X b) (r : Nat) : Sat Γ (st.frz r) a w := let ⟨ρ, h⟩ := h; ⟨ρ, h.frz hX r⟩
theorem AR.frz (hX : ∀ b, ¬ Γ.X b) (r : Nat) (h : AR Γ l Q (st.frz r)) : AR Γ l Q st := AR.of (fun a w hs => hs.frz hX r) h
theorem AWI.frz {c : IC} (hX : ∀ b, ¬ Γ.X b) (r : Nat) (h : AWI Γ c Q (st.frz r)) : AWI Γ c Q st := AWI.of (fun a w hs => hs.frz hX r) h
def frzRow (st : AS) (r : Nat) : Option Row → AS
  | some (.tr fr _ size es) => ⟨st.env.map fun p => (p.1, p.2.fz r size fr es), (del r st.rows).map fun p => (p.1, p.2.fz r size fr es)⟩
  | _ => st
theorem frz_mk : AS.frz st r = frzRow st r (st.row r) := by
  simp only [AS.frz, frzRow]
  cases st.row r with
  | none => rfl
  | some row => cases row <;> rfl
theorem frzRow_tr {env : List (Nat × AV)} {rows : List (Nat × Row)} {ty : Nat} : frzRow ⟨env, rows⟩ r (some (.tr fr ty size es)) = ⟨env.map fun p => (p.1, p.2.fz r size fr es), (del r rows).map fun p => (p.1, p.2.fz r size fr es)⟩ := rfl
theorem avfz_any : AV.fz r size fr es .any = .any := rfl
theorem avfz_c {c : C} : AV.fz r size fr es (.c c) = .c (fz r size fr es c) := rfl
theorem avfz_agg {cs : List C} : AV.fz r size fr es (.agg cs) = .agg (cs.map (fz r size fr es)) := rfl
theorem avfz_tup {vs : List AV} : AV.fz r size fr es (.tup vs) = .any := rfl
theorem fz_any : fz r size fr es .any = .any := rfl
theorem fz_t {fr' : Bool} {t : T} : fz r size fr es (.t fr' t) = .t fr' t := rfl
theorem fz_elt {fr' : Bool} {ts : List T} : fz r size fr es (.elt fr' ts) = .elt fr' ts := rfl
theorem fz_fn {f : Nat} {cs : List C} : fz r size fr es (.fn f cs) = .fn f (cs.map (killL r)) := rfl
theorem fz_ptr {r' k j : Nat} : fz r size fr es (.ptr r' k j) = if r' = r then .any else .ptr r' k j := rfl
def fzB (b : Bool) (size : Nat) (fr : Bool) (es : List (List T)) (r' off n : Nat) : C := match b with
  | true => if off + n ≤ es.length then .t fr (.sl size ((es.drop off).take n)) else .any
  | false => .row r' off n
theorem fz_row {r' off n : Nat} : fz r size fr es (.row r' off n) = fzB (r' == r) size fr es r' off n := by
  simp only [Eng.fz, fzB]
  by_cases h : r' = r
  · simp [h]
  · rw [if_neg h, beq_eq_false_iff_ne.2 h]
theorem fzB_f {r' off n : Nat} : fzB false size fr es r' off n = .row r' off n := rfl
theorem fzB_all {r' n : Nat} (h : n = es.length) : fzB true size fr es r' 0 n = .t fr (.sl size es) := by subst h; simp [fzB]
theorem fzB_some {r' off n : Nat} (h : off + n ≤ es.length) : fzB true size fr es r' off n = .t fr (.sl size ((es.drop off).take n)) := by simp [fzB, h]
theorem del_nil {α : Type} : del (α := α) r [] = [] := rfl
def delB {α : Type} (b : Bool) (p : Nat × α) (l : List (Nat × α)) : List (Nat × α) := match b with
  | true => l
  | false => p :: l
theorem del_cons {α : Type} {j : Nat} {x : α} {l : List (Nat × α)} : del r ((j, x) :: l) = delB (j == r) (j, x) (del r l) := by
  simp only [del]
  by_cases h : j = r
  · subst h; simp [delB]
  · rw [if_neg h, beq_eq_false_iff_ne.2 h]; rfl
theorem delB_t {α : Type} {p : Nat × α} {l : List (Nat × α)} : delB true p l = l := rfl
theorem delB_f {α : Type} {p : Nat × α} {l : List (Nat × α)} : delB false p l = p :: l := rfl
theorem rowfz_tr {fr' : Bool} {ty size' : Nat} {es' : List (List T)} : Row.fz r size fr es (.tr fr' ty size' es') = .tr fr' ty size' es' := rfl
theorem rowfz_bx {ty : Nat} {cs : List C} : Row.fz r size fr es (.bx ty cs) = .bx ty (cs.map (fz r size fr es)) := rfl
end frz

/- a nil slice is an empty row -/
section nilrow
variable {Γ : Ctx} {Q : Exit → AS → Prop} {st : AS} {l : List I}
def AS.nilRow (st : AS) (s r ty size : Nat) : AS := match st.get s with
  | .c (.t _ (.v (.slice none 0 0))) => ⟨(s, .c (.row r 0 0)) :: (st.new r (.tr true ty size [])).env, (st.new r (.tr true ty size [])).rows⟩
  | _ => st
theorem SatAt.nilRow {ρ : Nat → Option RowAt} {a : Act} {w : World} (h : SatAt Γ ρ st a w) (s r ty size : Nat) (hpb : r < 1000000) : Sat Γ (st.nilRow s r ty size) a w := by
  unfold AS.nilRow
  split
  case h_2 => exact ⟨ρ, h⟩
  rename_i fr hs
  have h1 := h.renew (w' := w) r hpb (.tr true ty size []) none (fun la h => by cases h) rfl rfl rfl (Nat.le_refl _) (fun la h => by cases h) (fun b hb _ => rfl) fun hF hA hwF hwA => .nil true ty size (upd_same _ _ _)
  refine ⟨_, h1.weaken (fun r' row hr => hr) fun i => ?_⟩
  by_cases hi : s = i
  · subst hi
    have hv := h.env s
    rw [hs] at hv
    have : a.tmps.getD s undef = .slice none 0 0 := by
      revert hv
      generalize a.tmps.getD s undef = y
      intro hv
      cases hv with
      | c _ _ hc => cases hc with
        | t _ _ _ ht => cases ht with
          | v _ _ => rfl
    rw [this]
    have hg : AS.get ⟨(s, .c (.row r 0 0)) :: (st.new r (.tr true ty size [])).env, (st.new r (.tr true ty size [])).rows⟩ s = .c (.row r 0 0) := by simp [AS.get, lk]
    rw [hg]
    exact .c _ _ (.row0 r 0 none)
  · have hg : AS.get ⟨(s, .c (.row r 0 0)) :: (st.new r (.tr true ty size [])).env, (st.new r (.tr true ty size [])).rows⟩ i = (st.new r (.tr true ty size [])).get i := by simp [AS.get, lk, hi]
    rw [hg]
    exact h1.env i
theorem Sat.nilRow {a : Act} {w : World} (h : Sat Γ st a w) (s r ty size : Nat) (hpb : r < 1000000) : Sat Γ (st.nilRow s r ty size) a w := let ⟨_, h⟩ := h; h.nilRow s r ty size hpb
theorem AR.nilRow (s r ty size : Nat) (hpb : r < 1000000) (h : AR Γ l Q (st.nilRow s r ty size)) : AR Γ l Q st := AR.of (fun a w hs => hs.nilRow s r ty size hpb) h
theorem AWI.nilRow {c : IC} (s r ty size : Nat) (hpb : r < 1000000) (h : AWI Γ c Q (st.nilRow s r ty size)) : AWI Γ c Q st := AWI.of (fun a w hs => hs.nilRow s r ty size hpb) h
def nilRowV (st : AS) (s r ty size : Nat) : AV → AS
  | .c (.t _ (.v (.slice none 0 0))) => ⟨(s, .c (.row r 0 0)) :: (st.new r (.tr true ty size [])).env, (st.new r (.tr true ty size [])).rows⟩
  | _ => st
theorem nilRow_mk {s r ty size : Nat} : st.nilRow s r ty size = nilRowV st s r ty size (st.get s) := rfl
theorem nilRowV_nil {env : List (Nat × AV)} {rows : List (Nat × Row)} {s r ty size : Nat} {fr : Bool} : nilRowV ⟨env, rows⟩ s r ty size (.c (.t fr (.v (.slice none 0 0)))) =
    ⟨(s, .c (.row r 0 0)) :: env.map fun p => (p.1, p.2.kill r), (r, .tr true ty size []) :: rows.map fun p => (p.1, p.2.kill r)⟩ := rfl
/-- a row of which less, or something else, is known -/
theorem SatAt.rowOf {ρ : Nat → Option RowAt} {a : Act} {w : World} (h : SatAt Γ ρ st a w) (r : Nat) (row row' : Row) (hr : st.row r = some row)
    (hrep : RowRep ρ (SFof Γ st ρ w) (SAof Γ st ρ w) w r row → RowRep ρ (SFof Γ st ρ w) (SAof Γ st ρ w) w r row') : SatAt Γ ρ (st.setRow r row') a w := by
  have hrow : ∀ r1, (st.setRow r row').row r1 = if r = r1 then some row' else st.row r1 := fun r1 => row_setRow ..
  have hB : ∀ b, RowB (st.setRow r row') ρ b ↔ RowB st ρ b := by
    intro b
    constructor
    · rintro ⟨r1, row1, la, h1, h2, h3⟩
      rw [hrow] at h1
      by_cases e : r = r1
      · subst e; exact ⟨r, row, la, hr, h2, h3⟩
      · rw [if_neg e] at h1; exact ⟨r1, row1, la, h1, h2, h3⟩
    · rintro ⟨r1, row1, la, h1, h2, h3⟩
      by_cases e : r = r1
      · subst e; exact ⟨r, row', la, by rw [hrow, if_pos rfl], h2, h3⟩
      · exact ⟨r1, row1, la, by rw [hrow, if_neg e]; exact h1, h2, h3⟩
  have hF : SFof Γ (st.setRow r row') ρ w = SFof Γ st ρ w := by funext b; simp only [SFof, hB]
  have hA : SAof Γ (st.setRow r row') ρ w = SAof Γ st ρ w := by funext b; simp only [SAof, hB]
  have hold : ∀ r1 row1, (st.setRow r row').row r1 = some row1 → ∃ row2, st.row r1 = some row2 := by
    intro r1 row1 h1
    rw [hrow] at h1
    by_cases e : r = r1
    · subst e; exact ⟨row, hr⟩
    · rw [if_neg e] at h1; exact ⟨row1, h1⟩
  refine ⟨h.defers, h.size, fun i => by rw [hF, hA]; exact h.env i, fun r1 row1 h1 => ?_, fun r1 r2 row1 row2 la la' h1 h2 hl hl' e => ?_, fun r1 row1 la h1 hl => ?_, h.fr, h.lent, h.pins⟩
  · rw [hF, hA]
    rw [hrow] at h1
    by_cases e : r = r1
    · subst e
      rw [if_pos rfl] at h1
      injection h1 with h1
      subst h1
      exact hrep (h.rows r row hr)
    · rw [if_neg e] at h1
      exact h.rows r1 row1 h1
  · obtain ⟨x, hx⟩ := hold r1 row1 h1
    obtain ⟨y, hy⟩ := hold r2 row2 h2
    exact h.inj r1 r2 x y la la' hx hy hl hl' e
  · obtain ⟨x, hx⟩ := hold r1 row1 h1
    exact h.own r1 x la hx hl
def AS.nilCell (st : AS) (rb j r ty size : Nat) : AS := match (st.new r (.tr true ty size [])).row rb with
  | some (.bx t cs) => match cs[j]? with
    | some (.t _ (.v (.slice none 0 0))) => (st.new r (.tr true ty size [])).setRow rb (.bx t (cs.set j (.row r 0 0)))
    | _ => st
  | _ => st
theorem Sat.nilCell {a : Act} {w : World} (h : Sat Γ st a w) (rb j r ty size : Nat) (hpb : r < 1000000) : Sat Γ (st.nilCell rb j r ty size) a w := by
  unfold AS.nilCell
  split
  case h_2 => exact h
  rename_i t cs hrb
  split
  case h_2 => exact h
  rename_i fr hcj
  obtain ⟨ρ, h⟩ := h
  have h1 := h.renew (w' := w) r hpb (.tr true ty size []) none (fun la h => by cases h) rfl rfl rfl (Nat.le_refl _) (fun la h => by cases h) (fun b hb _ => rfl) fun hF hA hwF hwA => .nil true ty size (upd_same _ _ _)
  refine ⟨_, h1.rowOf rb _ _ hrb fun hrr => ?_⟩
  cases hrr with
  | bx _ _ la cur hla hss hh htt hf =>
    refine .bx t _ la cur hla (by simpa using hss) hh (by simpa using htt) fun i c hi => ?_
    rw [List.getElem?_set] at hi
    by_cases e : j = i
    · subst e
      rw [if_pos rfl] at hi
      split at hi
      case isFalse => cases hi
      injection hi with hi
      subst hi
      obtain ⟨x, hx, hc⟩ := hf j _ hcj
      refine ⟨x, hx, ?_⟩
      cases hc with
      | t _ _ _ ht => cases ht with
        | v _ _ => exact .row0 r 0 none
    · rw [if_neg e] at hi
      exact hf i c hi
theorem AR.nilCell (rb j r ty size : Nat) (hpb : r < 1000000) (h : AR Γ l Q (st.nilCell rb j r ty size)) : AR Γ l Q st := AR.of (fun a w hs => hs.nilCell rb j r ty size hpb) h
def nilCellR (st st1 : AS) (rb j r ty size : Nat) : Option Row → AS
  | some (.bx t cs) => match cs[j]? with
    | some (.t _ (.v (.slice none 0 0))) => st1.setRow rb (.bx t (cs.set j (.row r 0 0)))
    | _ => st
  | _ => st
def nilCellC (st st1 : AS) (rb t j r : Nat) (cs : List C) : Option C → AS
  | some (.t _ (.v (.slice none 0 0))) => st1.setRow rb (.bx t (cs.set j (.row r 0 0)))
  | _ => st
theorem nilCell_mk {rb j r ty size : Nat} : st.nilCell rb j r ty size = nilCellR st (st.new r (.tr true ty size [])) rb j r ty size ((st.new r (.tr true ty size [])).row rb) := rfl
theorem nilCellR_bx {st1 : AS} {rb j r ty size t : Nat} {cs : List C} : nilCellR st st1 rb j r ty size (some (.bx t cs)) = nilCellC st st1 rb t j r cs cs[j]? := rfl
theorem nilCellC_nil {st1 : AS} {rb t j r : Nat} {cs : List C} {fr : Bool} : nilCellC st st1 rb t j r cs (some (.t fr (.v (.slice none 0 0)))) = st1.setRow rb (.bx t (cs.set j (.row r 0 0))) := rfl
end nilrow

/- a region that draws its order, nothing in it being guarded among what is taken first -/
section drawn
variable {Γ : Ctx} {Q : Exit → AS → Prop}
def plainT : List (Nat × I × Sh) → Bool
  | [] => true
  | (_, i, s) :: T => i.g.isNone && (match s with
    | .cc => true
    | .mv => match i.o with | .mv _ => true | _ => false
    | _ => false) && plainT T
def runT : List I → (AS → Prop) → AS → Prop
  | [], F, st => F st
  | i :: T, F, st => match step i.o (i.d.getD 0) st with
    | some (st', v) => st' = st ∧ runT T F (st.putO i.d v)
    | none => False
def trV (d : Option Nat) (T : List I) (F : AS → Prop) (st : AS) : Option (AS × AV) → Prop
  | some (st', v) => st' = st ∧ runT T F (st.putO d v)
  | none => False
theorem runT_nil {F : AS → Prop} {st : AS} : runT [] F st = F st := rfl
theorem runT_cons {i : I} {T : List I} {F : AS → Prop} {st : AS} : runT (i :: T) F st = trV i.d T F st (step i.o (i.d.getD 0) st) := by
  simp only [runT, trV]
theorem trV_some {d : Option Nat} {T : List I} {F : AS → Prop} {st : AS} {v : AV} : trV d T F st (some (st, v)) = runT T F (st.putO d v) := by simp [trV]
def trivE (t : TE) : Bool := t.i.g.isNone && (match t.k with | .cc => true | .mv => true | _ => false)
theorem JL_triv {l : List TE} (h : l.all trivE = true) (st : AS) : JL l st := by
  induction l with
  | nil => trivial
  | cons t l ih =>
    simp only [List.all_cons, Bool.and_eq_true] at h
    refine ⟨?_, ih h.2⟩
    obtain ⟨n, i, k⟩ := t
    have h1 := h.1
    simp only [trivE, Bool.and_eq_true, Option.isNone_iff_eq_none] at h1
    cases k with
    | ex => simp at h1
    | sk => simp at h1
    | mv => exact .inl h1.1
    | cc => exact .inl h1.1
theorem ARJ_triv {acc : List TE} (h : acc.all trivE = true) : ∀ {C : List (Nat × I × List Nat)} {st : AS}, AR Γ (C.map (·.2.1)) Q st → ARJ Γ Q (chain acc C) st := by
  intro C
  induction C with
  | nil => intro st h; exact h
  | cons c C ih =>
    intro st hr
    obtain ⟨n, i, p⟩ := c
    intro ops j o ho hx a w R' K hs hk
    refine hr ops j o ho hx a w R' K hs fun x w' st' _ har hs' hg => hk x w' st' (JL_triv ?_ st') (ih har) hs' hg
    rw [List.all_eq_true] at h ⊢
    exact fun t ht => h t (List.mem_filter.1 ht).1
theorem TR_plain {C : List (Nat × I × List Nat)} : ∀ {T : List (Nat × I × Sh)} {acc : List TE} {st : AS}, plainT T = true → acc.all trivE = true → runT (T.map (·.2.1)) (fun st => AR Γ (C.map (·.2.1)) Q st) st → TR Γ Q C T acc st := by
  intro T
  induction T with
  | nil => intro acc st _ hacc h; exact ⟨JL_triv hacc st, ARJ_triv hacc h⟩
  | cons t T ih =>
    intro acc st hp hacc h
    obtain ⟨n, i, s⟩ := t
    simp only [plainT, Bool.and_eq_true, Option.isNone_iff_eq_none] at hp
    simp only [List.map_cons, runT] at h
    split at h
    case h_2 => exact h.elim
    rename_i st' v hst
    obtain ⟨rfl, h⟩ := h
    have hacc' : ∀ k, (match k with | TK.cc => true | TK.mv => true | _ => false) = true → (acc ++ [TE.mk n i k]).all trivE = true := fun k hk => by
      rw [List.all_append, hacc]; simp only [List.all_cons, List.all_nil, Bool.and_true, Bool.true_and, trivE, hp.1.1]; simpa using hk
    cases s with
    | ex => simp at hp
    | sk => simp at hp
    | cc => exact ⟨.inl hp.1.1, v, hst, ih hp.2 (hacc' .cc rfl) h⟩
    | mv =>
      have h2 := hp.1.2
      split at h2
      case h_1 hh => cases hh
      case h_3 hh => exact absurd rfl hh
      rename_i x hx
      split at h2
      case h_2 => cases h2
      rename_i y hy
      rw [hy] at hst
      injection hst with hst
      obtain ⟨_, rfl⟩ := Prod.mk.inj hst
      exact ⟨.inl hp.1.1, y, hy, ih hp.2 (hacc' .mv rfl) h⟩
theorem runT_mono {F F' : AS → Prop} (hF : ∀ st, F st → F' st) : ∀ {T : List I} {st : AS}, runT T F st → runT T F' st := by
  intro T
  induction T with
  | nil => intro st h; exact hF _ h
  | cons i T ih =>
    intro st h
    simp only [runT] at h ⊢
    split at h
    · exact ⟨h.1, ih h.2⟩
    · exact h.elim
theorem AWI.drawS {id : Nat} {ds : List D} {st : AS} (hm : Γ.P.follows .mixedOrders = true) (T : List (Nat × I × Sh)) (C : List (Nat × I × List Nat))
    (hT : (T.map fun t => (ds[t.1]?).map D.i) = T.map fun t => some t.2.1) (hC : (C.map fun c => (ds[c.1]?).map D.i) = C.map fun c => some c.2.1)
    (hchk : chkD ds (T.map fun t => (t.1, t.2.2)) (C.map fun c => (c.1, c.2.2)) = true) (hp : plainT T = true)
    (h : ∀ Γ' : Ctx, Γ' = Γ.grow → ∀ K : List I → AS → Prop, (∀ l st, AR Γ' l Q st → K l st) → runT (T.map (·.2.1)) (fun st => runK (C.map (·.2.1)) K st) st) : AWI Γ (.draw id ds) Q st := by
  refine AWI.draw hm T C hT hC hchk (TR_plain hp rfl ?_)
  have := h Γ.grow rfl (fun l st => AR Γ.grow l Q st) fun _ _ h => h
  refine runT_mono (fun st h => ?_) this
  unfold runK at h
  exact AR.run (l' := (Eng.run _ st).2) (st' := (Eng.run _ st).1) rfl h
/- .. with guards, all of it taken first -/
def gOk (i : I) (b : Bool) (st : AS) : Prop := match i.g with
  | none => b = true
  | some (s, w) => gd (st.get s) w = some b
def isSk : Sh → Bool
  | .sk => true
  | _ => false
def runTG : List (I × Sh) → (AS → Prop) → AS → Prop
  | [], F, st => F st
  | (i, .sk) :: T, F, st => gOk i false st ∧ runTG T F (st.putO i.d (.tup []))
  | (i, _) :: T, F, st => gOk i true st ∧ match step i.o (i.d.getD 0) st with
    | some (st', v) => st' = st ∧ runTG T F (st.putO i.d v)
    | none => False
def tgV (d : Option Nat) (T : List (I × Sh)) (F : AS → Prop) (st : AS) : Option (AS × AV) → Prop
  | some (st', v) => st' = st ∧ runTG T F (st.putO d v)
  | none => False
def gAll : List (I × Sh) → AS → Prop
  | [], _ => True
  | (i, k) :: T, st => gOk i (!isSk k) st ∧ gAll T st
section
variable {T : List (I × Sh)} {F : AS → Prop} {st : AS} {i : I} {d : Option Nat} {o : Ins} {s : Nat} {w b : Bool} {v : AV}
theorem runTG_nil : runTG [] F st = F st := rfl
theorem runTG_sk : runTG ((i, .sk) :: T) F st = (gOk i false st ∧ runTG T F (st.putO i.d (.tup []))) := rfl
theorem runTG_mv : runTG ((i, .mv) :: T) F st = (gOk i true st ∧ tgV i.d T F st (step i.o (i.d.getD 0) st)) := by simp only [runTG, tgV]
theorem runTG_cc : runTG ((i, .cc) :: T) F st = (gOk i true st ∧ tgV i.d T F st (step i.o (i.d.getD 0) st)) := by simp only [runTG, tgV]
theorem tgV_some : tgV d T F st (some (st, v)) = runTG T F (st.putO d v) := by simp [tgV]
theorem gOk_none : gOk ⟨d, none, o⟩ true st = True := by simp [gOk]
theorem gOk_t : gOk ⟨d, some (s, w), o⟩ true st = (gd (st.get s) w = some true) := by simp [gOk]
theorem gOk_f : gOk ⟨d, some (s, w), o⟩ false st = (gd (st.get s) w = some false) := by simp [gOk]
theorem gd_tt {fr : Bool} : gd (.c (.t fr (.v (.bool true)))) true = some true := rfl
theorem gd_tf {fr : Bool} : gd (.c (.t fr (.v (.bool true)))) false = some false := rfl
theorem gd_ft {fr : Bool} : gd (.c (.t fr (.v (.bool false)))) true = some false := rfl
theorem gd_ff {fr : Bool} : gd (.c (.t fr (.v (.bool false)))) false = some true := rfl
theorem gd_sk : gd (.tup []) w = some false := rfl
theorem gAll_nil : gAll [] st = True := rfl
theorem gAll_cons {k : Sh} : gAll ((i, k) :: T) st = (gOk i (!isSk k) st ∧ gAll T st) := rfl
theorem isSk_sk : isSk .sk = true := rfl
theorem isSk_mv : isSk .mv = false := rfl
theorem isSk_cc : isSk .cc = false := rfl
end
theorem gOk_true {i : I} {st : AS} (h : gOk i true st) : gTrue i st := by
  unfold gOk at h
  split at h
  · rename_i hg; exact .inl hg
  · rename_i s w hg; exact .inr ⟨s, w, hg, gd_true h⟩
theorem gOk_false {i : I} {st : AS} (h : gOk i false st) : gFalse i st := by
  unfold gOk at h
  split at h
  · cases h
  · rename_i s w hg; exact ⟨s, w, hg, h⟩
def okT : List (I × Sh) → Bool
  | [] => true
  | (i, k) :: T => (match k with
    | .ex => false
    | .mv => match i.o with | .mv _ => true | _ => false
    | _ => true) && okT T
def accOf : List (Nat × I × Sh) → List TE
  | [] => []
  | (n, i, .sk) :: T => ⟨n, i, .sk⟩ :: accOf T
  | (n, i, .mv) :: T => ⟨n, i, .mv⟩ :: accOf T
  | (n, i, _) :: T => ⟨n, i, .cc⟩ :: accOf T
theorem TR_guard : ∀ {T : List (Nat × I × Sh)} {acc : List TE} {st : AS}, okT (T.map (·.2)) = true → runTG (T.map (·.2)) (fun st => JL (acc ++ accOf T) st ∧ AR Γ [] Q st) st → TR Γ Q [] T acc st := by
  intro T
  induction T with
  | nil => intro acc st _ h; simpa [accOf, TR, runTG, chain, AR] using h
  | cons t T ih =>
    intro acc st hp h
    obtain ⟨n, i, s⟩ := t
    simp only [List.map_cons, okT, Bool.and_eq_true] at hp
    cases s with
    | ex => simp at hp
    | sk =>
      simp only [List.map_cons, runTG, accOf] at h
      refine ⟨gOk_false h.1, ih hp.2 ?_⟩
      simpa using h.2
    | cc =>
      simp only [List.map_cons, runTG, accOf] at h
      obtain ⟨hg, h⟩ := h
      split at h
      case h_2 => exact h.elim
      rename_i st' v hst
      obtain ⟨rfl, h⟩ := h
      exact ⟨gOk_true hg, v, hst, ih hp.2 (by simpa using h)⟩
    | mv =>
      simp only [List.map_cons, runTG, accOf] at h
      obtain ⟨hg, h⟩ := h
      split at h
      case h_2 => exact h.elim
      rename_i st' v hst
      obtain ⟨rfl, h⟩ := h
      have h2 := hp.1
      simp only at h2
      split at h2
      case h_2 => cases h2
      rename_i y hy
      rw [hy] at hst
      injection hst with hst
      obtain ⟨_, rfl⟩ := Prod.mk.inj hst
      exact ⟨gOk_true hg, y, hy, ih hp.2 (by simpa using h)⟩
theorem JL_gAll : ∀ {T : List (Nat × I × Sh)} {st : AS}, gAll (T.map (·.2)) st → okT (T.map (·.2)) = true → JL (accOf T) st := by
  intro T
  induction T with
  | nil => intro st _ _; trivial
  | cons t T ih =>
    intro st h hp
    obtain ⟨n, i, s⟩ := t
    simp only [List.map_cons, okT, Bool.and_eq_true] at hp
    simp only [List.map_cons, gAll] at h
    have h2 := ih h.2 hp.2
    cases s with
    | ex => simp at hp
    | sk => exact ⟨gOk_false (by simpa [isSk] using h.1), h2⟩
    | cc => exact ⟨gOk_true (by simpa [isSk] using h.1), h2⟩
    | mv => exact ⟨gOk_true (by simpa [isSk] using h.1), h2⟩
theorem runTG_mono {F F' : AS → Prop} (hF : ∀ st, F st → F' st) : ∀ {T : List (I × Sh)} {st : AS}, runTG T F st → runTG T F' st := by
  intro T
  induction T with
  | nil => intro st h; exact hF _ h
  | cons t T ih =>
    intro st h
    obtain ⟨i, k⟩ := t
    cases k with
    | sk => exact ⟨h.1, ih h.2⟩
    | _ =>
      simp only [runTG] at h ⊢
      refine ⟨h.1, ?_⟩
      have h2 := h.2
      split at h2
      · exact ⟨h2.1, ih h2.2⟩
      · exact h2.elim
theorem AWI.drawG {id : Nat} {ds : List D} {st : AS} (hm : Γ.P.follows .mixedOrders = true) (T : List (Nat × I × Sh))
    (hT : (T.map fun t => (ds[t.1]?).map D.i) = T.map fun t => some t.2.1)
    (hchk : chkD ds (T.map fun t => (t.1, t.2.2)) [] = true) (hp : okT (T.map (·.2)) = true)
    (h : ∀ Γ' : Ctx, Γ' = Γ.grow → ∀ K : List I → AS → Prop, (∀ l st, AR Γ' l Q st → K l st) → runTG (T.map (·.2)) (fun st => gAll (T.map (·.2)) st ∧ K [] st) st) : AWI Γ (.draw id ds) Q st := by
  refine AWI.draw hm T [] hT rfl hchk (TR_guard hp ?_)
  have := h Γ.grow rfl (fun l st => AR Γ.grow l Q st) fun _ _ h => h
  refine runTG_mono (fun st h => ?_) this
  exact ⟨by simpa using JL_gAll h.1 hp, h.2⟩
/-- what comes behind, said once -/
theorem AWI.post {c : IC} {st : AS} (S : AS) (h : ∀ Q' : Exit → AS → Prop, Q' .normal S → AWI Γ c Q' st) (q : Q .normal S) : AWI Γ c Q st := h Q q
end drawn
end Go.Eng
