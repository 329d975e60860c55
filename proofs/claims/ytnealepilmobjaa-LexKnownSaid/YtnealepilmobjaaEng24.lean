/-
  The engine, part 24: such calls, as they are run; a row by another number.
-/
import Derived.Test.YtnealepilmobjaaEng23
set_option linter.unusedVariables false
set_option linter.unusedSimpArgs false
namespace Go.Eng
open Go.RowKit

section
variable {Γ : Ctx} {R : Exit → AS → Prop} {st : AS} {i : I} {l : List I} {f : FuncId} {xs : List Od}
theorem AR.callM (hgf : Γ.g = false) {PR : List (Nat × Row)} {Q : AV → List (Nat × Row) → Prop} (hi : i.o = .call f xs) (hg : i.g = none ∨ ∃ s b, i.g = some (s, b) ∧ (st.get s).bool? = some b)
    (hPR : ∀ r row, lk PR r = some row → st.row r = some row) (hfn : CtrM Γ.P f (xs.map fun x => (st.ev x).lend) (PR.map fun p => (p.1, lendR p.2)) Q)
    (hnum : ∀ av rs', Q av rs' → ∀ r row, lk rs' r = some row → hasR (PR.map (·.1)) r = true)
    (hk : ∀ av rs', Q av rs' → AR Γ l R ((st.callM (PR.map (·.1)) rs').putO i.d (av.own (PR.map (·.1))))) : AR Γ (i :: l) R st := by
  intro ops j o ho hx a w R' K hs hK
  unfold wpOp
  simp only [ho]
  obtain ⟨hd, hoo⟩ := of_o hx
  have hnb : i.o ≠ .bad := by rw [hi]; simp
  rcases hoo with ⟨_, hb⟩ | ⟨hins, hlt, hgd⟩
  · exact absurd hb hnb
  have hw : Region.wanted o (yielded ops a.tmps) = true := by
    rcases hgd with ⟨_, hgd⟩ | ⟨q, b, s, hg1, hgd, hsl⟩
    · simp [Region.wanted, hgd]
    · rcases hg with hg | ⟨s', b', hg, hb'⟩
      · rw [hg1] at hg; cases hg
      · rw [hg1] at hg
        injection hg with hg
        obtain ⟨rfl, rfl⟩ := Prod.mk.inj hg
        have hy := guard_val hsl hs hb'
        simp [Region.wanted, hgd, hy]
  rw [if_pos hw]
  refine .inl ?_
  obtain ⟨ρ, hs⟩ := hs
  rw [hi] at hins
  obtain ⟨c, hop, hoc⟩ := of_call hins.symm
  obtain ⟨hcal, rfl⟩ := ofCall_call hoc
  have hent := hs.lendRows hPR
  have hlen : (c.args.map a.eval ++ #[]).size = ((c.args.toList.map Od.of).map fun x => (st.ev x).lend).length := by simp
  have hargs : ∀ k v, ((c.args.toList.map Od.of).map fun x => (st.ev x).lend)[k]? = some v → AVRep (CRep ρ (fun _ => False) (SAof Γ st ρ w) w) v ((c.args.map a.eval ++ #[]).getD k undef) := by
    intro k v hv
    by_cases hkl : k < c.args.size
    · have hck : c.args.toList[k]? = some c.args[k] := by simp [hkl]
      rw [List.getElem?_map, List.getElem?_map, hck] at hv
      simp at hv
      subst hv
      have hval : (c.args.map a.eval ++ #[]).getD k undef = a.eval c.args[k] := by simp [Array.getD_eq_getD_getElem?, hkl]
      rw [hval]
      exact AVlend_rep hs (hs.ev _)
    · rw [List.getElem?_map, List.getElem?_map, List.getElem?_eq_none (by simpa using hkl)] at hv
      cases hv
  refine callOp hop hcal (f := f) (caps := #[]) rfl hfn.1 ((hfn.2 _ w _ ρ hent hlen hargs).mono fun e w' h => ?_)
  obtain ⟨y, av, rs', ρ', he, hQ, hsat, hav⟩ := h
  refine ⟨y, he, ?_⟩
  obtain ⟨hs1, hv1⟩ := hs.callM hPR (hnum av rs' hQ) hsat hav
  have hsP : Sat Γ ((st.callM (PR.map (·.1)) rs').putO i.d (av.own (PR.map (·.1)))) (a.put o.dst y) w' := by
    rw [hd]
    exact ⟨_, hs1.putO o.dst hlt hv1⟩
  exact hK y w' _ trivial (hk av rs' hQ) hsP fun hx2 => (by rw [hgf] at hx2; cases hx2)
/-- .. whose contract tells one answer -/
theorem AR.callME (hgf : Γ.g = false) {PR rs1 : List (Nat × Row)} {av : AV} (hi : i.o = .call f xs) (hg : i.g = none ∨ ∃ s b, i.g = some (s, b) ∧ (st.get s).bool? = some b)
    (hPR : ∀ r row, lk PR r = some row → st.row r = some row) (hfn : CtrM Γ.P f (xs.map fun x => (st.ev x).lend) (PR.map fun p => (p.1, lendR p.2)) fun av' rs' => av' = av ∧ rs' = rs1)
    (hnum : (rs1.all fun p => hasR (PR.map (·.1)) p.1) = true)
    (hk : ∀ K : List I → AS → Prop, (∀ l st, AR Γ l R st → K l st) → runK l K ((st.callM (PR.map (·.1)) rs1).putO i.d (av.own (PR.map (·.1))))) : AR Γ (i :: l) R st := by
  refine AR.callM hgf hi hg hPR hfn (fun av' rs' hq r row hl => ?_) fun av' rs' hq => ?_
  · obtain ⟨_, rfl⟩ := hq
    exact List.all_eq_true.1 hnum _ (lk_mem hl)
  · obtain ⟨rfl, rfl⟩ := hq
    exact AR.go hk
end

/- a row by another number -/
def renC (r q : Nat) : C → C
  | .row x off n => if x = r then .row q off n else if x = q then .any else .row x off n
  | .ptr x k j => if x = r then .ptr q k j else if x = q then .any else .ptr x k j
  | .fn f [] => .fn f []
  | .fn _ _ => .any
  | c => c
def AV.ren (r q : Nat) : AV → AV
  | .c x => .c (renC r q x)
  | .agg cs => .agg (cs.map (renC r q))
  | .tup [] => .tup []
  | _ => .any
def Row.ren (r q : Nat) : Row → Row
  | .tr fr ty size es => .tr fr ty size es
  | .bx ty cs => .bx ty (cs.map (renC r q))
def renL (r q : Nat) : List (Nat × Row) → List (Nat × Row)
  | [] => []
  | (x, row) :: l => if x = r then (q, row.ren r q) :: renL r q l else if x = q then renL r q l else (x, row.ren r q) :: renL r q l
def AS.ren (st : AS) (r q : Nat) : AS := ⟨st.env.map fun p => (p.1, p.2.ren r q), renL r q st.rows⟩
theorem lk_renL {r q : Nat} (hne : r ≠ q) : ∀ (l : List (Nat × Row)) (x : Nat), lk (renL r q l) x = if x = r then none else if x = q then (lk l r).map (Row.ren r q) else (lk l x).map (Row.ren r q)
  | [], x => by simp [renL, lk]
  | (y, row) :: l, x => by
    have ih := lk_renL hne l x
    simp only [renL]
    by_cases h1 : y = r
    · subst h1
      rw [if_pos rfl]
      simp only [lk]
      by_cases h2 : q = x
      · subst h2; rw [if_pos rfl, if_neg (Ne.symm hne), if_pos rfl]; simp
      · rw [if_neg h2, ih]
        by_cases h3 : x = y
        · simp [h3]
        · rw [if_neg h3, if_neg h3, if_neg (Ne.symm h2), if_neg (Ne.symm h2), if_neg (fun e => h3 e.symm)]
    · rw [if_neg h1]
      by_cases h2 : y = q
      · rw [if_pos h2, ih]
        simp only [lk]
        by_cases h3 : x = r
        · rw [if_pos h3, if_pos h3]
        · rw [if_neg h3, if_neg h3]
          by_cases h4 : x = q
          · rw [if_pos h4, if_pos h4, if_neg h1]
          · rw [if_neg h4, if_neg h4, if_neg (fun e => h4 (by rw [← e, h2]))]
      · rw [if_neg h2]
        simp only [lk]
        by_cases h3 : y = x
        · subst h3; rw [if_pos rfl, if_neg h1, if_neg h2, if_pos rfl]; rfl
        · rw [if_neg h3, ih]
          by_cases h4 : x = r
          · rw [if_pos h4, if_pos h4]
          · rw [if_neg h4, if_neg h4]
            by_cases h5 : x = q
            · rw [if_pos h5, if_pos h5, if_neg h1]
            · rw [if_neg h5, if_neg h5, if_neg h3]
section
variable {Γ : Ctx} {st : AS} {a : Act} {w : World}
theorem SatAt.ren {ρ : Nat → Option RowAt} (h : SatAt Γ ρ st a w) (r q : Nat) (hne : r ≠ q) (hpr : ∀ la, Γ.pin r = some la → False) (hpq : ∀ la, Γ.pin q = some la → False) : SatAt Γ (upd (upd ρ r none) q (ρ r)) (st.ren r q) a w := by
  generalize hρ : upd (upd ρ r none) q (ρ r) = ρ'
  have hq : ρ' q = ρ r := by rw [← hρ]; simp [upd]
  have ho : ∀ x, x ≠ r → x ≠ q → ρ' x = ρ x := fun x h1 h2 => by rw [← hρ]; simp [upd, h1, h2]
  have hrow : ∀ x, (st.ren r q).row x = if x = r then none else if x = q then (st.row r).map (Row.ren r q) else (st.row x).map (Row.ren r q) := fun x => lk_renL hne st.rows x
  have hold : ∀ x row la, (st.ren r q).row x = some row → ρ' x = some la → ∃ y row2, st.row y = some row2 ∧ ρ y = some la ∧ row = row2.ren r q ∧ ((x = q ∧ y = r) ∨ (x = y ∧ x ≠ r ∧ x ≠ q)) := by
    intro x row la h1 h2
    rw [hrow] at h1
    by_cases e1 : x = r
    · simp [e1] at h1
    · rw [if_neg e1] at h1
      by_cases e2 : x = q
      · rw [if_pos e2] at h1
        cases hr : st.row r with
        | none => simp [hr] at h1
        | some row2 => simp [hr] at h1; exact ⟨r, row2, hr, by rw [← hq, ← e2]; exact h2, h1.symm, .inl ⟨e2, rfl⟩⟩
      · rw [if_neg e2] at h1
        cases hr : st.row x with
        | none => simp [hr] at h1
        | some row2 => simp [hr] at h1; exact ⟨x, row2, hr, by rw [← ho x e1 e2]; exact h2, h1.symm, .inr ⟨rfl, e1, e2⟩⟩
  have hB : ∀ b, RowB (st.ren r q) ρ' b → RowB st ρ b := by
    intro b ⟨x, row, la, h1, h2, h3⟩
    obtain ⟨y, row2, h4, h5, _⟩ := hold x row la h1 h2
    exact ⟨y, row2, la, h4, h5, h3⟩
  have hF : ∀ b, SFof Γ st ρ w b → SFof Γ (st.ren r q) ρ' w b := fun b hb => ⟨hb.1, hb.2.1, fun hx => hb.2.2.1 (hB b hx), hb.2.2.2⟩
  have hA : ∀ b, SAof Γ st ρ w b → SAof Γ (st.ren r q) ρ' w b := fun b hb => ⟨hb.1, hb.2.1, fun hx => hb.2.2 (hB b hx)⟩
  have hC : ∀ c y, CRep ρ (SFof Γ st ρ w) (SAof Γ st ρ w) w c y → CRep ρ' (SFof Γ (st.ren r q) ρ' w) (SAof Γ (st.ren r q) ρ' w) w (renC r q c) y := by
    intro c y hcy
    have h1 := hcy.one
    cases hcy with
    | any _ h => exact .any _ h
    | t fr t _ ht =>
      cases fr
      · exact .t false t _ (ht.mono (by simpa using hA) (fun _ _ => rfl))
      · exact .t true t _ (ht.mono (by simpa using hF) (fun _ _ => rfl))
    | row x off n cap la hla hb hn hm =>
      simp only [renC]
      by_cases e1 : x = r
      · rw [if_pos e1]; exact .row q off n cap la (by rw [hq, ← e1]; exact hla) hb hn hm
      · rw [if_neg e1]
        by_cases e2 : x = q
        · rw [if_pos e2]; exact .any _ h1
        · rw [if_neg e2]; exact .row x off n cap la ((ho x e1 e2).trans hla) hb hn hm
    | row0 x off A =>
      simp only [renC]
      by_cases e1 : x = r
      · rw [if_pos e1]; exact .row0 q off A
      · rw [if_neg e1]
        by_cases e2 : x = q
        · rw [if_pos e2]; exact .any _ h1
        · rw [if_neg e2]; exact .row0 x off A
    | ptr x k j la hla =>
      simp only [renC]
      by_cases e1 : x = r
      · rw [if_pos e1]; exact .ptr q k j la (by rw [hq, ← e1]; exact hla)
      · rw [if_neg e1]
        by_cases e2 : x = q
        · rw [if_pos e2]; exact .any _ h1
        · rw [if_neg e2]; exact .ptr x k j la ((ho x e1 e2).trans hla)
    | elt fr ts b o f hb hc hf =>
      cases fr
      · exact .elt false ts b o f (by simpa using hA b (by simpa using hb)) hc fun i t ht => (hf i t ht).mono (by simpa using hA) (fun _ _ => rfl)
      · exact .elt true ts b o f (by simpa using hF b (by simpa using hb)) hc fun i t ht => (hf i t ht).mono (by simpa using hF) (fun _ _ => rfl)
    | fn f caps vs hs hh =>
      cases caps with
      | nil => exact .fn f [] vs hs (by simp)
      | cons c cs => exact .any _ h1
  refine ⟨h.defers, h.size, fun i => ?_, fun x row hr => ?_, fun x x' row row' la la' hr hr' hl hl' e => ?_, fun x row la hr hl => ?_, h.fr, h.lent, fun x la hp => ?_⟩
  · have hg : (st.ren r q).get i = (st.get i).ren r q := by
      simp only [AS.ren, AS.get, lk_map (AV.ren r q)]
      cases lk st.env i <;> rfl
    rw [hg]
    have hev := h.env i
    revert hev
    generalize st.get i = v
    generalize a.tmps.getD i undef = y
    intro hev
    cases hev with
    | any _ => exact .any _
    | c c _ h => exact .c _ _ (hC _ _ h)
    | agg cs xs hs hh =>
      refine .agg _ xs (by simpa using hs) fun j c hj => ?_
      rw [List.getElem?_map] at hj
      cases hcj : cs[j]? with
      | none => simp [hcj] at hj
      | some c0 =>
        simp [hcj] at hj
        subst hj
        exact hC _ _ (hh j c0 hcj)
    | tup vs xs hs hh =>
      cases vs with
      | nil => exact .tup [] xs hs (by simp)
      | cons v vs => exact .any _
  · have hx : ∃ y row2, st.row y = some row2 ∧ row = row2.ren r q ∧ ρ' x = ρ y := by
      rw [hrow] at hr
      by_cases e1 : x = r
      · simp [e1] at hr
      · rw [if_neg e1] at hr
        by_cases e2 : x = q
        · rw [if_pos e2] at hr
          cases hk : st.row r with
          | none => simp [hk] at hr
          | some row2 => simp [hk] at hr; exact ⟨r, row2, hk, hr.symm, by rw [e2]; exact hq⟩
        · rw [if_neg e2] at hr
          cases hk : st.row x with
          | none => simp [hk] at hr
          | some row2 => simp [hk] at hr; exact ⟨x, row2, hk, hr.symm, ho x e1 e2⟩
    obtain ⟨y, row2, h1, rfl, hm⟩ := hx
    have hrep := h.rows y row2 h1
    cases hrep with
    | nil fr ty size hn => exact .nil fr ty size (hm.trans hn)
    | tr fr ty size es la cur hla hss hh htt hll hz hf =>
      refine .tr fr ty size es la cur (hm.trans hla) hss hh htt hll hz fun k i e t hk hi => ?_
      obtain ⟨x, hx, ht⟩ := hf k i e t hk hi
      refine ⟨x, hx, ?_⟩
      cases fr
      · exact ht.mono (by simpa using hA) (fun _ _ => rfl)
      · exact ht.mono (by simpa using hF) (fun _ _ => rfl)
    | bx ty cs la cur hla hss hh htt hf =>
      refine .bx ty _ la cur (hm.trans hla) (by simpa using hss) hh (by simpa using htt) fun i c hi => ?_
      rw [List.getElem?_map] at hi
      cases hci : cs[i]? with
      | none => simp [hci] at hi
      | some c0 =>
        simp [hci] at hi
        subst hi
        obtain ⟨x, hx, hcx⟩ := hf i c0 hci
        exact ⟨x, hx, hC _ _ hcx⟩
  · obtain ⟨y, row2, h1, h2, _, h3⟩ := hold x row la hr hl
    obtain ⟨y', row3, h4, h5, _, h6⟩ := hold x' row' la' hr' hl'
    have := h.inj y y' row2 row3 la la' h1 h4 h2 h5 e
    rcases h3 with ⟨e1, e2⟩ | ⟨e1, e2, e3⟩ <;> rcases h6 with ⟨e4, e5⟩ | ⟨e4, e5, e6⟩
    · rw [e1, e4]
    · exact absurd (by rw [e4, ← this, e2]) e5
    · exact absurd (by rw [e1, this, e5]) e2
    · rw [e1, this, e4]
  · obtain ⟨y, row2, h1, h2, _, _⟩ := hold x row la hr hl
    exact h.own y row2 la h1 h2
  · obtain ⟨h1, h2⟩ := h.pins x la hp
    exact ⟨h1, (ho x (fun e => hpr la (e ▸ hp)) (fun e => hpq la (e ▸ hp))).trans h2⟩
theorem Sat.ren (h : Sat Γ st a w) (hn : ∀ r, Γ.pin r = none) (r q : Nat) (hne : r ≠ q) : Sat Γ (st.ren r q) a w :=
  let ⟨_, h⟩ := h; ⟨_, h.ren r q hne (fun la hp => by rw [hn] at hp; cases hp) (fun la hp => by rw [hn] at hp; cases hp)⟩
theorem AR.ren {Q : Exit → AS → Prop} {l : List I} (hn : ∀ r, Γ.pin r = none) (r q : Nat) (hne : r ≠ q) (h : AR Γ l Q (st.ren r q)) : AR Γ l Q st := AR.of (fun a w hs => hs.ren hn r q hne) h
end
theorem lk_pre {α : Type} {l : List (Nat × α)} (m : List (Nat × α)) {r : Nat} {x : α} (h : lk l r = some x) : lk (l ++ m) r = some x := by rw [lk_app, h]; rfl
/- the rules by which such calls are run -/
section rules
variable {R : List Nat} {r q off n k j f size ty : Nat} {fr : Bool} {t : T} {ts : List T} {es : List (List T)} {c : C} {cs : List C} {v : AV} {vs : List AV} {env : List (Nat × AV)} {rows rs' : List (Nat × Row)}
theorem callM_mk : AS.callM ⟨env, rows⟩ R rs' = ⟨env.map fun p => (p.1, p.2.strike R), (rs'.map fun p => (p.1, p.2.own R)) ++ outR R rows⟩ := rfl
theorem hasR_nil : hasR [] r = false := rfl
theorem hasR_cons : hasR (q :: R) r = (r == q || hasR R r) := by simp only [hasR, List.contains_cons]
def outB (b : Bool) (p : Nat × Row) (l : List (Nat × Row)) : List (Nat × Row) := match b with
  | true => l
  | false => p :: l
theorem outR_nil : outR R [] = [] := rfl
theorem outR_cons {row : Row} : outR R ((r, row) :: rows) = outB (hasR R r) (r, row.strike R) (outR R rows) := by
  simp only [outR]
  cases hasR R r <;> rfl
theorem outB_t {p : Nat × Row} : outB true p rows = rows := rfl
theorem outB_f {p : Nat × Row} : outB false p rows = p :: rows := rfl
theorem avstrike_any : AV.strike R .any = .any := rfl
theorem avstrike_c : AV.strike R (.c c) = .c (strikeC R c) := rfl
theorem avstrike_agg : AV.strike R (.agg cs) = .agg (cs.map (strikeC R)) := rfl
theorem avstrike_tup0 : AV.strike R (.tup []) = .tup [] := rfl
theorem avstrike_tup : AV.strike R (.tup (v :: vs)) = .any := rfl
theorem rowstrike_tr : Row.strike R (.tr fr ty size es) = .tr fr ty size es := rfl
theorem rowstrike_bx : Row.strike R (.bx ty cs) = .bx ty (cs.map (strikeC R)) := rfl
theorem strike_any : strikeC R .any = .any := rfl
theorem strike_t : strikeC R (.t fr t) = .t fr t := rfl
theorem strike_elt : strikeC R (.elt fr ts) = .elt fr ts := rfl
theorem strike_fn : strikeC R (.fn f []) = .fn f [] := rfl
def anyB (b : Bool) (c : C) : C := match b with
  | true => .any
  | false => c
theorem strike_row : strikeC R (.row r off n) = anyB (hasR R r) (.row r off n) := by
  simp only [strikeC]
  cases hasR R r <;> rfl
theorem strike_ptr : strikeC R (.ptr r k j) = anyB (hasR R r && decide (r < 1000000)) (.ptr r k j) := by
  simp only [strikeC]
  cases hasR R r <;> by_cases h : r < 1000000 <;> simp [h, anyB]
theorem anyB_t : anyB true c = .any := rfl
theorem anyB_f : anyB false c = c := rfl
theorem avown_any : AV.own R .any = .any := rfl
theorem avown_c : AV.own R (.c c) = .c (ownC R c) := rfl
theorem avown_agg : AV.own R (.agg cs) = .agg (cs.map (ownC R)) := rfl
theorem avown_tup : AV.own R (.tup vs) = .tup (vs.map (AV.own1 R)) := rfl
theorem avown1_c : AV.own1 R (.c c) = .c (ownC R c) := rfl
theorem avown1_any : AV.own1 R .any = .any := rfl
theorem rowown_tr : Row.own R (.tr fr ty size es) = .tr fr ty size es := rfl
theorem rowown_bx : Row.own R (.bx ty cs) = .bx ty (cs.map (ownC R)) := rfl
theorem own_any : ownC R .any = .any := rfl
theorem own_t : ownC R (.t fr t) = .t fr t := rfl
theorem own_elt : ownC R (.elt fr ts) = .elt fr ts := rfl
theorem own_fn : ownC R (.fn f []) = .fn f [] := rfl
theorem own_row : ownC R (.row r off n) = anyB (!hasR R r) (.row r off n) := by
  simp only [ownC]
  cases hasR R r <;> rfl
theorem own_ptr : ownC R (.ptr r k j) = anyB (!hasR R r) (.ptr r k j) := by
  simp only [ownC]
  cases hasR R r <;> rfl
theorem ren_mk : AS.ren ⟨env, rows⟩ r q = ⟨env.map fun p => (p.1, p.2.ren r q), renL r q rows⟩ := rfl
def renB (b1 b2 : Bool) (p1 p2 : Nat × Row) (l : List (Nat × Row)) : List (Nat × Row) := match b1, b2 with
  | true, _ => p1 :: l
  | false, true => l
  | false, false => p2 :: l
theorem renL_nil : renL r q [] = [] := rfl
theorem renL_cons {x : Nat} {row : Row} : renL r q ((x, row) :: rows) = renB (x == r) (x == q) (q, row.ren r q) (x, row.ren r q) (renL r q rows) := by
  simp only [renL]
  by_cases h1 : x = r
  · simp [h1, renB]
  · rw [if_neg h1, beq_eq_false_iff_ne.2 h1]
    by_cases h2 : x = q
    · simp [h2, renB]
    · rw [if_neg h2, beq_eq_false_iff_ne.2 h2]; rfl
theorem renB_t {b : Bool} {p1 p2 : Nat × Row} : renB true b p1 p2 rows = p1 :: rows := rfl
theorem renB_ft {p1 p2 : Nat × Row} : renB false true p1 p2 rows = rows := rfl
theorem renB_ff {p1 p2 : Nat × Row} : renB false false p1 p2 rows = p2 :: rows := rfl
theorem avren_any : AV.ren r q .any = .any := rfl
theorem avren_c : AV.ren r q (.c c) = .c (renC r q c) := rfl
theorem avren_agg : AV.ren r q (.agg cs) = .agg (cs.map (renC r q)) := rfl
theorem avren_tup0 : AV.ren r q (.tup []) = .tup [] := rfl
theorem avren_tup : AV.ren r q (.tup (v :: vs)) = .any := rfl
theorem rowren_tr : Row.ren r q (.tr fr ty size es) = .tr fr ty size es := rfl
theorem rowren_bx : Row.ren r q (.bx ty cs) = .bx ty (cs.map (renC r q)) := rfl
theorem ren_any : renC r q .any = .any := rfl
theorem ren_t : renC r q (.t fr t) = .t fr t := rfl
theorem ren_elt : renC r q (.elt fr ts) = .elt fr ts := rfl
theorem ren_fn : renC r q (.fn f []) = .fn f [] := rfl
def renCB (b1 b2 : Bool) (c1 c2 : C) : C := match b1, b2 with
  | true, _ => c1
  | false, true => .any
  | false, false => c2
theorem ren_row {x : Nat} : renC r q (.row x off n) = renCB (x == r) (x == q) (.row q off n) (.row x off n) := by
  simp only [renC]
  by_cases h1 : x = r
  · simp [h1, renCB]
  · rw [if_neg h1, beq_eq_false_iff_ne.2 h1]
    by_cases h2 : x = q
    · simp [h2, renCB]
    · rw [if_neg h2, beq_eq_false_iff_ne.2 h2]; rfl
theorem ren_ptr {x : Nat} : renC r q (.ptr x k j) = renCB (x == r) (x == q) (.ptr q k j) (.ptr x k j) := by
  simp only [renC]
  by_cases h1 : x = r
  · simp [h1, renCB]
  · rw [if_neg h1, beq_eq_false_iff_ne.2 h1]
    by_cases h2 : x = q
    · simp [h2, renCB]
    · rw [if_neg h2, beq_eq_false_iff_ne.2 h2]; rfl
theorem renCB_t {b : Bool} {c1 c2 : C} : renCB true b c1 c2 = c1 := rfl
theorem renCB_ft {c1 c2 : C} : renCB false true c1 c2 = .any := rfl
theorem renCB_ff {c1 c2 : C} : renCB false false c1 c2 = c2 := rfl
end rules
end Go.Eng
