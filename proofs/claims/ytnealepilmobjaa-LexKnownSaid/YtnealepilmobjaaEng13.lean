/-
  The engine, part 13: append; every step is right.
-/
import Derived.Test.YtnealepilmobjaaEng12
set_option linter.unusedVariables false
set_option linter.unusedSimpArgs false
namespace Go.Eng
open Go.RowKit

section
variable {Γ : Ctx} {ρ : Nat → Option RowAt} {st : AS} {a : Act} {w : World}

theorem ext_append {c : Call} (h : c.callee = .builtin .append) : opExt (.call c) = false := by
  cases c
  simp only at h
  subst h
  rfl
/-- nothing is known to have been appended: the row is empty, and lies nowhere -/
theorem src0 {S : Nat → Prop} {size : Nat} {news : List (List T)} {V : Value} {xs : List Value} (h : Src Γ.P S w size news V xs) (h0 : news.length = 0) :
    (∀ W : World, W.heap = w.heap → (Builtin.firstCells size 0 V).run Γ.P W = .ok #[] W) ∧ ∀ W : World, (Builtin.lenOf V).run Γ.P W = .ok 0 W := by
  obtain ⟨h1, h2, h3⟩ := h
  rw [h0] at h2 h3
  have hx : xs = [] := List.eq_nil_of_length_eq_zero (by rw [h1.1, h0, Nat.zero_mul])
  subst hx
  exact ⟨h2, h3⟩
theorem app_none (h : SatAt Γ ρ st a w) {o : Oper} (hq : opExt o.op = false) {c : Call} {t u e : TypeId} {i : TypeInfo} {x y : Operand}
    (hex : execOp a.eval o = (do pure (.value (← Builtin.append_ #[t, u] o.type #[a.eval x, a.eval y])))) (hu : Γ.P.underlying t = some (.slice e)) (huu : u = t ∨ Γ.P.underlying u = some .string) (hi : Γ.P.info? e = some i)
    {D : Option Addr} {V : Value} (hD : a.eval x = .slice D 0 0) (hA : a.eval y = V) (hn : ∀ W : World, W.heap = w.heap → (Builtin.firstCells i.size 0 V).run Γ.P W = .ok #[] W) (hV : ∀ W : World, (Builtin.lenOf V).run Γ.P W = .ok 0 W) (fr : Bool) (r ty size : Nat) (hpb : r < 1000000) :
    Done Γ o a w (st.new r (.tr fr ty size [])) (.c (.row r 0 0)) := by
  have hr := run_app_none (w := w) (P := Γ.P) (t := t) (u := u) (ty := o.type) hu huu hi (D := D) (V := V) hn hV
  refine ⟨_, _, upd ρ r none, .inl (exec_v hex (by rw [hD, hA]; exact hr)), ?_, .c _ _ (.row0 r 0 D), fun h => (by rw [ext_of_quiet h] at hq; cases hq), fun h => (by rw [hq] at h; cases h)⟩
  exact h.renew r hpb _ none (fun la hla => by cases hla) rfl rfl rfl (Nat.le_refl _) (fun la hla => by cases hla) (fun b hb _ => rfl) fun hF hA hwF hwA => .nil fr ty size (upd_same _ _ _)

theorem app_room (h : SatAt Γ ρ st a w) {o : Oper} (hq : opExt o.op = false) {t u e : TypeId} {i : TypeInfo} {x y : Operand}
    (hex : execOp a.eval o = (do pure (.value (← Builtin.append_ #[t, u] o.type #[a.eval x, a.eval y])))) (hu : Γ.P.underlying t = some (.slice e)) (huu : u = t ∨ Γ.P.underlying u = some .string) (hi : Γ.P.info? e = some i) (hpos : 0 < i.size)
    {V : Value} {cap r : Nat} {la : RowAt} {fr frn : Bool} {es news : List (List T)} (hrow : st.row r = some (.tr fr e i.size es)) (hla : ρ r = some la)
    (hD : a.eval x = .slice (some ⟨la.b, 0, none⟩) es.length cap) (hcap : cap * la.size = la.tot) (hcm : cap ≤ maxLen) (hA : a.eval y = V) {xs : List Value}
    (hnew : Src Γ.P (if frn = true then SFof Γ st ρ w else SAof Γ st ρ w) w i.size news V xs) (hg : es.length + news.length ≤ cap) (hpb : r < 1000000) :
    Done Γ o a w (st.new r (.tr (fr && frn) e i.size (es ++ news))) (.c (.row r 0 (es.length + news.length))) := by
  have hrr := h.rows r _ hrow
  cases hrr with
  | nil _ _ _ hnil => rw [hnil] at hla; cases hla
  | tr _ _ _ _ la1 cur hl1 hss hh htt hl hz hf =>
    rw [hl1] at hla
    injection hla with hla
    subst hla
    have hlen : xs.length = news.length * i.size := hnew.1.1
    have hfit : es.length * i.size + xs.length ≤ cur.size := by
      rw [htt, ← hcap, hss, hlen, ← Nat.add_mul]
      exact Nat.mul_le_mul_right _ hg
    have hr := run_app_room (w := w) (P := Γ.P) (t := t) (u := u) (ty := o.type) hu huu hi (n := es.length) (cap := cap) (m := news.length) (V := V) hh hnew.2.1 hnew.2.2 hnew.1.one hlen hg hfit
    have hsub : ∀ (f g : Bool) b, (if f = true then SFof Γ st ρ w else SAof Γ st ρ w) b → (g = true → f = true) → (if g = true then SFof Γ st ρ w else SAof Γ st ρ w) b := by
      intro f g b hb hfg
      cases g
      · cases f
        · exact hb
        · simpa using SF_sub b (by simpa using hb)
      · rw [hfg rfl] at hb; exact hb
    have hfl : Flat (if fr = true then SFof Γ st ρ w else SAof Γ st ρ w) w i.size es (cur.toList.take (es.length * i.size)) := by
      refine ⟨by simp; omega, hz, fun k j e t hk hj => ?_⟩
      obtain ⟨x, hx, ht⟩ := hf k j e t hk hj
      refine ⟨x, ?_, ht⟩
      have hk' := (List.getElem?_eq_some_iff.1 hk).1
      have hj' : j < i.size := by rw [← hz e (List.mem_of_getElem? hk)]; exact (List.getElem?_eq_some_iff.1 hj).1
      rw [List.getElem?_take, if_pos (idx_lt hk' hj')]
      simpa using hx
    have hall : Flat (if (fr && frn) = true then SFof Γ st ρ w else SAof Γ st ρ w) w i.size (es ++ news) (cur.toList.take (es.length * i.size) ++ xs) :=
      (hfl.mono (fun b hb => hsub fr _ b hb (by simp; intro h1 _; exact h1)) (fun _ _ => rfl)).append (hnew.1.mono (fun b hb => hsub frn _ b hb (by simp)) (fun _ _ => rfl))
    have hset : setL cur.toList (es.length * i.size) xs = (cur.toList.take (es.length * i.size) ++ xs) ++ cur.toList.drop (es.length * i.size + xs.length) := rfl
    refine ⟨_, _, upd ρ r (some la1), .inl (exec_v hex (by rw [hD, hA]; exact hr)), ?_, ?_, fun h => (by rw [ext_of_quiet h] at hq; cases hq), fun h => (by rw [hq] at h; cases h)⟩
    · refine h.renew r hpb _ (some la1) (fun la hla => by injection hla with hla; subst hla; exact .inr ⟨_, la1, hrow, hl1, rfl⟩) rfl rfl rfl (by simp) (fun la hla => by injection hla with hla; subst hla; simpa using (h.own r _ la1 hrow hl1).2)
        (fun b hb hne => setRow_other w _ b _ (hne la1 rfl)) fun hF hA hwF hwA => ?_
      refine .tr _ e i.size _ la1 _ (upd_same _ _ _) hss (setRow_heap w la1.b cur _ e _ hh) (by rw [List.size_toArray, setL_length _ _ _ (by simpa using hfit)]; simpa using htt) ?_ hall.2.1 fun k j e t hk hj => ?_
      · rw [List.length_append, Nat.add_mul, ← hlen, ← htt]; exact hfit
      · obtain ⟨x, hx, ht⟩ := hall.2.2 k j e t hk hj
        refine ⟨x, ?_, ?_⟩
        · rw [List.getElem?_toArray, hset, List.getElem?_append_left (List.getElem?_eq_some_iff.1 hx).1]
          exact hx
        · cases hff : (fr && frn)
          · rw [hff] at ht
            exact ht.mono (by simpa [hff] using hA) (by simpa using hwA)
          · rw [hff] at ht
            exact ht.mono (by simpa [hff] using hF) (by simpa using hwF)
    · have hrow' : ∀ (SF SA : Nat → Prop) (W : World), CRep (upd ρ r (some la1)) SF SA W (.row r 0 (es.length + news.length)) (.slice (some ⟨la1.b, 0, none⟩) (es.length + news.length) cap) := by
        intro SF SA W
        have := CRep.row (ρ := upd ρ r (some la1)) (SF := SF) (SA := SA) (w := W) r 0 (es.length + news.length) cap la1 (upd_same _ _ _) (by rw [Nat.zero_add]; exact hcap) hg hcm
        simpa using this
      exact .c _ _ (hrow' _ _ _)

theorem snd_app {o : Oper} {c : Call} {t u e : TypeId} {x y : Operand} {s b : Nat} {z : List Value} (ho : o.op = .call c) (hc1 : c.callee = .builtin .append) (hc2 : c.argTypes.toList = [t, u]) (hc3 : c.args.toList = [x, y])
    (hu : Γ.P.underlying t = some (.slice e)) (huu : u = t ∨ Γ.P.underlying u = some .string) (hsz : sizeT Γ.P e = some s) (hby : bytesT Γ.P e = some b) (hz : zeroT Γ.P e = some z) (hpos : 0 < s) {d : Nat} (hd : d < 1000000) {st' : AS} {v : AV} (h : SatAt Γ ρ st a w)
    (hs : step (.app e s b z (Od.of x) (Od.of y)) d st = some (st', v)) : Done Γ o a w st' v := by
  obtain ⟨i, zv, hi, hzv, rfl, hone, hzs⟩ := zeroT_inv hz
  have hs1 : i.size = s := by simpa [sizeT, hi] using hsz
  have hb1 : i.bytes = b := by simpa [bytesT, hi] using hby
  subst hs1 hb1
  have hargs : c.args = #[x, y] := by
    apply Array.ext'
    simpa using hc3
  have hat : c.argTypes = #[t, u] := by
    apply Array.ext'
    simpa using hc2
  have hex : execOp a.eval o = (do pure (.value (← Builtin.append_ #[t, u] o.type #[a.eval x, a.eval y]))) := by
    simp [execOp, ho, resolve, hc1, hargs, hat, invoke, builtin]
  simp only [step] at hs
  split at hs
  case h_1 => cases hs
  rename_i frn news hsrc
  obtain ⟨V, xs, hA, hnew⟩ := src_rep h hsrc
  have hev := h.ev x
  split at hs
  · rename_i r off n hx
    rw [hx] at hev
    split at hs
    case h_2 => cases hs
    rename_i fr ty sz es hrow
    obtain ⟨⟨rfl, rfl, rfl, rfl, hb, h63, hpb⟩, he⟩ := need_some hs
    injection he with he
    obtain ⟨rfl, rfl⟩ := Prod.mk.inj he
    rcases hev.cInv.rowInv with ⟨la, cap, hla, hc', hcb, hn, hm⟩ | ⟨h0, D, hc'⟩
    · rw [Nat.zero_mul] at hc'
      rw [Nat.zero_add] at hcb
      by_cases hg : es.length + news.length ≤ cap
      · exact app_room h (by rw [ho]; exact ext_append hc1) hex hu huu hi hpos hrow hla hc' hcb hm hA hnew hg hpb
      · have hrr := h.rows r _ hrow
        cases hrr with
        | nil _ _ _ hnil => rw [hnil] at hla; cases hla
        | tr _ _ _ _ la1 cur hl1 hss hh htt hl hz hf =>
          rw [hl1] at hla
          injection hla with hla
          subst hla
          have hold : Src Γ.P (if fr = true then SFof Γ st ρ w else SAof Γ st ρ w) w i.size es (.slice (some ⟨la1.b, 0, none⟩) es.length cap) (cur.toList.take (es.length * i.size)) := by
            have hfl : Flat (if fr = true then SFof Γ st ρ w else SAof Γ st ρ w) w i.size es (cur.toList.take (es.length * i.size)) := by
              refine ⟨by simp; omega, hz, fun k j e t hk hj => ?_⟩
              obtain ⟨x, hx, ht⟩ := hf k j e t hk hj
              refine ⟨x, ?_, ht⟩
              have hk' := (List.getElem?_eq_some_iff.1 hk).1
              have hj' : j < i.size := by rw [← hz e (List.mem_of_getElem? hk)]; exact (List.getElem?_eq_some_iff.1 hj).1
              rw [List.getElem?_take, if_pos (idx_lt hk' hj')]
              simpa using hx
            refine ⟨hfl, run_first i.size _ _ _ _ _ _ hfl.1 fun j u hu => ?_, fun W => lenOf_slice W⟩
            rw [List.getElem?_take] at hu
            split at hu
            · rw [cell_of_row w la1.b _ cur _ (0, 0) hh]
              simpa using hu
            · cases hu
          exact app_new h (by rw [ho]; exact ext_append hc1) (c := c) hex hu huu hi hzv hzs hpos hc' hA rfl hold hnew (by omega) h63 hb r hpb
    · by_cases hm0 : news.length = 0
      · have hes : es = [] := List.eq_nil_of_length_eq_zero h0
        have hns : news = [] := List.eq_nil_of_length_eq_zero hm0
        subst hes hns
        exact app_none h (by rw [ho]; exact ext_append hc1) (c := c) hex hu huu hi hc' hA (src0 hnew hm0).1 (src0 hnew hm0).2 (fr && frn) r _ i.size hpb
      · have hes : es = [] := List.eq_nil_of_length_eq_zero h0
        subst hes
        exact app_new h (by rw [ho]; exact ext_append hc1) (c := c) hex hu huu hi hzv hzs hpos (n := 0) hc' hA rfl (fr := fr) (es := []) (olds := []) ⟨Flat.nil, fun W _ => run_first0 i.size D _ _ W, fun W => lenOf_slice W⟩ hnew (by omega) (by simpa using h63) (by simpa using hb) r hpb
  · rename_i fr hx
    rw [hx] at hev
    have hc' := hev.vEq
    obtain ⟨⟨hb, h63⟩, he⟩ := need_some hs
    injection he with he
    obtain ⟨rfl, rfl⟩ := Prod.mk.inj he
    by_cases hm0 : news.length = 0
    · have hns : news = [] := List.eq_nil_of_length_eq_zero hm0
      subst hns
      exact app_none h (by rw [ho]; exact ext_append hc1) (c := c) hex hu huu hi hc' hA (src0 hnew hm0).1 (src0 hnew hm0).2 frn d _ i.size hd
    · have := app_new h (by rw [ho]; exact ext_append hc1) (c := c) hex hu huu hi hzv hzs hpos (n := 0) hc' hA rfl (fr := true) (es := []) (olds := []) ⟨Flat.nil, fun W _ => run_first0 i.size none _ _ W, fun W => lenOf_slice W⟩ hnew (by omega) (by simpa using h63) (by simpa using hb) d hd
      simpa using this
  · cases hs

/-- EVERY STEP IS RIGHT -/
theorem step_sound {o : Oper} {d : Nat} (hd : d < 1000000) {st' : AS} {v : AV} (h : SatAt Γ ρ st a w) (hs : step (Ins.of Γ.P o.op) d st = some (st', v)) : Done Γ o a w st' v := by
  cases ho : o.op with
  | move x => rw [ho] at hs; simp only [Ins.of, step] at hs; injection hs with hs; obtain ⟨rfl, rfl⟩ := Prod.mk.inj hs; exact snd_move (.inl ho) h
  | assign x => rw [ho] at hs; simp only [Ins.of, step] at hs; injection hs with hs; obtain ⟨rfl, rfl⟩ := Prod.mk.inj hs; exact snd_move (.inr ho) h
  | pick c x y =>
    rw [ho] at hs
    simp only [Ins.of, step] at hs
    split at hs
    · rename_i t ht
      injection hs with hs; obtain ⟨rfl, rfl⟩ := Prod.mk.inj hs
      exact snd_pick ho ht h
    · cases hs
  | alloc e =>
    rw [ho] at hs
    simp only [Ins.of] at hs
    split at hs
    · rename_i z hz; exact snd_alloc ho hz hd h hs
    · simp [step] at hs
  | box e x => rw [ho] at hs; simp only [Ins.of] at hs; exact snd_box ho hd h hs
  | build t parts =>
    rw [ho] at hs
    simp only [Ins.of] at hs
    split at hs
    · rename_i fs z hu hz
      split at hs
      case h_2 => simp [step] at hs
      rename_i places hpl
      split at hs
      case h_2 => simp [step] at hs
      rename_i l hl
      obtain ⟨h1, h2⟩ := ofParts_inv hl
      have hz' := hz
      obtain ⟨i, zv, hi, hzv, rfl, hone, hzs⟩ := zeroT_inv hz
      refine snd_build ho hz' ⟨(places.toArray[·]?), fun k p hk => ?_, h2, fun ps => ?_⟩ h hs
      · obtain ⟨q, hq1, hq2, hq3⟩ := h1 k p hk
        exact ⟨q, hq1, by simpa using hq2, hq3⟩
      · simp [Program.built, hi, hu, hzv, hpl]
    · rename_i n e z hu hz
      split at hs
      case h_2 => simp [step] at hs
      rename_i s hsz
      have hz' := hz
      obtain ⟨i, zv, hi, hzv, rfl, hone, hzs⟩ := zeroT_inv hz
      have hsz' := hsz
      unfold sizeT at hsz'
      cases hie : Γ.P.info? e with
      | none => simp [hie] at hsz'
      | some ie =>
        simp [hie] at hsz'
        subst hsz'
        refine snd_build ho hz' ⟨(fun i => some (i * ie.size, ie.size)), fun k p hk => ?_, by simp, fun ps => ?_⟩ h hs
        · exact ⟨(p.1 * ie.size, ie.size, Od.of p.2), by rw [List.getElem?_map, hk]; rfl, rfl, rfl⟩
        · simp [Program.built, hi, hu, hzv, hie]
    · simp [step] at hs
  | buildSlice t len parts =>
    rw [ho] at hs
    simp only [Ins.of] at hs
    split at hs
    case h_2 => simp [step] at hs
    rename_i e hu
    split at hs
    case h_2 => simp [step] at hs
    rename_i s z hsz hz
    split at hs
    · rename_i hc; exact snd_bslice ho hu hsz hz hc.1 hc.2 hd h hs
    · simp [step] at hs
  | load t x => exact snd_load ho h hs
  | store t x y =>
    rw [ho] at hs
    simp only [Ins.of] at hs
    split at hs
    · rename_i s hsz; exact snd_store ho hsz h hs
    · simp [step] at hs
  | nilCheck x => rw [ho] at hs; simp only [Ins.of] at hs; exact snd_nilck ho h hs
  | binOp op t x y ty =>
    rw [ho] at hs
    simp only [Ins.of] at hs
    split at hs
    · rename_i k hu; exact snd_bin ho h (.inl ⟨k, hu⟩) hs
    · rename_i hu; exact snd_bin ho h (.inr hu) hs
    · rename_i hu; exact snd_binB ho h hu hs
    · simp [step] at hs
  | unOp op t x => rw [ho] at hs; simp only [Ins.of] at hs; exact snd_un ho h hs
  | convert s t x =>
    rw [ho] at hs
    simp only [Ins.of] at hs
    split at hs
    · rename_i k0 k h1 h2; exact snd_cvi ho h h1 h2 hs
    · rename_i h1 h2; exact snd_cvs ho h h1 h2 hs
    · split at hs <;> simp [step] at hs
    · simp [step] at hs
  | makeFunc fn first caps =>
    rw [ho] at hs
    cases fn with
    | func f =>
      simp only [Ins.of] at hs
      split at hs
      · rename_i hf; exact snd_mkf ho hf h hs
      · simp [step] at hs
    | _ => simp [Ins.of, step] at hs
  | makeSlice t x y =>
    rw [ho] at hs
    simp only [Ins.of] at hs
    split at hs
    case h_2 => simp [step] at hs
    rename_i e hu
    split at hs
    case h_2 => simp [step] at hs
    rename_i s b z hsz hby hz
    split at hs
    · rename_i hpos; exact snd_mksl ho hu hsz hby hz hpos hd h hs
    · simp [step] at hs
  | slice t x lo hi mx =>
    cases mx with
    | some m => rw [ho] at hs; simp [Ins.of, step] at hs
    | none =>
      rw [ho] at hs
      simp only [Ins.of] at hs
      split at hs
      · rename_i hu; exact snd_slcS ho hu h hs
      · rename_i e hu
        split at hs
        · rename_i s hsz; exact snd_slc ho hu hsz h hs
        · simp [step] at hs
      · simp [step] at hs
  | fieldAddr t x i =>
    rw [ho] at hs
    simp only [Ins.of] at hs
    split at hs
    case h_2 => simp [step] at hs
    rename_i fs hu
    split at hs
    case h_2 => simp [step] at hs
    rename_i f hf
    split at hs
    case h_2 => simp [step] at hs
    rename_i s hsz
    split at hs
    · simp [step] at hs
    · rename_i hs0; exact snd_fad ho hu hf hsz hs0 h hs
  | field t x i =>
    rw [ho] at hs
    simp only [Ins.of] at hs
    split at hs
    case h_2 => simp [step] at hs
    rename_i fs hu
    split at hs
    case h_2 => simp [step] at hs
    rename_i f hf
    split at hs
    case h_2 => simp [step] at hs
    rename_i g s hg hsz
    split at hs
    · rename_i hok; exact snd_fld ho hu hf hg hsz hok h hs
    · simp [step] at hs
  | indexAddr t x i =>
    rw [ho] at hs
    simp only [Ins.of] at hs
    split at hs
    case h_2 => simp [step] at hs
    rename_i e hu
    split at hs
    case h_2 => simp [step] at hs
    rename_i s hsz
    exact snd_iad ho hu hsz h hs
  | index t x i =>
    rw [ho] at hs
    simp only [Ins.of] at hs
    split at hs
    · rename_i hu; exact snd_ixs ho hu h hs
    · rename_i n e hu
      split at hs
      case h_2 => simp [step] at hs
      rename_i g s hg hsz
      split at hs
      · rename_i hok; exact snd_ixa ho hu hg hsz hok h hs
      · simp [step] at hs
    · simp [step] at hs
  | extract x i => rw [ho] at hs; simp only [Ins.of] at hs; exact snd_ext ho h hs
  | call c =>
    rw [ho] at hs
    simp only [Ins.of, Ins.ofCall] at hs
    split at hs
    · simp [step] at hs
    · simp [step] at hs
    · rename_i hcal
      split at hs
      case h_2 => simp [step] at hs
      rename_i t x ht hx
      split at hs
      · rename_i hu; exact snd_lenS ho hcal ht hx hu h hs
      · rename_i e hu; exact snd_lenL ho hcal ht hx hu h hs
      · simp [step] at hs
    · rename_i hcal
      split at hs
      case h_2 => simp [step] at hs
      rename_i t t' x y ht hx
      split at hs
      case isFalse => simp [step] at hs
      rename_i htt
      split at hs
      case h_2 => simp [step] at hs
      rename_i e hu
      split at hs
      case h_2 => simp [step] at hs
      rename_i s b z hsz hby hz
      split at hs
      · rename_i hpos; exact snd_app ho hcal ht hx hu (htt.imp Eq.symm isStr_eq) hsz hby hz hpos hd h hs
      · simp [step] at hs
    · simp [step] at hs
  | _ => rw [ho] at hs; simp [Ins.of, step] at hs
end
end Go.Eng
