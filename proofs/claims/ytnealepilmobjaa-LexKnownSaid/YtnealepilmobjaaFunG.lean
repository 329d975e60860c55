/- The library's builder of texts, as it is used here. -/
import Derived.Test.YtnealepilmobjaaIC
import Derived.Test.YtnealepilmobjaaShelf
set_option linter.unusedVariables false
set_option linter.unusedSimpArgs false
set_option maxRecDepth 100000
namespace Go.Proofs.Ytnealepilmobjaa
open Go.Eng Go.RowKit
def byteT (b : UInt8) : List T := [.v (.int .u8 b.toNat)]
/-- a builder: row 1000003; its bytes: row 2003 -/
def bldR (c0 : C) (l : List UInt8) : List (Nat × Row) := [(1000003, .bx 56 [c0, .row 2003 0 l.length]), (2003, .tr false 5 1 (l.map byteT))]
def bldNew : C := .t false (.v (.pointer none))
def bldUsed : C := .ptr 1000003 0 0
theorem copyCheck {c0 : C} (hc0 : c0 = bldNew ∨ c0 = bldUsed) {l : List UInt8} : CtrM Try.prog 30 [.c (.ptr 1000003 0 0)] (bldR c0 l) fun av rs => av = .tup [] ∧ rs = bldR bldUsed l := by
  refine ⟨by kernel_rfl, fun S w vs ρ hs hl hrep => ?_⟩
  have hrow : (⟨[], bldR c0 l⟩ : AS).row 1000003 = some (.bx 56 [c0, .row 2003 0 l.length]) := rfl
  have h0 := hrep 0 _ rfl
  have hrr := hs.rows 1000003 _ hrow
  cases hrr with
  | bx _ _ la cur hla hss hh htt hf =>
    have hx : vs.getD 0 undef = .pointer (some ⟨la.b, 0, none⟩) := by
      revert h0
      generalize vs.getD 0 undef = y
      intro h0
      cases h0 with
      | c _ _ hc => cases hc with
        | ptr _ _ _ la' hla' =>
          rw [hla] at hla'
          injection hla' with hla'
          subst hla'
          simp
    have hvs : vs = #[.pointer (some ⟨la.b, 0, none⟩)] := by
      apply Array.ext
      · simpa using hl
      · intro i h1 h2
        have : i = 0 := by simp at h2; exact h2
        subst this
        simpa [Array.getD, h1] using hx
    subst hvs
    obtain ⟨x0, hx0, hc0r⟩ := hf 0 c0 rfl
    obtain ⟨x1, hx1, hc1r⟩ := hf 1 _ rfl
    have hcell : w.cell? ⟨la.b, 0, none⟩ = some x0 := by rw [Lib.cell_of_heap hh]; exact hx0
    have hlt : la.b < w.heap.size := (hs.own 1000003 _ la hrow hla).2
    have hu : CRep ρ (SFof (CtxM Try.prog w S ρ (bldR c0 l)) ⟨[], bldR c0 l⟩ ρ w) (SAof (CtxM Try.prog w S ρ (bldR c0 l)) ⟨[], bldR c0 l⟩ ρ w) w bldUsed (.pointer (some ⟨la.b, 0, none⟩)) := by
      have := CRep.ptr (ρ := ρ) (SF := SFof (CtxM Try.prog w S ρ (bldR c0 l)) ⟨[], bldR c0 l⟩ ρ w) (SA := SAof (CtxM Try.prog w S ρ (bldR c0 l)) ⟨[], bldR c0 l⟩ ρ w) (w := w) 1000003 0 0 la hla
      simpa [bldUsed] using this
    rcases hc0 with rfl | rfl
    · have hx0' : x0 = .pointer none := by
        cases hc0r with
        | t _ _ _ ht => cases ht with
          | v _ _ => rfl
      subst hx0'
      refine (Try.copyCheck_fresh la.b w hcell (by simp [World.shape?, hh, htt]) (Lib.frozen_of_heap hh 0)).mono fun e w' ⟨he, hw⟩ => ?_
      have hsame : ∀ b, b ≠ la.b → w'.heap[b]? = w.heap[b]? := fun b hb => by rw [hw]; exact Below.heap_setCell _ _ _ _ (fun e => hb e)
      have hnew : w'.heap[la.b]? = some (.cells (cur.setIfInBounds 0 (.pointer (some ⟨la.b, 0, none⟩))) 56 (0, 0)) := by
        rw [hw]; simp [World.setCell, Array.getElem?_modify, hh]
      have hup := hs.upd_ (w' := w') 1000003 _ (.bx 56 [bldUsed, .row 2003 0 l.length]) la hrow hla (by rw [hw]; rfl) (by rw [hw]; rfl) (by rw [hw]; rfl) (by rw [hw]; simp [World.setCell]) hsame fun hF hA => by
        refine .bx 56 _ la _ hla hss hnew (by simpa using htt) fun i c hi => ?_
        match i, hi with
        | 0, hi =>
          injection hi with hi
          subst hi
          exact ⟨_, by simp [show 0 < cur.size by rw [htt]; simp], hu.mono rfl (fun _ h => h) (fun _ h => h) hF hA⟩
        | 1, hi =>
          injection hi with hi
          subst hi
          exact ⟨x1, by rw [Array.getElem?_setIfInBounds_ne (by decide)]; exact hx1, hc1r.mono rfl (fun _ h => h) (fun _ h => h) hF hA⟩
      refine ⟨_, .tup [], bldR bldUsed l, ρ, he, ⟨rfl, rfl⟩, hup.weaken (fun r row hr => ?_) (fun i => .any _), .tup [] #[] rfl (by simp)⟩
      simp only [AS.row, bldR, lk, AS.setRow] at hr ⊢
      split at hr
      · rename_i e; subst e; simpa using hr
      · rename_i e; rw [if_neg e, if_neg e]; exact hr
    · have hx0' : x0 = .pointer (some ⟨la.b, 0, none⟩) := by
        cases hc0r with
        | ptr _ _ _ la' hla' =>
          rw [hla] at hla'
          injection hla' with hla'
          subst hla'
          simp
      subst hx0'
      refine (Try.copyCheck_used la.b w hcell).mono fun e w' ⟨he, hw⟩ => ?_
      subst hw
      exact ⟨_, .tup [], bldR bldUsed l, ρ, he, ⟨rfl, rfl⟩, hs, .tup [] #[] rfl (by simp)⟩
theorem writeByte {c0 : C} (hc0 : c0 = bldNew ∨ c0 = bldUsed) {fr : Bool} {l : List UInt8} {c : UInt8} (hl : l.length ≤ 100000000) : CtrM Try.prog 23 [.c (.ptr 1000003 0 0), .c (.t fr (.v (.int .u8 c.toNat)))] (bldR c0 l) fun av rs => av = .c (.t true (.v .nilIface)) ∧ rs = bldR bldUsed (l ++ [c]) := by
  have hlen : l.length = (l.map byteT).length := (List.length_map ..).symm
  rcases hc0 with rfl | rfl
  · refine fm23 (Nat.le_of_ble_eq_true rfl) fun Γ hP hn hgf => ?_; unfold i23
    unfold bldR bldNew
    refine AWI.seq ?_
    (refine AWI.region (AR.go fun K hK => ?_); simp (disch := first | assumption | omega | (simp only [List.length_cons, List.length_nil, List.length_map, List.length_append, List.length_take, List.length_drop] <;> omega)) only [R0, R1, R2, R3, R4, R5, R6, R7, R8, M0, envOf_nil, envOf_cons, ↓reduceIte, reduceCtorEq, Nat.reduceEqDiff, Int.reduceEq, Int.reduceLT, Int.reduceLE, Nat.reduceAdd, Nat.reduceSub, Nat.reduceBEq, Nat.reduceLT]; (refine hK _ _ (AR.keep2 [0, 1] [1000003, 2003] ?_); clear hK K; try simp only [keep2_mk, pickR_nil, pickR_cons, pickB_some, List.map_cons, List.map_nil, lk_nil, lk_cons, lkB_t, lkB_f, Nat.reduceBEq, Option.getD_some, Option.getD_none]))
    refine AWI.seq ?_
    refine AWI.region (AR.go fun K hK => ?_)
    simp (disch := first | assumption | omega | (simp only [List.length_cons, List.length_nil, List.length_map, List.length_append, List.length_take, List.length_drop] <;> omega)) only [R0, R1, R2, R3, R4, R5, R6, R7, R8, M0, envOf_nil, envOf_cons, ↓reduceIte, reduceCtorEq, Nat.reduceEqDiff, Int.reduceEq, Int.reduceLT, Int.reduceLE, Nat.reduceAdd, Nat.reduceSub, Nat.reduceBEq, Nat.reduceLT]
    (refine hK _ _ ?_; refine AR.callME hgf (PR := [(1000003, .bx 56 [.t false (.v (.pointer none)), .row 2003 0 l.length]), (2003, .tr false 5 1 (l.map byteT))]) rfl (by first | exact .inl rfl | exact .inr ⟨_, _, rfl, rfl⟩) (fun r row h => lk_pre _ h) (by rw [hP]; exact copyCheck (l := l) (.inl rfl)) rfl ?_; clear hK K; intro K hK)
    simp (disch := first | assumption | omega | (simp only [List.length_cons, List.length_nil, List.length_map, List.length_append, List.length_take, List.length_drop] <;> omega)) only [R0, R1, R2, R3, R4, R5, R6, R7, R8, M0, envOf_nil, envOf_cons, ↓reduceIte, reduceCtorEq, Nat.reduceEqDiff, Int.reduceEq, Int.reduceLT, Int.reduceLE, Nat.reduceAdd, Nat.reduceSub, Nat.reduceBEq, Nat.reduceLT, bldR, bldUsed]
    (refine hK _ _ (AR.keep2 [0, 1] [1000003, 2003] ?_); clear hK K; try simp only [keep2_mk, pickR_nil, pickR_cons, pickB_some, List.map_cons, List.map_nil, lk_nil, lk_cons, lkB_t, lkB_f, Nat.reduceBEq, Option.getD_some, Option.getD_none])
    refine AWI.seq ?_
    refine AWI.region (AR.go fun K hK => ?_)
    simp (disch := first | assumption | omega | (simp only [List.length_cons, List.length_nil, List.length_map, List.length_append, List.length_take, List.length_drop] <;> omega)) only [R0, R1, R2, R3, R4, R5, R6, R7, R8, M0, envOf_nil, envOf_cons, ↓reduceIte, reduceCtorEq, Nat.reduceEqDiff, Int.reduceEq, Int.reduceLT, Int.reduceLE, Nat.reduceAdd, Nat.reduceSub, Nat.reduceBEq, Nat.reduceLT]
    rw [show l.map byteT ++ [[T.v (.int .u8 c.toNat)]] = (l ++ [c]).map byteT by rw [List.map_append]; rfl]
    (refine hK _ _ (AR.keep2 [] [1000003, 2003] ?_); clear hK K; try simp only [keep2_mk, pickR_nil, pickR_cons, pickB_some, List.map_cons, List.map_nil, lk_nil, lk_cons, lkB_t, lkB_f, Nat.reduceBEq, Option.getD_some, Option.getD_none])
    refine AWI.seq ?_
    (refine AWI.region (AR.go fun K hK => ?_); simp (disch := first | assumption | omega | (simp only [List.length_cons, List.length_nil, List.length_map, List.length_append, List.length_take, List.length_drop] <;> omega)) only [R0, R1, R2, R3, R4, R5, R6, R7, R8, M0, envOf_nil, envOf_cons, ↓reduceIte, reduceCtorEq, Nat.reduceEqDiff, Int.reduceEq, Int.reduceLT, Int.reduceLE, Nat.reduceAdd, Nat.reduceSub, Nat.reduceBEq, Nat.reduceLT]; (refine hK _ _ (AR.keep2 [4] [1000003, 2003] ?_); clear hK K; try simp only [keep2_mk, pickR_nil, pickR_cons, pickB_some, List.map_cons, List.map_nil, lk_nil, lk_cons, lkB_t, lkB_f, Nat.reduceBEq, Option.getD_some, Option.getD_none]))
    exact AWI.ret ⟨.inl rfl, _, fun _ _ h => h.norm, rfl, by simp [bldR, bldUsed, AS.norm]⟩
  · refine fm23 (Nat.le_of_ble_eq_true rfl) fun Γ hP hn hgf => ?_; unfold i23
    unfold bldR bldUsed
    refine AWI.seq ?_
    (refine AWI.region (AR.go fun K hK => ?_); simp (disch := first | assumption | omega | (simp only [List.length_cons, List.length_nil, List.length_map, List.length_append, List.length_take, List.length_drop] <;> omega)) only [R0, R1, R2, R3, R4, R5, R6, R7, R8, M0, envOf_nil, envOf_cons, ↓reduceIte, reduceCtorEq, Nat.reduceEqDiff, Int.reduceEq, Int.reduceLT, Int.reduceLE, Nat.reduceAdd, Nat.reduceSub, Nat.reduceBEq, Nat.reduceLT]; (refine hK _ _ (AR.keep2 [0, 1] [1000003, 2003] ?_); clear hK K; try simp only [keep2_mk, pickR_nil, pickR_cons, pickB_some, List.map_cons, List.map_nil, lk_nil, lk_cons, lkB_t, lkB_f, Nat.reduceBEq, Option.getD_some, Option.getD_none]))
    refine AWI.seq ?_
    refine AWI.region (AR.go fun K hK => ?_)
    simp (disch := first | assumption | omega | (simp only [List.length_cons, List.length_nil, List.length_map, List.length_append, List.length_take, List.length_drop] <;> omega)) only [R0, R1, R2, R3, R4, R5, R6, R7, R8, M0, envOf_nil, envOf_cons, ↓reduceIte, reduceCtorEq, Nat.reduceEqDiff, Int.reduceEq, Int.reduceLT, Int.reduceLE, Nat.reduceAdd, Nat.reduceSub, Nat.reduceBEq, Nat.reduceLT]
    (refine hK _ _ ?_; refine AR.callME hgf (PR := [(1000003, .bx 56 [.ptr 1000003 0 0, .row 2003 0 l.length]), (2003, .tr false 5 1 (l.map byteT))]) rfl (by first | exact .inl rfl | exact .inr ⟨_, _, rfl, rfl⟩) (fun r row h => lk_pre _ h) (by rw [hP]; exact copyCheck (l := l) (.inr rfl)) rfl ?_; clear hK K; intro K hK)
    simp (disch := first | assumption | omega | (simp only [List.length_cons, List.length_nil, List.length_map, List.length_append, List.length_take, List.length_drop] <;> omega)) only [R0, R1, R2, R3, R4, R5, R6, R7, R8, M0, envOf_nil, envOf_cons, ↓reduceIte, reduceCtorEq, Nat.reduceEqDiff, Int.reduceEq, Int.reduceLT, Int.reduceLE, Nat.reduceAdd, Nat.reduceSub, Nat.reduceBEq, Nat.reduceLT, bldR, bldUsed]
    (refine hK _ _ (AR.keep2 [0, 1] [1000003, 2003] ?_); clear hK K; try simp only [keep2_mk, pickR_nil, pickR_cons, pickB_some, List.map_cons, List.map_nil, lk_nil, lk_cons, lkB_t, lkB_f, Nat.reduceBEq, Option.getD_some, Option.getD_none])
    refine AWI.seq ?_
    refine AWI.region (AR.go fun K hK => ?_)
    simp (disch := first | assumption | omega | (simp only [List.length_cons, List.length_nil, List.length_map, List.length_append, List.length_take, List.length_drop] <;> omega)) only [R0, R1, R2, R3, R4, R5, R6, R7, R8, M0, envOf_nil, envOf_cons, ↓reduceIte, reduceCtorEq, Nat.reduceEqDiff, Int.reduceEq, Int.reduceLT, Int.reduceLE, Nat.reduceAdd, Nat.reduceSub, Nat.reduceBEq, Nat.reduceLT]
    rw [show l.map byteT ++ [[T.v (.int .u8 c.toNat)]] = (l ++ [c]).map byteT by rw [List.map_append]; rfl]
    (refine hK _ _ (AR.keep2 [] [1000003, 2003] ?_); clear hK K; try simp only [keep2_mk, pickR_nil, pickR_cons, pickB_some, List.map_cons, List.map_nil, lk_nil, lk_cons, lkB_t, lkB_f, Nat.reduceBEq, Option.getD_some, Option.getD_none])
    refine AWI.seq ?_
    (refine AWI.region (AR.go fun K hK => ?_); simp (disch := first | assumption | omega | (simp only [List.length_cons, List.length_nil, List.length_map, List.length_append, List.length_take, List.length_drop] <;> omega)) only [R0, R1, R2, R3, R4, R5, R6, R7, R8, M0, envOf_nil, envOf_cons, ↓reduceIte, reduceCtorEq, Nat.reduceEqDiff, Int.reduceEq, Int.reduceLT, Int.reduceLE, Nat.reduceAdd, Nat.reduceSub, Nat.reduceBEq, Nat.reduceLT]; (refine hK _ _ (AR.keep2 [4] [1000003, 2003] ?_); clear hK K; try simp only [keep2_mk, pickR_nil, pickR_cons, pickB_some, List.map_cons, List.map_nil, lk_nil, lk_cons, lkB_t, lkB_f, Nat.reduceBEq, Option.getD_some, Option.getD_none]))
    exact AWI.ret ⟨.inl rfl, _, fun _ _ h => h.norm, rfl, by simp [bldR, bldUsed, AS.norm]⟩
theorem writeString {c0 : C} (hc0 : c0 = bldNew ∨ c0 = bldUsed) {fr : Bool} {l s : List UInt8} (hl : l.length ≤ 100000000) (hs : s.length ≤ 100000000) : CtrM Try.prog 24 [.c (.ptr 1000003 0 0), .c (.t fr (.v (.string (bs s))))] (bldR c0 l)
    fun av rs => av = .tup [.c (.t true (.v (.int .i64 s.length))), .c (.t true (.v .nilIface))] ∧ rs = bldR bldUsed (l ++ s) := by
  have hlen : l.length = (l.map byteT).length := (List.length_map ..).symm
  rcases hc0 with rfl | rfl
  · refine fm24 (Nat.le_of_ble_eq_true rfl) fun Γ hP hn hgf => ?_; unfold i24
    unfold bldR bldNew
    refine AWI.seq ?_
    (refine AWI.region (AR.go fun K hK => ?_); simp (disch := first | assumption | omega | (simp only [List.length_cons, List.length_nil, List.length_map, List.length_append, List.length_take, List.length_drop] <;> omega)) only [R0, R1, R2, R3, R4, R5, R6, R7, R8, M0, envOf_nil, envOf_cons, ↓reduceIte, reduceCtorEq, Nat.reduceEqDiff, Int.reduceEq, Int.reduceLT, Int.reduceLE, Nat.reduceAdd, Nat.reduceSub, Nat.reduceBEq, Nat.reduceLT]; (refine hK _ _ (AR.keep2 [0, 1] [1000003, 2003] ?_); clear hK K; try simp only [keep2_mk, pickR_nil, pickR_cons, pickB_some, List.map_cons, List.map_nil, lk_nil, lk_cons, lkB_t, lkB_f, Nat.reduceBEq, Option.getD_some, Option.getD_none]))
    refine AWI.seq ?_
    refine AWI.region (AR.go fun K hK => ?_)
    simp (disch := first | assumption | omega | (simp only [List.length_cons, List.length_nil, List.length_map, List.length_append, List.length_take, List.length_drop] <;> omega)) only [R0, R1, R2, R3, R4, R5, R6, R7, R8, M0, envOf_nil, envOf_cons, ↓reduceIte, reduceCtorEq, Nat.reduceEqDiff, Int.reduceEq, Int.reduceLT, Int.reduceLE, Nat.reduceAdd, Nat.reduceSub, Nat.reduceBEq, Nat.reduceLT]
    (refine hK _ _ ?_; refine AR.callME hgf (PR := [(1000003, .bx 56 [.t false (.v (.pointer none)), .row 2003 0 l.length]), (2003, .tr false 5 1 (l.map byteT))]) rfl (by first | exact .inl rfl | exact .inr ⟨_, _, rfl, rfl⟩) (fun r row h => lk_pre _ h) (by rw [hP]; exact copyCheck (l := l) (.inl rfl)) rfl ?_; clear hK K; intro K hK)
    simp (disch := first | assumption | omega | (simp only [List.length_cons, List.length_nil, List.length_map, List.length_append, List.length_take, List.length_drop] <;> omega)) only [R0, R1, R2, R3, R4, R5, R6, R7, R8, M0, envOf_nil, envOf_cons, ↓reduceIte, reduceCtorEq, Nat.reduceEqDiff, Int.reduceEq, Int.reduceLT, Int.reduceLE, Nat.reduceAdd, Nat.reduceSub, Nat.reduceBEq, Nat.reduceLT, bldR, bldUsed]
    (refine hK _ _ (AR.keep2 [0, 1] [1000003, 2003] ?_); clear hK K; try simp only [keep2_mk, pickR_nil, pickR_cons, pickB_some, List.map_cons, List.map_nil, lk_nil, lk_cons, lkB_t, lkB_f, Nat.reduceBEq, Option.getD_some, Option.getD_none])
    refine AWI.seq ?_
    refine AWI.region (AR.go fun K hK => ?_)
    simp (disch := first | assumption | omega | (simp only [List.length_cons, List.length_nil, List.length_map, List.length_append, List.length_take, List.length_drop] <;> omega)) only [R0, R1, R2, R3, R4, R5, R6, R7, R8, M0, envOf_nil, envOf_cons, ↓reduceIte, reduceCtorEq, Nat.reduceEqDiff, Int.reduceEq, Int.reduceLT, Int.reduceLE, Nat.reduceAdd, Nat.reduceSub, Nat.reduceBEq, Nat.reduceLT]
    rw [show l.map byteT ++ s.map (fun b => [T.v (.int .u8 b.toNat)]) = (l ++ s).map byteT by rw [List.map_append]; rfl]
    (refine hK _ _ (AR.keep2 [1] [1000003, 2003] ?_); clear hK K; try simp only [keep2_mk, pickR_nil, pickR_cons, pickB_some, List.map_cons, List.map_nil, lk_nil, lk_cons, lkB_t, lkB_f, Nat.reduceBEq, Option.getD_some, Option.getD_none])
    refine AWI.seq ?_
    (refine AWI.region (AR.go fun K hK => ?_); simp (disch := first | assumption | omega | (simp only [List.length_cons, List.length_nil, List.length_map, List.length_append, List.length_take, List.length_drop] <;> omega)) only [R0, R1, R2, R3, R4, R5, R6, R7, R8, M0, envOf_nil, envOf_cons, ↓reduceIte, reduceCtorEq, Nat.reduceEqDiff, Int.reduceEq, Int.reduceLT, Int.reduceLE, Nat.reduceAdd, Nat.reduceSub, Nat.reduceBEq, Nat.reduceLT]; (refine hK _ _ (AR.keep2 [4, 5] [1000003, 2003] ?_); clear hK K; try simp only [keep2_mk, pickR_nil, pickR_cons, pickB_some, List.map_cons, List.map_nil, lk_nil, lk_cons, lkB_t, lkB_f, Nat.reduceBEq, Option.getD_some, Option.getD_none]))
    exact AWI.ret ⟨.inl rfl, _, fun _ _ h => h.norm, rfl, by simp [bldR, bldUsed, AS.norm]⟩
  · refine fm24 (Nat.le_of_ble_eq_true rfl) fun Γ hP hn hgf => ?_; unfold i24
    unfold bldR bldUsed
    refine AWI.seq ?_
    (refine AWI.region (AR.go fun K hK => ?_); simp (disch := first | assumption | omega | (simp only [List.length_cons, List.length_nil, List.length_map, List.length_append, List.length_take, List.length_drop] <;> omega)) only [R0, R1, R2, R3, R4, R5, R6, R7, R8, M0, envOf_nil, envOf_cons, ↓reduceIte, reduceCtorEq, Nat.reduceEqDiff, Int.reduceEq, Int.reduceLT, Int.reduceLE, Nat.reduceAdd, Nat.reduceSub, Nat.reduceBEq, Nat.reduceLT]; (refine hK _ _ (AR.keep2 [0, 1] [1000003, 2003] ?_); clear hK K; try simp only [keep2_mk, pickR_nil, pickR_cons, pickB_some, List.map_cons, List.map_nil, lk_nil, lk_cons, lkB_t, lkB_f, Nat.reduceBEq, Option.getD_some, Option.getD_none]))
    refine AWI.seq ?_
    refine AWI.region (AR.go fun K hK => ?_)
    simp (disch := first | assumption | omega | (simp only [List.length_cons, List.length_nil, List.length_map, List.length_append, List.length_take, List.length_drop] <;> omega)) only [R0, R1, R2, R3, R4, R5, R6, R7, R8, M0, envOf_nil, envOf_cons, ↓reduceIte, reduceCtorEq, Nat.reduceEqDiff, Int.reduceEq, Int.reduceLT, Int.reduceLE, Nat.reduceAdd, Nat.reduceSub, Nat.reduceBEq, Nat.reduceLT]
    (refine hK _ _ ?_; refine AR.callME hgf (PR := [(1000003, .bx 56 [.ptr 1000003 0 0, .row 2003 0 l.length]), (2003, .tr false 5 1 (l.map byteT))]) rfl (by first | exact .inl rfl | exact .inr ⟨_, _, rfl, rfl⟩) (fun r row h => lk_pre _ h) (by rw [hP]; exact copyCheck (l := l) (.inr rfl)) rfl ?_; clear hK K; intro K hK)
    simp (disch := first | assumption | omega | (simp only [List.length_cons, List.length_nil, List.length_map, List.length_append, List.length_take, List.length_drop] <;> omega)) only [R0, R1, R2, R3, R4, R5, R6, R7, R8, M0, envOf_nil, envOf_cons, ↓reduceIte, reduceCtorEq, Nat.reduceEqDiff, Int.reduceEq, Int.reduceLT, Int.reduceLE, Nat.reduceAdd, Nat.reduceSub, Nat.reduceBEq, Nat.reduceLT, bldR, bldUsed]
    (refine hK _ _ (AR.keep2 [0, 1] [1000003, 2003] ?_); clear hK K; try simp only [keep2_mk, pickR_nil, pickR_cons, pickB_some, List.map_cons, List.map_nil, lk_nil, lk_cons, lkB_t, lkB_f, Nat.reduceBEq, Option.getD_some, Option.getD_none])
    refine AWI.seq ?_
    refine AWI.region (AR.go fun K hK => ?_)
    simp (disch := first | assumption | omega | (simp only [List.length_cons, List.length_nil, List.length_map, List.length_append, List.length_take, List.length_drop] <;> omega)) only [R0, R1, R2, R3, R4, R5, R6, R7, R8, M0, envOf_nil, envOf_cons, ↓reduceIte, reduceCtorEq, Nat.reduceEqDiff, Int.reduceEq, Int.reduceLT, Int.reduceLE, Nat.reduceAdd, Nat.reduceSub, Nat.reduceBEq, Nat.reduceLT]
    rw [show l.map byteT ++ s.map (fun b => [T.v (.int .u8 b.toNat)]) = (l ++ s).map byteT by rw [List.map_append]; rfl]
    (refine hK _ _ (AR.keep2 [1] [1000003, 2003] ?_); clear hK K; try simp only [keep2_mk, pickR_nil, pickR_cons, pickB_some, List.map_cons, List.map_nil, lk_nil, lk_cons, lkB_t, lkB_f, Nat.reduceBEq, Option.getD_some, Option.getD_none])
    refine AWI.seq ?_
    (refine AWI.region (AR.go fun K hK => ?_); simp (disch := first | assumption | omega | (simp only [List.length_cons, List.length_nil, List.length_map, List.length_append, List.length_take, List.length_drop] <;> omega)) only [R0, R1, R2, R3, R4, R5, R6, R7, R8, M0, envOf_nil, envOf_cons, ↓reduceIte, reduceCtorEq, Nat.reduceEqDiff, Int.reduceEq, Int.reduceLT, Int.reduceLE, Nat.reduceAdd, Nat.reduceSub, Nat.reduceBEq, Nat.reduceLT]; (refine hK _ _ (AR.keep2 [4, 5] [1000003, 2003] ?_); clear hK K; try simp only [keep2_mk, pickR_nil, pickR_cons, pickB_some, List.map_cons, List.map_nil, lk_nil, lk_cons, lkB_t, lkB_f, Nat.reduceBEq, Option.getD_some, Option.getD_none]))
    exact AWI.ret ⟨.inl rfl, _, fun _ _ h => h.norm, rfl, by simp [bldR, bldUsed, AS.norm]⟩
/-- the same, as a caller has the builder -/
def bldC (c0 : C) (f2 : Bool) (l : List UInt8) : List (Nat × Row) := [(1000003, .bx 56 [c0, .row 2003 0 l.length]), (2003, .tr f2 5 1 (l.map byteT))]
def bldOk (c0 : C) : Prop := c0 = .t true (.v (.pointer none)) ∨ c0 = bldUsed
theorem writeByteC {c0 : C} (hc0 : bldOk c0) {f2 fr : Bool} {l : List UInt8} {c : UInt8} (hl : l.length ≤ 100000000) : CtrM Try.prog 23 [.c (.ptr 1000003 0 0), .c (.t fr (.v (.int .u8 c.toNat)))] ((bldC c0 f2 l).map fun p => (p.1, lendR p.2))
    fun av rs => av = .c (.t true (.v .nilIface)) ∧ rs = bldR bldUsed (l ++ [c]) := by
  rcases hc0 with rfl | rfl
  · exact writeByte (.inl rfl) hl
  · exact writeByte (.inr rfl) hl
theorem writeStringC {c0 : C} (hc0 : bldOk c0) {f2 fr : Bool} {l s : List UInt8} (hl : l.length ≤ 100000000) (hs : s.length ≤ 100000000) : CtrM Try.prog 24 [.c (.ptr 1000003 0 0), .c (.t fr (.v (.string (bs s))))] ((bldC c0 f2 l).map fun p => (p.1, lendR p.2))
    fun av rs => av = .tup [.c (.t true (.v (.int .i64 s.length))), .c (.t true (.v .nilIface))] ∧ rs = bldR bldUsed (l ++ s) := by
  rcases hc0 with rfl | rfl
  · exact writeString (.inl rfl) hl hs
  · exact writeString (.inr rfl) hl hs
theorem bldOk.kill {c0 : C} (h : bldOk c0) (r : Nat) (hr : r < 1000000) : kill r c0 = c0 := by
  rcases h with rfl | rfl
  · rfl
  · have : ¬ 1000003 = r := by omega
    simp [bldUsed, Eng.kill, this]
/-- the text that a builder holds is read, and the builder is not used again -/
theorem AR.bldString {Γ : Ctx} {R : Exit → AS → Prop} {i : I} {l' : List I} {s : Nat} {st : AS} {l : List UInt8} (hP : Γ.P = Try.prog) (hX : ∀ b, ¬ Γ.X b) (hm : Γ.g = false ∧ ∀ r, Γ.pin r = none) (hi : i.o = .call 25 [.t s]) (hg : i.g = none)
    (hs : st.get s = .c (.ptr 1000003 0 0))
    (hb : (l = [] ∧ ∃ f0 f1, st.row 1000003 = some (.bx 56 [.t f0 (.v (.pointer none)), .t f1 (.v (.slice none 0 0))])) ∨
      (l ≠ [] ∧ st.row 1000003 = some (.bx 56 [bldUsed, .row 2003 0 l.length]) ∧ ∃ fr, st.row 2003 = some (.tr fr 5 1 (l.map byteT))))
    (hk : AR Γ l' R (AS.putO ⟨[], []⟩ i.d (.c (.t true (.v (.string (bs l))))))) : AR Γ (i :: l') R st := by
  intro ops j o ho hx a w R' K hsat hK
  unfold wpOp
  simp only [ho]
  obtain ⟨hd, hoo⟩ := of_o hx
  have hnb : i.o ≠ .bad := by rw [hi]; simp
  rcases hoo with ⟨_, hb'⟩ | ⟨hins, hlt, hgd⟩
  · exact absurd hb' hnb
  have hw : Region.wanted o (yielded ops a.tmps) = true := by
    rcases hgd with ⟨_, hgd⟩ | ⟨q, b, s, hg1, hgd, hsl⟩
    · simp [Region.wanted, hgd]
    · rw [hg] at hg1; cases hg1
  rw [if_pos hw]
  refine .inl ?_
  obtain ⟨ρ, hsat⟩ := hsat
  rw [hi] at hins
  obtain ⟨c, hop, hoc⟩ := of_call hins.symm
  obtain ⟨hcal, hxs⟩ := ofCall_call hoc
  have hrow : ∃ c0 c1, st.row 1000003 = some (.bx 56 [c0, c1]) := by
    rcases hb with ⟨_, f0, f1, h⟩ | ⟨_, h, _⟩
    · exact ⟨_, _, h⟩
    · exact ⟨_, _, h⟩
  obtain ⟨c0, c1, hrow⟩ := hrow
  have hptr := hsat.env s
  rw [hs] at hptr
  have hrr := hsat.rows _ _ hrow
  cases hrr with
  | bx _ _ la cur hla hss hh htt hf =>
    have hval : a.tmps.getD s undef = .pointer (some ⟨la.b, 0, none⟩) := by
      revert hptr
      generalize a.tmps.getD s undef = y
      intro hptr
      cases hptr with
      | c _ _ hc => cases hc with
        | ptr _ _ _ la' hla' =>
          rw [hla] at hla'
          injection hla' with hla'
          subst hla'
          simp
    have hargs : c.args.map a.eval = #[.pointer (some ⟨la.b, 0, none⟩)] := by
      apply Array.ext'
      rw [Array.toList_map]
      have h1 : c.args.toList.map Od.of = [.t s] := hxs.symm
      generalize c.args.toList = args at h1
      cases args with
      | nil => simp at h1
      | cons x r =>
        cases r with
        | cons y r => simp at h1
        | nil =>
          simp only [List.map_cons, List.map_nil, List.cons.injEq, and_true] at h1 ⊢
          cases x with
          | tmp t => simp only [Od.of] at h1; injection h1 with h1; subst h1; exact hval
          | _ => simp [Od.of] at h1
    obtain ⟨x0, hx0, hc0r⟩ := hf 0 c0 rfl
    obtain ⟨x1, hx1, hc1r⟩ := hf 1 c1 rfl
    have hcur : cur = #[x0, x1] := by
      apply Array.ext'
      apply List.ext_getElem?
      intro k
      match k with
      | 0 => simpa using hx0
      | 1 => simpa using hx1
      | k + 2 =>
        have : cur.size = 2 := htt
        simp [Array.getElem?_eq_none, this]
    subst hcur
    have hown := hsat.own _ _ la hrow hla
    have hB : Γ.w0.heap.size ≤ la.b := hown.1.resolve_right (hX _)
    have hBld : Lib.IsBuilder 56 5 Γ.w0.heap.size la.b (Lib.byteCells l) w := by
      rcases hb with ⟨rfl, f0, f1, h⟩ | ⟨hne, h, fr, h2⟩
      · rw [h] at hrow
        injection hrow with hrow
        injection hrow with _ hrow
        simp only [List.cons.injEq, and_true] at hrow
        obtain ⟨rfl, rfl⟩ := hrow
        have e0 : x0 = .pointer none := by cases hc0r with | t _ _ _ ht => cases ht with | v _ _ => rfl
        have e1 : x1 = .slice none 0 0 := by cases hc1r with | t _ _ _ ht => cases ht with | v _ _ => rfl
        subst e0 e1
        exact .inl ⟨hB, _, hh, ⟨rfl, .inl ⟨rfl, rfl⟩⟩, by simp [Value.ownBlock]⟩
      · rw [h] at hrow
        injection hrow with hrow
        injection hrow with _ hrow
        simp only [List.cons.injEq, and_true] at hrow
        obtain ⟨rfl, rfl⟩ := hrow
        have e0 : x0 = .pointer (some ⟨la.b, 0, none⟩) := by
          cases hc0r with
          | ptr _ _ _ la' hla' =>
            rw [hla] at hla'
            injection hla' with hla'
            subst hla'
            simp
        subst e0
        have hrr2 := hsat.rows _ _ h2
        have hn0 : 0 < l.length := List.length_pos_iff.2 hne
        obtain ⟨es, hes⟩ : ∃ es, es = l.map byteT := ⟨_, rfl⟩
        rw [← hes] at hrr2
        cases hrr2 with
        | nil _ _ _ hnil => have := congrArg List.length hes; simp at this; omega
        | tr _ _ _ _ la2 cur2 hla2 hss2 hh2 htt2 hl2 hz2 hf2 =>
          have hv : ∃ cap, x1 = .slice (some ⟨la2.b, 0, none⟩) l.length cap ∧ cap = la2.tot ∧ l.length ≤ cap ∧ cap ≤ maxLen := by
            generalize hn : l.length = n at *
            cases hc1r with
            | row _ _ _ cap la' hla' hcb hcn hcm =>
              rw [hla2] at hla'
              injection hla' with hla'
              subst hla'
              rw [hss2] at hcb
              exact ⟨cap, by simp, by omega, hcn, hcm⟩
            | row0 => omega
          obtain ⟨cap, rfl, hcap, hcn, hcm⟩ := hv
          have hown2 := hsat.own _ _ la2 h2 hla2
          refine .inr ⟨hB, _, hh, ⟨by simp [Lib.byteCells], .inr ⟨la2.b, cap, cur2, by simp [Lib.byteCells], hown2.1.resolve_right (hX _), hh2, by simpa [Lib.byteCells] using hcn, hcm, by rw [htt2, hcap, Nat.mul_one], ?_⟩⟩, ?_⟩
          · apply List.ext_getElem?
            intro k
            rw [List.getElem?_take]
            have hbl : (Lib.byteCells l).length = l.length := by simp [Lib.byteCells]
            by_cases hk : k < l.length
            · rw [if_pos (by rw [hbl]; omega)]
              obtain ⟨y, hy, hyt⟩ := hf2 k 0 (byteT l[k]) (.v (.int .u8 l[k].toNat)) (by rw [hes]; simp [hk]) rfl
              have : y = .int .u8 l[k].toNat := by cases hyt with | v _ _ => rfl
              subst this
              simp only [Nat.mul_one, Nat.add_zero] at hy
              rw [Array.getElem?_toList, hy]
              simp [Lib.byteCells, hk]
            · rw [if_neg (by rw [hbl]; omega), List.getElem?_eq_none (by rw [hbl]; omega)]
          · simp only [Value.ownBlock]
            intro e
            injection e with e
            exact absurd (hsat.inj 2003 1000003 _ _ la2 la h2 h hla2 hla e) (by decide)
    have hcallable : callable Γ.P 25 = true := by rw [hP]; kernel_rfl
    refine callOp hop hcal (f := 25) (caps := #[]) rfl hcallable ?_
    rw [hargs, Array.append_empty, hP]
    refine (Try.Builder_String_any Γ.w0.heap.size la.b l w hBld hsat.fr.size).mono fun e w' h => ?_
    obtain ⟨he, hbel⟩ := h
    refine ⟨.string ⟨l.toArray⟩, he, ?_⟩
    have hend : SatAt Γ (fun _ => none) ⟨[], []⟩ a w' := by
      refine ⟨hsat.defers, hsat.size, fun i => .any _, fun r row hr => by simp [AS.row, lk] at hr, fun r r' row row' la la' h1 => by simp [AS.row, lk] at h1, fun r row la h1 => by simp [AS.row, lk] at h1, ?_, hsat.lent, fun r la hp => by rw [hm.2] at hp; cases hp⟩
      exact ⟨hbel.os.trans hsat.fr.os, hbel.tape.trans hsat.fr.tape, hbel.output.trans hsat.fr.output, Nat.le_trans hsat.fr.size hbel.size, fun b hb' hx' => (hbel.block b hb').trans (hsat.fr.block b hb' hx')⟩
    have hsP : Sat Γ (AS.putO ⟨[], []⟩ i.d (.c (.t true (.v (.string (bs l)))))) (a.put o.dst (.string ⟨l.toArray⟩)) w' := by
      rw [hd]
      exact ⟨_, hend.putO o.dst hlt (.c _ _ (.t true _ _ (.v _ rfl)))⟩
    exact hK _ w' _ trivial hk hsP fun hx2 => (by rw [hm.1] at hx2; cases hx2)
end Go.Proofs.Ytnealepilmobjaa
