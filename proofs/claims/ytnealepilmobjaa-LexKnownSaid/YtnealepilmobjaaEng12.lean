/-
  The engine, part 12: stores and append; every step is right.
-/
import Derived.Test.YtnealepilmobjaaEng11
import Derived.Lib.AppendStr
set_option linter.unusedVariables false
set_option linter.unusedSimpArgs false
namespace Go.Eng
open Go.RowKit

section
variable {Γ : Ctx} {ρ : Nat → Option RowAt} {st : AS} {a : Act} {w : World}

theorem run_storeVar_at {P : Program} {t : TypeId} {s : Nat} (hs : sizeT P t = some s) (g o : Nat) (ty : TypeId) (cur : Array Value) (v : Value) (hh : w.heap[g]? = some (.cells cur ty (0, 0))) (hv : v.cells.size = s)
    (hl : o + s ≤ cur.size) (h1 : ∀ x, x ∈ v.cells.toList → x.oneCell' = true) :
    (storeVar t ⟨g, o, none⟩ v).run P w = .ok () (w.setRow g (setL cur.toList o v.cells.toList).toArray) := by
  have hr := run_storeCells_at P g o ty v.cells.toList 0 cur w hh (by simp; omega) h1
  simp only [Nat.add_zero] at hr
  have hs' := run_sizeOf (P := P) hs w
  unfold storeVar
  simp only [Sem.run_bind, hs', Result.andThen_ok, hv, ne_eq, not_true_eq_false, if_false]
  simpa [setL] using hr

theorem snd_store {o : Oper} {t : TypeId} {x y : Operand} {s : Nat} (ho : o.op = .store t x y) (hsz : sizeT Γ.P t = some s) {d : Nat} {st' : AS} {v : AV} (h : SatAt Γ ρ st a w)
    (hs : step (.store s (Od.of x) (Od.of y)) d st = some (st', v)) : Done Γ o a w st' v := by
  have hev := h.ev x
  have hex : ∀ p w', a.eval x = .pointer (some p) → (storeVar t p (a.eval y)).run Γ.P w = .ok () w' → (execOp a.eval o).run Γ.P w = .ok .skip w' := by
    intro p w' hp hr
    simp [execOp, ho, Instr.storeAt, Instr.sureAddr, hp, hr]
  simp only [step] at hs
  split at hs
  case h_2 => cases hs
  rename_i r k j ds hx hds
  rw [hx] at hev
  obtain ⟨la, hla, hc'⟩ := hev.cInv.ptrInv
  obtain ⟨hv1, hv2⟩ := (h.ev y).cellsInv hds
  have hone : ∀ u, u ∈ (a.eval y).cells.toList → u.oneCell' = true := by
    intro u hu
    obtain ⟨i, hi, rfl⟩ := List.getElem_of_mem hu
    have hi' : i < ds.length := by rw [← hv1]; simpa using hi
    have := hv2 i ds[i] (List.getElem?_eq_getElem hi')
    rw [getD_toList, List.getD_eq_getElem?_getD, List.getElem?_eq_getElem hi] at this
    exact this.one
  split at hs
  · rename_i ty cs hrow
    obtain ⟨⟨hd, rfl, hj⟩, he⟩ := need_some hs
    injection he with he
    obtain ⟨rfl, rfl⟩ := Prod.mk.inj he
    have hrr := h.rows r _ hrow
    cases hrr with
    | bx _ _ la1 cur hl1 hss hh htt hf =>
      rw [hl1] at hla
      injection hla with hla
      subst hla
      have hst := run_storeVar_at (w := w) hsz la1.b (0 * la1.size + j) ty cur (a.eval y) hh (by omega) (by omega) hone
      refine ⟨undef, _, ρ, .inr ⟨hex _ _ hc' hst, rfl⟩, ?_, .any _, fun hq => (by rw [ho] at hq; cases hq), fun hq => (by rw [ho] at hq; cases hq)⟩
      have hfit : j + ds.length ≤ cs.length := by omega
      have hfit' : 0 * la1.size + j + (a.eval y).cells.toList.length ≤ cur.toList.length := by simp; omega
      refine h.upd_ r _ _ la1 hrow hl1 rfl rfl rfl (by simp) (fun b hb => setRow_other w _ b _ hb) fun hwF hwA => ?_
      refine .bx ty _ la1 _ hl1 (by rw [setL_length _ _ _ hfit]; exact hss) (setRow_heap w la1.b cur _ ty _ hh) (by simp only [List.size_toArray, setL_length _ _ _ hfit, setL_length _ _ _ hfit']; simpa using htt) fun i c hi => ?_
      rw [setL_get _ _ _ hfit] at hi
      simp only [List.getElem?_toArray]
      rw [setL_get _ _ _ hfit']
      have hlen : (a.eval y).cells.toList.length = ds.length := by simpa using hv1
      rw [hlen, Nat.zero_mul, Nat.zero_add]
      have hcm : ∀ c x, CRep ρ (SFof Γ st ρ w) (SAof Γ st ρ w) w c x → CRep ρ (SFof Γ st ρ w) (SAof Γ st ρ w) (w.setRow la1.b (setL cur.toList (0 * la1.size + j) (a.eval y).cells.toList).toArray) c x :=
        fun c x hc => hc.mono rfl (fun _ h => h) (fun _ h => h) hwF hwA
      by_cases h1 : i < j
      · rw [if_pos h1] at hi ⊢
        obtain ⟨x, hx, hxr⟩ := hf i c hi
        exact ⟨x, by simpa using hx, by simpa using hcm c x hxr⟩
      · rw [if_neg h1] at hi ⊢
        by_cases h2 : i < j + ds.length
        · rw [if_pos h2] at hi ⊢
          have := hv2 (i - j) c hi
          have hlt : i - j < (a.eval y).cells.toList.length := by omega
          refine ⟨_, List.getElem?_eq_getElem hlt, ?_⟩
          rw [getD_toList, List.getD_eq_getElem?_getD, List.getElem?_eq_getElem hlt] at this
          simpa using hcm c _ this
        · rw [if_neg h2] at hi ⊢
          obtain ⟨x, hx, hxr⟩ := hf i c hi
          exact ⟨x, by simpa using hx, by simpa using hcm c x hxr⟩
  · rename_i fr ty sz es hrow
    split at hs
    case h_2 => cases hs
    rename_i fr1 ts hts
    obtain ⟨⟨hd, hk, hj, hfr⟩, he⟩ := need_some hs
    injection he with he
    obtain ⟨rfl, rfl⟩ := Prod.mk.inj he
    obtain ⟨ht1, ht2⟩ := trees_rep (ρ := ρ) (w := w) (SF := SFof Γ st ρ w) (SA := SAof Γ st ρ w) SF_sub hts
    have ht3 := ht2 (fun i => (a.eval y).cells.getD i undef) hv2
    have hrr := h.rows r _ hrow
    cases hrr with
    | nil => simp at hk
    | tr _ _ _ _ la1 cur hl1 hss hh htt hl hz hf =>
      rw [hl1] at hla
      injection hla with hla
      subst hla
      have hfl : Flat (if fr = true then SFof Γ st ρ w else SAof Γ st ρ w) w sz es (cur.toList.take (es.length * sz)) := by
        refine ⟨by simp; omega, hz, fun k i e t hk hi => ?_⟩
        obtain ⟨x, hx, ht⟩ := hf k i e t hk hi
        refine ⟨x, ?_, ht⟩
        have hk' := (List.getElem?_eq_some_iff.1 hk).1
        have hi' : i < sz := by rw [← hz e (List.mem_of_getElem? hk)]; exact (List.getElem?_eq_some_iff.1 hi).1
        rw [List.getElem?_take, if_pos (idx_lt hk' hi')]
        simpa using hx
      have hge : k * sz + sz ≤ es.length * sz := by rw [← Nat.succ_mul]; exact Nat.mul_le_mul_right _ hk
      have hst := run_storeVar_at (w := w) hsz la1.b (k * la1.size + j) ty cur (a.eval y) hh (by omega) (by rw [hss]; omega) hone
      refine ⟨undef, _, ρ, .inr ⟨hex _ _ hc' hst, rfl⟩, ?_, .any _, fun hq => (by rw [ho] at hq; cases hq), fun hq => (by rw [ho] at hq; cases hq)⟩
      have hsub : ∀ b, (if fr1 = true then SFof Γ st ρ w else SAof Γ st ρ w) b → (if fr = true then SFof Γ st ρ w else SAof Γ st ρ w) b := by
        intro b hb
        cases fr
        · cases fr1
          · exact hb
          · simpa using SF_sub b (by simpa using hb)
        · rw [hfr rfl] at hb; exact hb
      have hset := hfl.set hk (j := j) (ts := ts) (ys := (a.eval y).cells.toList) (by omega) (by simp; omega) (fun i t hi => by
        have := (ht3 i t hi).mono hsub (fun _ _ => rfl)
        rwa [getD_toList] at this)
      have hyl : (a.eval y).cells.toList.length = ts.length := by simp; omega
      have hfit : k * sz + j + (a.eval y).cells.toList.length ≤ cur.toList.length := by simp at hyl ⊢; omega
      have hfit2 : k * sz + j + (a.eval y).cells.toList.length ≤ (cur.toList.take (es.length * sz)).length := by simp at hyl ⊢; omega
      refine h.upd_ r _ _ la1 hrow hl1 rfl rfl rfl (by simp) (fun b hb => setRow_other w _ b _ hb) fun hwF hwA => ?_
      rw [hss] at hwF hwA ⊢
      refine .tr fr ty sz _ la1 _ hl1 hss (setRow_heap w la1.b cur _ ty _ hh) (by simp only [List.size_toArray, setL_length _ _ _ hfit]; simpa using htt) (by simpa using hl) hset.2.1 fun k' i e t hk' hi => ?_
      obtain ⟨x, hx, ht⟩ := hset.2.2 k' i e t hk' hi
      have hlt := (List.getElem?_eq_some_iff.1 hx).1
      rw [setL_length _ _ _ hfit2] at hlt
      refine ⟨x, ?_, ?_⟩
      · simp only [List.getElem?_toArray]
        rw [← hx, setL_get _ _ _ hfit, setL_get _ _ _ hfit2]
        have : (cur.toList.take (es.length * sz))[k' * sz + i]? = cur.toList[k' * sz + i]? := by
          rw [List.getElem?_take, if_pos (by simp at hlt; omega)]
        rw [this]
      · cases fr
        · exact ht.mono (fun _ h => h) (by simpa using hwA)
        · exact ht.mono (fun _ h => h) (by simpa using hwF)
  · cases hs

/-- what is appended: its cells, in the world as it stands and behind a draw -/
def Src (P : Program) (S : Nat → Prop) (w : World) (size : Nat) (news : List (List T)) (V : Value) (xs : List Value) : Prop :=
  Flat S w size news xs ∧ (∀ W : World, W.heap = w.heap → (Builtin.firstCells size news.length V).run P W = .ok xs.toArray W) ∧ ∀ W : World, (Builtin.lenOf V).run P W = .ok news.length W
theorem lenOf_slice {P : Program} {A : Option Addr} {n c : Nat} (W : World) : (Builtin.lenOf (.slice A n c)).run P W = .ok n W := by simp [Builtin.lenOf]
theorem lenOf_string {P : Program} {s : ByteArray} (W : World) : (Builtin.lenOf (.string s)).run P W = .ok s.size W := by simp [Builtin.lenOf]

theorem run_first {P : Program} (size n : Nat) (b o len cap : Nat) (xs : List Value) (hl : xs.length = n * size) (hc : ∀ j u, xs[j]? = some u → w.cell? ⟨b, o + j, none⟩ = some u) :
    ∀ W : World, W.heap = w.heap → (Builtin.firstCells size n (.slice (some ⟨b, o, none⟩) len cap)).run P W = .ok xs.toArray W := by
  intro W hW
  refine run_firstCells_some W size n ⟨b, o, none⟩ len cap xs hl fun j u hu => ?_
  rw [addr_add]
  have := hc j u hu
  rwa [← World.cell?_of_block (w' := W) (w := w) (by rw [hW])] at this
theorem run_first0 {P : Program} (size : Nat) (A : Option Addr) (len cap : Nat) (W : World) : (Builtin.firstCells size 0 (.slice A len cap)).run P W = .ok #[] W := by
  cases A <;> simp [Builtin.firstCells, loadCells, loadCellsFrom]

theorem src_rep (h : SatAt Γ ρ st a w) {y : Operand} {size : Nat} {fr : Bool} {news : List (List T)}
    (hs : (match st.ev (Od.of y) with
      | .c (.row r off n) => match st.row r with
        | some (.tr fr _ sz es) => need (sz = size ∧ off + n ≤ es.length) (some (fr, (es.drop off).take n))
        | _ => none
      | .c (.t fr (.sl sz es)) => need (sz = size) (some (fr, es))
      | .c (.t _ (.v (.slice none 0 0))) => some (true, [])
      | .c (.t _ (.v (.string s))) => need (size = 1) (some (true, s.data.toList.map fun b => [.v (.int .u8 b.toNat)]))
      | _ => none) = some (fr, news)) :
    ∃ V xs, a.eval y = V ∧ Src Γ.P (if fr = true then SFof Γ st ρ w else SAof Γ st ρ w) w size news V xs := by
  have hev := h.ev y
  split at hs
  · rename_i r off n hy
    rw [hy] at hev
    split at hs
    case h_2 => cases hs
    rename_i fr1 ty sz es hrow
    obtain ⟨⟨rfl, hle⟩, he⟩ := need_some hs
    injection he with he
    obtain ⟨rfl, rfl⟩ := Prod.mk.inj he
    have hlen : ((es.drop off).take n).length = n := by simp; omega
    rcases hev.cInv.rowInv with ⟨la, cap, hla, hc', hb, hn, hm⟩ | ⟨rfl, A, hc'⟩
    · have hrr := h.rows r _ hrow
      cases hrr with
      | nil _ _ _ hnil => rw [hnil] at hla; cases hla
      | tr _ _ _ _ la1 cur hl1 hss hh htt hl hz hf =>
        rw [hl1] at hla
        injection hla with hla
        subst hla
        have hge : off * sz + n * sz ≤ es.length * sz := by rw [← Nat.add_mul]; exact Nat.mul_le_mul_right _ hle
        have hfl : Flat (if fr1 = true then SFof Γ st ρ w else SAof Γ st ρ w) w sz ((es.drop off).take n) ((cur.toList.drop (off * sz)).take (n * sz)) := by
          refine ⟨by rw [hlen]; simp; omega, fun e he => hz e (List.mem_of_mem_drop (List.mem_of_mem_take he)), fun k i e t hk hi => ?_⟩
          have hk' := (List.getElem?_eq_some_iff.1 hk).1
          rw [hlen] at hk'
          rw [List.getElem?_take, if_pos hk', List.getElem?_drop] at hk
          obtain ⟨x, hx, ht⟩ := hf _ i e t hk hi
          have hi' : i < sz := by rw [← hz e (List.mem_of_getElem? hk)]; exact (List.getElem?_eq_some_iff.1 hi).1
          refine ⟨x, ?_, ht⟩
          rw [List.getElem?_take, if_pos (idx_lt hk' hi'), List.getElem?_drop]
          rw [show off * sz + (k * sz + i) = (off + k) * sz + i by rw [Nat.add_mul]; omega]
          simpa using hx
        refine ⟨_, _, hc', hfl, ?_, fun W => by rw [lenOf_slice, hlen]⟩
        refine run_first sz _ _ _ _ _ _ hfl.1 fun j u hu => ?_
        rw [List.getElem?_take] at hu
        split at hu
        · rw [List.getElem?_drop] at hu
          rw [cell_of_row w la1.b _ cur ty (0, 0) hh, hss]
          simpa using hu
        · cases hu
    · have hnil : (es.drop off).take 0 = [] := by simp
      rw [hnil]
      exact ⟨_, [], hc', Flat.nil, fun W _ => run_first0 sz A _ _ W, fun W => lenOf_slice W⟩
  · rename_i fr1 sz es hy
    obtain ⟨rfl, he⟩ := need_some hs
    injection he with he
    obtain ⟨rfl, rfl⟩ := Prod.mk.inj he
    rw [hy] at hev
    obtain ⟨A, cap, f, hc', hcap, hm, hz, hA, hf⟩ := hev.cInv.slInv
    rcases hA with h0 | ⟨b, o', rfl, hb, hcell⟩
    · subst h0
      exact ⟨_, [], hc', Flat.nil, fun W _ => run_first0 sz A _ _ W, fun W => lenOf_slice W⟩
    · have hfl : Flat (if fr1 = true then SFof Γ st ρ w else SAof Γ st ρ w) w sz es ((List.range (es.length * sz)).map fun j => f (j / sz) (j % sz)) := by
        refine ⟨by simp, hz, fun k i e t hk hi => ?_⟩
        have hk' := (List.getElem?_eq_some_iff.1 hk).1
        have hi' : i < sz := by rw [← hz e (List.mem_of_getElem? hk)]; exact (List.getElem?_eq_some_iff.1 hi).1
        refine ⟨f k i, ?_, hf k i e t hk hi⟩
        rw [List.getElem?_map, List.getElem?_range (idx_lt hk' hi')]
        have h1 : (k * sz + i) / sz = k := by rw [Nat.add_comm, Nat.add_mul_div_right _ _ (by omega), Nat.div_eq_of_lt hi']; omega
        have h2 : (k * sz + i) % sz = i := by rw [Nat.add_comm, Nat.add_mul_mod_self_right]; exact Nat.mod_eq_of_lt hi'
        simp [h1, h2]
      refine ⟨_, _, hc', hfl, ?_, fun W => lenOf_slice W⟩
      refine run_first sz _ _ _ _ _ _ hfl.1 fun j u hu => ?_
      rw [List.getElem?_map] at hu
      by_cases hj : j < es.length * sz
      · rw [List.getElem?_range hj] at hu
        simp at hu
        subst hu
        have hs0 : 0 < sz := by
          rcases Nat.eq_zero_or_pos sz with h0 | h0
          · rw [h0] at hj; simp at hj
          · exact h0
        have := hcell (j / sz) (j % sz) (Nat.div_lt_of_lt_mul (by rw [Nat.mul_comm]; exact hj)) (Nat.mod_lt _ hs0)
        rwa [Nat.div_add_mod'] at this
      · rw [List.getElem?_eq_none (by simp; omega)] at hu
        simp at hu
  · rename_i fr1 hy
    injection hs with hs
    obtain ⟨rfl, rfl⟩ := Prod.mk.inj hs
    rw [hy] at hev
    exact ⟨_, [], hev.vEq, Flat.nil, fun W _ => run_first0 size none _ _ W, fun W => lenOf_slice W⟩
  · rename_i fr1 s hy
    obtain ⟨rfl, he⟩ := need_some hs
    injection he with he
    obtain ⟨rfl, rfl⟩ := Prod.mk.inj he
    rw [hy] at hev
    refine ⟨_, Lib.strCells s, hev.vEq, ⟨by simp [Lib.strCells], by simp, fun k i e t hk hi => ?_⟩, fun W _ => ?_, fun W => ?_⟩
    · rw [List.getElem?_map] at hk
      cases hb : s.data.toList[k]? with
      | none => simp [hb] at hk
      | some b =>
        simp [hb] at hk
        subst hk
        cases i with
        | zero =>
          simp at hi
          subst hi
          refine ⟨.int .u8 b.toNat, ?_, .v _ rfl⟩
          simp [Lib.strCells, hb]
        | succ i => simp at hi
    · have := Lib.run_firstCells_string (P := Γ.P) W 1 s
      rw [List.length_map, Array.length_toList]
      exact this
    · rw [lenOf_string, List.length_map, Array.length_toList]; rfl
  · cases hs

theorem run_app_grow {P : Program} {t u ty e : TypeId} {i : TypeInfo} {z : Value} (hu : P.underlying t = some (.slice e)) (huu : u = t ∨ P.underlying u = some .string) (hi : P.info? e = some i) (hz : i.zero = some z)
    {D : Option Addr} {V : Value} {n cap m : Nat} {olds news : List Value} (ho : ∀ W : World, W.heap = w.heap → (Builtin.firstCells i.size n (.slice D n cap)).run P W = .ok olds.toArray W)
    (hn : ∀ W : World, W.heap = w.heap → (Builtin.firstCells i.size m V).run P W = .ok news.toArray W) (hV : ∀ W : World, (Builtin.lenOf V).run P W = .ok m W)
    (hg : cap < n + m) (h63 : n + m ≤ 9223372036854775807) (hb : (n + m) * i.bytes ≤ 140737488355328) :
    (Builtin.append_ #[t, u] ty #[.slice D n cap, V]).run P w =
      .ok (.slice (some ⟨w.heap.size, 0, none⟩) (n + m) (grownCap w (n + m) cap e))
        (w.drew.alloc (.cells (olds ++ news ++ (Builtin.zeroCells z.cells (grownCap w (n + m) cap e - (n + m))).toList).toArray e)) := by
  have h1 : ¬ (n + m ≤ cap) := by omega
  have h2 : ¬ (9223372036854775807 < ((n : Int) + (m : Int))) := by omega
  have h3 : ¬ (281474976710656 < Builtin.nextslicecap (n + m) cap * i.bytes) := by have := growslice_fits hg hb; omega
  have ho' := ho w.drew rfl
  have hn' := hn w.drew rfl
  have hV' := hV w
  rcases huu with rfl | huu
  · simp [Builtin.append_, run_underlying hu, sizeOf, typeInfo, zeroValue, hi, hz, hV', h1, h2, h3, Question.forced, ho', hn', newRow, grownCap]
    congr 2
    apply Array.ext'
    simp
  · simp [Builtin.append_, run_underlying hu, run_underlying huu, sizeOf, typeInfo, zeroValue, hi, hz, hV', h1, h2, h3, Question.forced, ho', hn', newRow, grownCap]
    congr 2
    apply Array.ext'
    simp

theorem run_app_room {P : Program} {t u ty e : TypeId} {i : TypeInfo} (hu : P.underlying t = some (.slice e)) (huu : u = t ∨ P.underlying u = some .string) (hi : P.info? e = some i)
    {g n cap m : Nat} {V : Value} {news : List Value} {cur : Array Value} (hh : w.heap[g]? = some (.cells cur e (0, 0)))
    (hn : ∀ W : World, W.heap = w.heap → (Builtin.firstCells i.size m V).run P W = .ok news.toArray W) (hV : ∀ W : World, (Builtin.lenOf V).run P W = .ok m W) (h1 : ∀ x, x ∈ news → x.oneCell' = true) (hl : news.length = m * i.size)
    (hg : n + m ≤ cap) (hfit : n * i.size + news.length ≤ cur.size) :
    (Builtin.append_ #[t, u] ty #[.slice (some ⟨g, 0, none⟩) n cap, V]).run P w =
      .ok (.slice (some ⟨g, 0, none⟩) (n + m) cap) (w.setRow g (setL cur.toList (n * i.size) news).toArray) := by
  have hst := run_storeCells_at P g (n * i.size) e news 0 cur w hh (by omega) h1
  simp only [Nat.add_zero] at hst
  have hn' := hn w rfl
  have hV' := hV w
  have hadd : (⟨g, 0, none⟩ : Addr).add (n * i.size) = ⟨g, n * i.size, none⟩ := by rw [addr_add, Nat.zero_add]
  rcases huu with rfl | huu
  · simp [Builtin.append_, run_underlying hu, sizeOf, typeInfo, hi, hV', hg, hn', hadd, hst, setL]
  · simp [Builtin.append_, run_underlying hu, run_underlying huu, sizeOf, typeInfo, hi, hV', hg, hn', hadd, hst, setL]
theorem run_app_none {P : Program} {t u ty e : TypeId} {i : TypeInfo} (hu : P.underlying t = some (.slice e)) (huu : u = t ∨ P.underlying u = some .string) (hi : P.info? e = some i) {D : Option Addr} {V : Value}
    (hn : ∀ W : World, W.heap = w.heap → (Builtin.firstCells i.size 0 V).run P W = .ok #[] W) (hV : ∀ W : World, (Builtin.lenOf V).run P W = .ok 0 W) :
    (Builtin.append_ #[t, u] ty #[.slice D 0 0, V]).run P w = .ok (.slice D 0 0) w := by
  have hn' := hn w rfl
  have hV' := hV w
  rcases huu with rfl | huu
  · cases D <;> simp [Builtin.append_, run_underlying hu, sizeOf, typeInfo, hi, hV', hn', storeCells]
  · cases D <;> simp [Builtin.append_, run_underlying hu, run_underlying huu, sizeOf, typeInfo, hi, hV', hn', storeCells]

theorem row0_any {SF SA : Nat → Prop} {ρ' : Nat → Option RowAt} (r n : Nat) (A : Option Addr) (hn : n = 0) : AVRep (CRep ρ' SF SA w) (.c (.row r 0 n)) (.slice A 0 0) := by
  subst hn; exact .c _ _ (.row0 r 0 A)

/-- a new row where nothing was, or in the place of one that can bear no more -/
theorem app_new (h : SatAt Γ ρ st a w) {o : Oper} (hq : opExt o.op = false) {c : Call} {t u e : TypeId} {i : TypeInfo} {z : Value} {x y : Operand}
    (hex : execOp a.eval o = (do pure (.value (← Builtin.append_ #[t, u] o.type #[a.eval x, a.eval y])))) (hu : Γ.P.underlying t = some (.slice e)) (huu : u = t ∨ Γ.P.underlying u = some .string) (hi : Γ.P.info? e = some i) (hz : i.zero = some z)
    (hzs : z.cells.size = i.size) (hpos : 0 < i.size) {D : Option Addr} {V : Value} {n cap : Nat} (hD : a.eval x = .slice D n cap) {news : List (List T)} (hA : a.eval y = V)
    {fr frn : Bool} {es : List (List T)} (hes : es.length = n) {olds xs : List Value} (hold : Src Γ.P (if fr = true then SFof Γ st ρ w else SAof Γ st ρ w) w i.size es (.slice D n cap) olds)
    (hnew : Src Γ.P (if frn = true then SFof Γ st ρ w else SAof Γ st ρ w) w i.size news V xs) (hg : cap < n + news.length) (h63 : n + news.length ≤ 9223372036854775807) (hb : (n + news.length) * i.bytes ≤ 140737488355328) (r : Nat) (hpb : r < 1000000) :
    Done Γ o a w (st.new r (.tr (fr && frn) e i.size (es ++ news))) (.c (.row r 0 (n + news.length))) := by
  have hsub : ∀ (f g : Bool) b, (if f = true then SFof Γ st ρ w else SAof Γ st ρ w) b → (g = true → f = true) → (if g = true then SFof Γ st ρ w else SAof Γ st ρ w) b := by
    intro f g b hb hfg
    cases g
    · cases f
      · exact hb
      · simpa using SF_sub b (by simpa using hb)
    · rw [hfg rfl] at hb; exact hb
  have hfl : Flat (if (fr && frn) = true then SFof Γ st ρ w else SAof Γ st ρ w) w i.size (es ++ news) (olds ++ xs) :=
    (hold.1.mono (fun b hb => hsub fr _ b hb (by simp; intro h1 _; exact h1)) (fun _ _ => rfl)).append (hnew.1.mono (fun b hb => hsub frn _ b hb (by simp)) (fun _ _ => rfl))
  have hr := run_app_grow (w := w) (u := u) (ty := o.type) hu huu hi hz (D := D) (V := V) (n := n) (cap := cap) (m := news.length) (olds := olds) (news := xs) (by have := hold.2.1; rw [hes] at this; exact this) hnew.2.1 hnew.2.2 hg h63 hb
  have hsat := (hfl.mono (w' := w.drew) (fun _ h => h) (fun _ _ => rfl)).newTr h.drew r hpb e (Builtin.zeroCells z.cells (grownCap w (n + news.length) cap e - (n + news.length))).toList
  refine ⟨_, _, _, .inl (exec_v hex (by rw [hD, hA]; exact hr)), hsat, .c _ _ ?_, fun h => (by rw [ext_of_quiet h] at hq; cases hq), fun h => (by rw [hq] at h; cases h)⟩
  have hge := grownCap_ge w (n + news.length) cap e
  have hle := grownCap_le_maxLen w (n + news.length) cap e (by unfold maxLen; omega)
  have hrow : ∀ (SF SA : Nat → Prop) (W : World) (tot : Nat), (grownCap w (n + news.length) cap e) * i.size = tot → CRep (upd ρ r (some ⟨w.heap.size, tot, i.size⟩)) SF SA W (.row r 0 (n + news.length)) (.slice (some ⟨w.heap.size, 0, none⟩) (n + news.length) (grownCap w (n + news.length) cap e)) := by
    intro SF SA W tot htot
    have := CRep.row (ρ := upd ρ r (some ⟨w.heap.size, tot, i.size⟩)) (SF := SF) (SA := SA) (w := W) r 0 (n + news.length) (grownCap w (n + news.length) cap e) ⟨w.heap.size, tot, i.size⟩ (upd_same _ _ _) (by rw [Nat.zero_add]; exact htot) hge hle
    simpa using this
  refine hrow _ _ _ _ ?_
  have hzl : ∀ k, (Builtin.zeroCells z.cells k).toList.length = k * i.size := fun k => by
    rw [show ∀ a : Array Value, a.toList.length = a.size from fun _ => rfl, size_zeroCells, hzs]
  rw [List.length_append, hfl.1, hzl, List.length_append, hes, ← Nat.add_mul]
  congr 1
  omega
end
end Go.Eng
