/- The law FnExactShortSession of plain lists and numbers: whatever the input, it answers true. Condition: the lengths are those of rows that fit a machine. -/
import Derived.Test.YtkkgjljcgnegpaaMFnExactShortSession5
namespace Go.Proofs.Ytkkgjljcgnegpaa.Pure
open Go.RowKit Go.Proofs.Ytkkgjljcgnegpaa.Pall Go.Proofs.YtkkgjljcgnegpaaW.PrintWords Go.Proofs.YtkkgjljcgnegpaaW.PrintLast Go.Proofs.YtkkgjljcgnegpaaW.PrintMore
set_option linter.unusedVariables false
set_option linter.unusedSimpArgs false

/-! ### Ground: rounds, and a row seen as what is behind and what is ahead -/
theorem ev_up {α : Type} {g : Nat → Option α} {r : α} (h : Ev (fun k => g (k + 1)) r) : Ev g r := by
  obtain ⟨K, hK⟩ := h
  refine ⟨K + 1, fun k hk => ?_⟩
  obtain ⟨m, rfl⟩ : ∃ m, k = m + 1 := ⟨k - 1, by omega⟩
  exact hK m (by omega)
theorem ev_eq {α : Type} {g : Nat → Option α} {r r' : α} (h : Ev g r) (e : r = r') : Ev g r' := e ▸ h
theorem ev_bind {α β : Type} {g : Nat → Option α} {f : Nat → α → Option β} {a : α} {r : β} (h : Ev g a) (k : Ev (fun n => f n a) r) : Ev (fun n => (g n).bind (f n)) r := Ev.bind h k
theorem mid_lt {α : Type} (p q : List α) (x : α) : ((p.length : Int) < ((p ++ x :: q).length : Int)) = True := by
  apply eq_true; simp only [List.length_append, List.length_cons]; omega
theorem mid_lt2 {α β : Type} (p : List α) (p' q : List β) (x : β) (h : p.length = p'.length) : ((p.length : Int) < ((p' ++ x :: q).length : Int)) = True := by
  apply eq_true; simp only [List.length_append, List.length_cons]; omega
theorem mid_ge {α : Type} (p : List α) : (0 ≤ (p.length : Int)) = True := by apply eq_true; omega
theorem mid_end {α : Type} (p : List α) : ((p.length : Int) < ((p ++ []).length : Int)) = False := by simp
theorem rd_mid (p q : List Int) (x : Int) : rd (p ++ x :: q) (p.length : Int) = x := by simp [rd]
theorem getD_mid {α : Type} (p q : List α) (x z : α) : (p ++ x :: q).getD ((p.length : Int)).toNat z = x := by simp
theorem set_mid {α : Type} (p q : List α) (x y : α) : (p ++ x :: q).set ((p.length : Int)).toNat y = p ++ y :: q := by simp
theorem set_mid2 {α β : Type} (p : List α) (p' q : List β) (x y : β) (h : p.length = p'.length) : (p' ++ x :: q).set ((p.length : Int)).toNat y = p' ++ y :: q := by simp [h]
theorem wrap_mid {α : Type} (p : List α) (x : α) (h : p.length < 9223372036854775807) : wrap64 ((p.length : Int) + 1) = ((p ++ [x]).length : Int) := by
  unfold wrap64; simp only [List.length_append, List.length_singleton]; omega
theorem step_mid {α : Type} (p q : List α) (x : α) : p ++ x :: q = (p ++ [x]) ++ q := by simp
theorem wrap_id {x : Int} (h0 : -9223372036854775808 ≤ x) (h1 : x ≤ 9223372036854775807) : wrap64 x = x := by unfold wrap64; omega
theorem l1In_eq (a lo hi : Int) : spec_l1In.f a lo hi = some (decide (lo ≤ a ∧ a ≤ hi)) := by
  by_cases h : lo ≤ a <;> simp [spec_l1In.f, h]
theorem eqCell_self (a0 a1 : Int) : laws_eqCell.f a0 a1 a0 a1 = some true := by simp [laws_eqCell.f]
theorem laws_eqCellS_l0 : ∀ (q p : List S58), (p ++ q).length < 9223372036854775807 → Ev (fun k => laws_eqCellS.l0 k (p ++ q) (p ++ q) (p.length : Int)) true
  | [], p, h => by
    refine ev_up ?_
    simp only [laws_eqCellS.l0, mid_end, ↓reduceIte]
    exact Ev.now _
  | x :: q, p, h => by
    have hp : p.length < 9223372036854775807 := by simp only [List.length_append, List.length_cons] at h; omega
    refine ev_up ?_
    simp only [laws_eqCellS.l0, eqCell_self, Option.bind_some, rd_T58, mid_lt, mid_ge, getD_mid, wrap_mid p x hp, ↓reduceIte]
    rw [step_mid p q x] at h ⊢
    exact laws_eqCellS_l0 q (p ++ [x]) h
theorem laws_eqCellS_ev (l : List S58) (h : l.length < 9223372036854775807) : Ev (fun k => laws_eqCellS.f k l l) true := by
  simp only [laws_eqCellS.f, ↓reduceIte]
  simpa using laws_eqCellS_l0 l [] (by simpa using h)
theorem laws_markCellS_l0 : ∀ (q p : List S58) (m : Int), (p ++ q).length < 1000000000000000 → 0 ≤ m → m + 2 * q.length ≤ 1000000000000000 → ∃ q', q'.length = q.length ∧ Ev (fun k => laws_markCellS.l0 k (p ++ q) m (p.length : Int)) (m + 2 * q.length, p ++ q') ∧ Ev (fun k => laws_heldCellS.l0 k (p ++ q') m (p.length : Int)) (m + 2 * q.length)
  | [], p, m, h, h0, h1 => by
    refine ⟨[], rfl, ev_up ?_, ev_up ?_⟩
    · simp only [laws_markCellS.l0, mid_end, ↓reduceIte]
      exact ev_eq (Ev.now _) (by simp)
    · simp only [laws_heldCellS.l0, mid_end, ↓reduceIte]
      exact ev_eq (Ev.now _) (by simp)
  | x :: q, p, m, h, h0, h1 => by
    have hp : p.length < 9223372036854775807 := by simp only [List.length_append, List.length_cons] at h; omega
    have hm1 : wrap64 (m + 1) = m + 1 := by rw [wrap_id (by omega) (by simp only [List.length_cons] at h1; omega)]
    have hm2 : wrap64 (m + 1 + 1) = m + 2 := by rw [wrap_id (by omega) (by simp only [List.length_cons] at h1; omega)]; omega
    obtain ⟨q', hl, hA, hB⟩ := laws_markCellS_l0 q (p ++ [⟨m, m + 1⟩]) (m + 2) (by simp only [List.length_append, List.length_cons, List.length_nil] at h ⊢; omega) (by omega) (by simp only [List.length_cons] at h1; omega)
    have e : (m + 2) + 2 * (q.length : Int) = m + 2 * ((x :: q).length : Int) := by simp only [List.length_cons]; omega
    rw [e] at hA hB
    refine ⟨⟨m, m + 1⟩ :: q', by simp [hl], ev_up ?_, ev_up ?_⟩
    · simp only [laws_markCellS.l0, rd_T58, mid_lt, mid_ge, set_mid, getD_mid, Option.bind_some, hm1, hm2, wrap_mid p (⟨m, m + 1⟩ : S58) hp, ↓reduceIte]
      rw [step_mid p q, step_mid p q']
      exact hA
    · simp only [laws_heldCellS.l0, rd_T58, mid_lt, mid_ge, getD_mid, hm1, hm2, wrap_mid p (⟨m, m + 1⟩ : S58) hp, ↓reduceIte]
      rw [step_mid p q']
      exact hB
theorem laws_markCellS_ev (l : List S58) (m : Int) (h : l.length < 100000000000000) (h0 : 0 ≤ m) (h1 : m ≤ 100000000000000) : ∃ m' l', 0 ≤ m' ∧ m' = m + 2 * l.length ∧ l'.length = l.length ∧ Ev (fun k => laws_markCellS.f k l m) (m', l') ∧ Ev (fun k => laws_heldCellS.f k l' m) m' := by
  obtain ⟨q', hl, hA, hB⟩ := laws_markCellS_l0 l [] m (by simp; omega) h0 (by omega)
  exact ⟨m + 2 * l.length, q', by omega, rfl, hl, by simpa [laws_markCellS.f] using hA, by simpa [laws_heldCellS.f] using hB⟩
theorem laws_markCellS_o : ∀ (q p : List S58) (m : Int), (p ++ q).length < 1000000000000000 → 0 ≤ m → m + 2 * q.length ≤ 1000000000000000 → ∃ q', Ev (fun k => laws_markCellS.l0 k (p ++ q) m (p.length : Int)) (m + 2 * q.length, q')
  | [], p, m, h, h0, h1 => by
    refine ⟨p, ev_up ?_⟩
    simp only [laws_markCellS.l0, mid_end, ↓reduceIte]
    exact ev_eq (Ev.now _) (by simp)
  | x :: q, p, m, h, h0, h1 => by
    have hp : p.length < 9223372036854775807 := by simp only [List.length_append, List.length_cons] at h; omega
    have hm1 : wrap64 (m + 1) = m + 1 := by rw [wrap_id (by omega) (by simp only [List.length_cons] at h1; omega)]
    have hm2 : wrap64 (m + 1 + 1) = m + 2 := by rw [wrap_id (by omega) (by simp only [List.length_cons] at h1; omega)]; omega
    obtain ⟨q', hA⟩ := laws_markCellS_o q (p ++ [⟨m, m + 1⟩]) (m + 2) (by simp only [List.length_append, List.length_cons, List.length_nil] at h ⊢; omega) (by omega) (by simp only [List.length_cons] at h1; omega)
    have e : (m + 2) + 2 * (q.length : Int) = m + 2 * ((x :: q).length : Int) := by simp only [List.length_cons]; omega
    rw [e] at hA
    refine ⟨q', ev_up ?_⟩
    simp only [laws_markCellS.l0, rd_T58, mid_lt, mid_ge, set_mid, getD_mid, Option.bind_some, hm1, hm2, wrap_mid p (⟨m, m + 1⟩ : S58) hp, ↓reduceIte]
    rw [step_mid p q]
    exact hA
theorem laws_markCellS_only (l : List S58) (m : Int) (h : l.length < 100000000000000) (h0 : 0 ≤ m) (h1 : m ≤ 100000000000000) : ∃ m' l', 0 ≤ m' ∧ m' = m + 2 * l.length ∧ Ev (fun k => laws_markCellS.f k l m) (m', l') := by
  obtain ⟨q', hA⟩ := laws_markCellS_o l [] m (by simp; omega) (by omega) (by omega)
  exact ⟨m + 2 * l.length, q', by omega, rfl, by simpa [laws_markCellS.f] using hA⟩
def toCell (x : S54) : S58 := ⟨x.f0, x.f1⟩
theorem laws_toCellS_l0 : ∀ (q p : List S54), (p ++ q).length < 9223372036854775807 → Ev (fun k => laws_toCellS.l0 k (p ++ q) (p.map toCell ++ List.replicate q.length z58) (p.length : Int)) ((p ++ q).map toCell)
  | [], p, h => by
    refine ev_up ?_
    simp only [laws_toCellS.l0, mid_end, ↓reduceIte]
    exact ev_eq (Ev.now _) (by simp)
  | x :: q, p, h => by
    have hp : p.length < 9223372036854775807 := by simp only [List.length_append, List.length_cons] at h; omega
    have hl : p.length = (p.map toCell).length := by simp
    refine ev_up ?_
    simp only [laws_toCellS.l0, laws_toCell.f, Option.bind_some, rd_T54, List.length_cons, List.replicate_succ, mid_lt, mid_lt2 p _ _ _ hl, mid_ge, getD_mid, set_mid2 p _ _ _ _ hl, wrap_mid p x hp, ↓reduceIte]
    rw [step_mid p q x] at h ⊢
    have e : p.map toCell ++ (⟨x.f0, x.f1⟩ : S58) :: List.replicate q.length z58 = (p ++ [x]).map toCell ++ List.replicate q.length z58 := by simp [toCell]
    rw [e]
    exact laws_toCellS_l0 q (p ++ [x]) h
theorem laws_toCellS_ev (l : List S54) (h : l.length ≤ 1048576) : Ev (fun k => laws_toCellS.f k l) (l.map toCell) := by
  have h0 : (0 ≤ (l.length : Int)) = True := by apply eq_true; omega
  have h1 : (((l.length : Int) : Int).toNat ≤ 17592186044416) = True := by apply eq_true; omega
  simp only [laws_toCellS.f, h0, h1, ↓reduceIte]
  simpa using laws_toCellS_l0 l [] (by simp; omega)
theorem szCellS_eq (l : List S54) (n : Int) (h : l.length ≤ 9223372036854775807) (h0 : 0 ≤ n) (h1 : n ≤ 1048576) : laws_szCellS.f l n = some (if (l.length : Int) ≤ n then n - (l.length : Int) else -1) := by
  have hw : wrap64 (n - (l.length : Int)) = n - (l.length : Int) := wrap_id (by omega) (by omega)
  unfold laws_szCellS.f
  rw [hw]
  by_cases hl : (l.length : Int) ≤ n
  · rw [if_neg (by omega), if_pos hl]
  · rw [if_pos (by omega), if_neg hl]
def okCell (c : S58) : Bool := decide (0 ≤ c.f0 ∧ c.f0 ≤ 7 ∧ (c.f1 = 0 ∨ (c.f1 = 1 ∧ (c.f0 = 3 ∨ c.f0 = 6))))
def goodBoard (r c : Int) (l : List S58) : Bool := decide (1 ≤ r ∧ r ≤ 10 ∧ 1 ≤ c ∧ c ≤ 9 ∧ (l.length : Int) = r * c) && l.all okCell
theorem size_le {r c : Int} (h1 : 1 ≤ r) (h2 : r ≤ 10) (h3 : 1 ≤ c) (h4 : c ≤ 9) : 0 ≤ r * c ∧ r * c ≤ 90 :=
  ⟨Int.mul_nonneg (by omega) (by omega), Int.le_trans (Int.mul_le_mul h2 h4 (by omega) (by omega)) (by omega)⟩
theorem goodBoard_len {r c : Int} {l : List S58} (h : goodBoard r c l = true) : l.length ≤ 90 := by
  unfold goodBoard at h
  simp only [Bool.and_eq_true, decide_eq_true_eq] at h
  have := size_le h.1.1 h.1.2.1 h.1.2.2.1 h.1.2.2.2.1
  omega
theorem goodBoard_ok {r c : Int} {l : List S58} (h : goodBoard r c l = true) : ∀ x ∈ l, okCell x = true := by
  unfold goodBoard at h
  simp only [Bool.and_eq_true, List.all_eq_true] at h
  exact h.2
theorem paGood_eq (a b : Int) : spec_paGood.f a b = some (okCell ⟨a, b⟩) := by
  simp only [spec_paGood.f, spec_paTurning.f, okCell, l1In_eq, Option.bind_some]
  repeat' split
  all_goals
    simp only [Option.bind_some, Option.some.injEq]
    rw [Bool.eq_iff_iff]
    simp_all
    try omega
theorem IsCell_eq (a b : Int) : impl_IsCell.f a b = some (okCell ⟨a, b⟩) := by
  simp only [impl_IsCell.f, okCell]
  repeat' split
  all_goals
    simp only [Option.some.injEq]
    rw [Bool.eq_iff_iff]
    simp_all
    try omega
theorem impl_validCells_l0 : ∀ (q p : List S58), (p ++ q).length < 9223372036854775807 → Ev (fun k => impl_validCells.l0 k (p ++ q) ((p ++ q).length : Int) (p.length : Int)) (q.all okCell)
  | [], p, h => by
    refine ev_up ?_
    simp only [impl_validCells.l0, mid_end, ↓reduceIte]
    exact Ev.now _
  | x :: q, p, h => by
    have hp : p.length < 9223372036854775807 := by simp only [List.length_append, List.length_cons] at h; omega
    refine ev_up ?_
    simp only [impl_validCells.l0, IsCell_eq, Option.bind_some, rd_T58, mid_lt, mid_ge, getD_mid, wrap_mid p x hp, ↓reduceIte, List.all_cons]
    cases okCell x with
    | false => simpa using Ev.now _
    | true =>
      simp only [↓reduceIte, Bool.true_and]
      rw [step_mid p q x] at h ⊢
      exact impl_validCells_l0 q (p ++ [x]) h
theorem impl_validCells_ev (l : List S58) (h : l.length ≤ 90) : Ev (fun k => impl_validCells.f k l) (l.all okCell) := by
  have : ¬ ((l.length : Int) > 90) := by omega
  simp only [impl_validCells.f, this, ↓reduceIte]
  simpa using impl_validCells_l0 l [] (by simp; omega)
theorem impl_IsBoard_ev (r c : Int) (l : List S58) : Ev (fun k => impl_IsBoard.f k r c l) (goodBoard r c l) := by
  by_cases h : 1 ≤ r ∧ r ≤ 10 ∧ 1 ≤ c ∧ c ≤ 9
  · obtain ⟨h1, h2, h3, h4⟩ := h
    have hs := size_le h1 h2 h3 h4
    have hw : wrap64 (r * c) = r * c := wrap_id (by omega) (by omega)
    by_cases hl : (l.length : Int) = r * c
    · have hg : goodBoard r c l = l.all okCell := by simp [goodBoard, h1, h2, h3, h4, hl]
      simp only [impl_IsBoard.f, hw, hl, ge_iff_le, h1, h2, h3, h4, ↓reduceIte, hg]
      exact ev_bind (impl_validCells_ev l (by omega)) (Ev.now _)
    · have hg : goodBoard r c l = false := by simp [goodBoard, hl]
      simp only [impl_IsBoard.f, hw, hl, ge_iff_le, h1, h2, h3, h4, ↓reduceIte, hg]
      exact Ev.now _
  · have hg : goodBoard r c l = false := by
      unfold goodBoard
      have : ¬ (1 ≤ r ∧ r ≤ 10 ∧ 1 ≤ c ∧ c ≤ 9 ∧ (l.length : Int) = r * c) := fun h' => h ⟨h'.1, h'.2.1, h'.2.2.1, h'.2.2.2.1⟩
      simp [this]
    rw [hg]
    simp only [impl_IsBoard.f, ge_iff_le]
    by_cases h1 : 1 ≤ r
    · by_cases h2 : r ≤ 10
      · by_cases h3 : 1 ≤ c
        · have h4 : ¬ c ≤ 9 := fun h4 => h ⟨h1, h2, h3, h4⟩
          simp only [h1, h2, h3, h4, ↓reduceIte]; exact Ev.now _
        · simp only [h1, h2, h3, ↓reduceIte]; exact Ev.now _
      · simp only [h1, h2, ↓reduceIte]; exact Ev.now _
    · simp only [h1, ↓reduceIte]; exact Ev.now _
theorem spec_boGood_l0 : ∀ (q p : List S58), (p ++ q).length < 9223372036854775807 → Ev (fun k => spec_boGood.l0 k (p ++ q) ((p ++ q).length : Int) (p.length : Int)) (q.all okCell)
  | [], p, h => by
    refine ev_up ?_
    simp only [spec_boGood.l0, mid_end, ↓reduceIte]
    exact Ev.now _
  | x :: q, p, h => by
    have hp : p.length < 9223372036854775807 := by simp only [List.length_append, List.length_cons] at h; omega
    refine ev_up ?_
    simp only [spec_boGood.l0, paGood_eq, Option.bind_some, rd_T58, mid_lt, mid_ge, getD_mid, wrap_mid p x hp, ↓reduceIte, List.all_cons]
    cases okCell x with
    | false => simpa using Ev.now _
    | true =>
      simp only [↓reduceIte, Bool.true_and]
      rw [step_mid p q x] at h ⊢
      exact spec_boGood_l0 q (p ++ [x]) h
theorem spec_boGood_ev (r c : Int) (l : List S58) : Ev (fun k => spec_boGood.f k r c l) (goodBoard r c l) := by
  have fin : Ev (fun k => spec_boGood.j0 k true r c l) false := by
    refine ev_up ?_
    simp only [spec_boGood.j0, ↓reduceIte]
    exact Ev.now _
  simp only [spec_boGood.f, l1In_eq, Option.bind_some]
  by_cases hr : 1 ≤ r ∧ r ≤ 10
  · by_cases hc : 1 ≤ c ∧ c ≤ 9
    · have hs := size_le hr.1 hr.2 hc.1 hc.2
      have hw : wrap64 (r * c) = r * c := wrap_id (by omega) (by omega)
      by_cases hl : (l.length : Int) = r * c
      · have hg : goodBoard r c l = l.all okCell := by simp [goodBoard, hr, hc, hl]
        simp only [hr, hc, hw, hl, hg, and_self, decide_true, ↓reduceIte, bne_self_eq_false]
        refine ev_up ?_
        simp only [spec_boGood.j0, ↓reduceIte, Bool.false_eq_true]
        have := spec_boGood_l0 l [] (by simp; omega)
        simpa using this
      · have hg : goodBoard r c l = false := by simp [goodBoard, hl]
        have hb : ((l.length : Int) != r * c) = true := by simpa using hl
        simp only [hr, hc, hw, hb, hg, and_self, decide_true, ↓reduceIte]
        exact fin
    · have hg : goodBoard r c l = false := by
        unfold goodBoard
        have : ¬ (1 ≤ r ∧ r ≤ 10 ∧ 1 ≤ c ∧ c ≤ 9 ∧ (l.length : Int) = r * c) := fun h' => hc ⟨h'.2.2.1, h'.2.2.2.1⟩
        simp [this]
      simp only [hr, hc, hg, and_self, decide_true, decide_false, ↓reduceIte, Bool.false_eq_true]
      exact fin
  · have hg : goodBoard r c l = false := by
      unfold goodBoard
      have : ¬ (1 ≤ r ∧ r ≤ 10 ∧ 1 ≤ c ∧ c ≤ 9 ∧ (l.length : Int) = r * c) := fun h' => hr ⟨h'.1, h'.2.1⟩
      simp [this]
    simp only [hr, hg, decide_false, ↓reduceIte, Bool.false_eq_true]
    exact fin
/-- The cells of each kind. -/
theorem laws_toBoard_ev (a b : Int) (l : List S54) (h : l.length ≤ 1048576) : Ev (fun k => laws_toBoard.f k a b l) (a, b, l.map toCell) := by
  simp only [laws_toBoard.f]
  exact ev_bind (laws_toCellS_ev l h) (Ev.now _)
theorem laws_eqBoard_ev (a b : Int) (l : List S58) (h : l.length < 9223372036854775807) : Ev (fun k => laws_eqBoard.f k a b l a b l) true := by
  simp only [laws_eqBoard.f, ↓reduceIte]
  refine ev_bind (laws_eqCellS_ev l h) ?_
  simpa using Ev.now _
theorem laws_markBoard_only (a b : Int) (l : List S58) (m : Int) (h : l.length < 100000000000000) (h0 : 0 ≤ m) (h1 : m ≤ 100000000000000) : ∃ m' l', 0 ≤ m' ∧ m' = m + 2 * l.length ∧ Ev (fun k => laws_markBoard.f k a b l m) (m', l') := by
  obtain ⟨m', l', h2, h3, h4⟩ := laws_markCellS_only l m h h0 h1
  refine ⟨m', l', h2, h3, ?_⟩
  simp only [laws_markBoard.f]
  exact ev_bind h4 (Ev.now _)
theorem szBoard_eq (a b : Int) (l : List S54) (n : Int) (h : l.length ≤ 9223372036854775807) (h0 : 0 ≤ n) (h1 : n ≤ 1048576) : laws_szBoard.f a b l n = some (if (l.length : Int) ≤ n then n - (l.length : Int) else -1) := by
  simp only [laws_szBoard.f, szCellS_eq l n h h0 h1, Option.bind_some]
  split
  · rw [if_neg (by omega)]
  · rw [if_pos (by omega)]
def okAct (r c : Int) (a : S60) : Bool := decide (0 ≤ a.f1 ∧ a.f1 ≤ r - 1 ∧ 0 ≤ a.f2 ∧ a.f2 ≤ c - 1) && (if a.f0 = 1 then okCell a.f3 else if a.f0 = 2 then decide (a.f1 = 0) && (a.f3.f0 == 0 && a.f3.f1 == 0) else (a.f0 == 3 && (a.f1 == 0 && (a.f2 == 0 && (a.f3.f0 == 0 && a.f3.f1 == 0)))))
def goodSession (r c : Int) (l : List S58) (d u : List S60) : Bool := goodBoard r c l && (d.all (okAct r c) && (u.all (okAct r c) && decide (d.length + u.length ≤ 40)))
theorem goodBoard_size {r c : Int} {l : List S58} (h : goodBoard r c l = true) : 1 ≤ r ∧ r ≤ 10 ∧ 1 ≤ c ∧ c ≤ 9 := by
  unfold goodBoard at h
  simp only [Bool.and_eq_true, decide_eq_true_eq] at h
  exact ⟨h.1.1, h.1.2.1, h.1.2.2.1, h.1.2.2.2.1⟩
theorem spec_seAct_ev (r c : Int) (l : List S58) (a : S60) (hb : goodBoard r c l = true) : Ev (fun k => spec_seAct.f k r c l a.f0 a.f1 a.f2 a.f3.f0 a.f3.f1) (okAct r c a) := by
  obtain ⟨h1, h2, h3, h4⟩ := goodBoard_size hb
  have w1 : wrap64 (r - 1) = r - 1 := wrap_id (by omega) (by omega)
  have w2 : wrap64 (c - 1) = c - 1 := wrap_id (by omega) (by omega)
  have fin : Ev (fun k => spec_seAct.j0 k true a.f0 a.f1 a.f2 a.f3.f0 a.f3.f1) false := by
    refine ev_up ?_
    simp only [spec_seAct.j0, ↓reduceIte]
    exact Ev.now _
  simp only [spec_seAct.f, l1In_eq, Option.bind_some, w1, w2]
  unfold okAct
  by_cases hr : 0 ≤ a.f1 ∧ a.f1 ≤ r - 1
  · by_cases hc : 0 ≤ a.f2 ∧ a.f2 ≤ c - 1
    · simp only [hr, hc, and_self, decide_true, Bool.not_true, Bool.true_and, ↓reduceIte]
      refine ev_up ?_
      simp only [spec_seAct.j0, Bool.false_eq_true, paGood_eq, Option.bind_some, ↓reduceIte]
      by_cases k1 : a.f0 = 1
      · simp only [k1, ↓reduceIte]
        exact Ev.now _
      · by_cases k2 : a.f0 = 2
        · by_cases z : a.f1 = 0
          · simp only [k2, z, decide_true, Bool.true_and, Int.reduceEq, ↓reduceIte]
            exact Ev.now _
          · simp only [k2, z, decide_false, Bool.false_and, Int.reduceEq, ↓reduceIte]
            exact Ev.now _
        · simp only [k1, k2, ↓reduceIte]
          exact Ev.now _
    · have : ¬ (0 ≤ a.f1 ∧ a.f1 ≤ r - 1 ∧ 0 ≤ a.f2 ∧ a.f2 ≤ c - 1) := fun h => hc h.2.2
      simp only [hr, hc, this, and_self, decide_true, decide_false, Bool.not_false, Bool.false_and, ↓reduceIte]
      exact fin
  · have : ¬ (0 ≤ a.f1 ∧ a.f1 ≤ r - 1 ∧ 0 ≤ a.f2 ∧ a.f2 ≤ c - 1) := fun h => hr ⟨h.1, h.2.1⟩
    simp only [hr, this, decide_false, Bool.false_and, Bool.false_eq_true, ↓reduceIte]
    exact fin
theorem impl_isAct_ev (r c : Int) (l : List S58) (a : S60) (hb : goodBoard r c l = true) : Ev (fun k => impl_isAct.f k r c l a.f0 a.f1 a.f2 a.f3.f0 a.f3.f1) (okAct r c a) := by
  have hon : Ev (fun k => impl_onBoard.f k r c l a.f1 a.f2) (decide (0 ≤ a.f1 ∧ a.f1 ≤ r - 1 ∧ 0 ≤ a.f2 ∧ a.f2 ≤ c - 1)) := by
    simp only [impl_onBoard.f]
    refine ev_bind (impl_IsBoard_ev r c l) ?_
    simp only [hb, ge_iff_le, ↓reduceIte]
    by_cases g1 : 0 ≤ a.f1
    · by_cases g2 : a.f1 < r
      · by_cases g3 : 0 ≤ a.f2
        · rw [if_pos g1, if_pos g2, if_pos g3]
          refine ev_eq (Ev.now _) ?_
          rw [Bool.eq_iff_iff, decide_eq_true_iff, decide_eq_true_iff]
          omega
        · rw [if_pos g1, if_pos g2, if_neg g3]
          exact ev_eq (Ev.now _) (by symm; rw [decide_eq_false_iff_not]; omega)
      · rw [if_pos g1, if_neg g2]
        exact ev_eq (Ev.now _) (by symm; rw [decide_eq_false_iff_not]; omega)
    · rw [if_neg g1]
      exact ev_eq (Ev.now _) (by symm; rw [decide_eq_false_iff_not]; omega)
  simp only [impl_isAct.f]
  refine ev_bind hon ?_
  unfold okAct
  cases hd : decide (0 ≤ a.f1 ∧ a.f1 ≤ r - 1 ∧ 0 ≤ a.f2 ∧ a.f2 ≤ c - 1)
  · exact ev_eq (Ev.now _) (by simp)
  · simp only [IsCell_eq, Option.bind_some, Bool.true_and, ↓reduceIte]
    by_cases k1 : a.f0 = 1
    · simp only [k1, ↓reduceIte]
      exact Ev.now _
    · by_cases k2 : a.f0 = 2
      · by_cases z : a.f1 = 0
        · simp only [k2, z, decide_true, Bool.true_and, Int.reduceEq, ↓reduceIte]
          exact Ev.now _
        · simp only [k2, z, decide_false, Bool.false_and, Int.reduceEq, ↓reduceIte]
          exact Ev.now _
      · by_cases k3 : a.f0 = 3
        · by_cases z : a.f1 = 0
          · by_cases z2 : a.f2 = 0
            · simp only [k3, z, z2, Int.reduceEq, BEq.rfl, Bool.true_and, ↓reduceIte]
              exact Ev.now _
            · have z2' : (a.f2 == 0) = false := by simpa using z2
              simp only [k3, z, z2, z2', Int.reduceEq, BEq.rfl, Bool.true_and, Bool.false_and, ↓reduceIte]
              exact Ev.now _
          · have z' : (a.f1 == 0) = false := by simpa using z
            simp only [k3, z, z', Int.reduceEq, BEq.rfl, Bool.true_and, Bool.false_and, ↓reduceIte]
            exact Ev.now _
        · have k3' : (a.f0 == 3) = false := by simpa using k3
          simp only [k1, k2, k3, k3', Bool.false_and, ↓reduceIte]
          exact Ev.now _
theorem spec_seActs_l0 (r c : Int) (l : List S58) (hb : goodBoard r c l = true) : ∀ (q p : List S60), (p ++ q).length < 9223372036854775807 → Ev (fun k => spec_seActs.l0 k (p ++ q) ((p ++ q).length : Int) (p.length : Int) r c l) (q.all (okAct r c))
  | [], p, h => by
    refine ev_up ?_
    simp only [spec_seActs.l0, mid_end, ↓reduceIte]
    exact Ev.now _
  | x :: q, p, h => by
    have hp : p.length < 9223372036854775807 := by simp only [List.length_append, List.length_cons] at h; omega
    refine ev_up ?_
    simp only [spec_seActs.l0, rd_T60, mid_lt, mid_ge, getD_mid, wrap_mid p x hp, ↓reduceIte, List.all_cons]
    refine ev_bind (spec_seAct_ev r c l x hb) ?_
    cases okAct r c x with
    | false => simpa using Ev.now _
    | true =>
      simp only [↓reduceIte, Bool.true_and]
      rw [step_mid p q x] at h ⊢
      exact spec_seActs_l0 r c l hb q (p ++ [x]) h
theorem spec_seActs_ev (r c : Int) (l : List S58) (d : List S60) (hb : goodBoard r c l = true) (h : d.length ≤ 1048576) : Ev (fun k => spec_seActs.f k r c l d) (d.all (okAct r c)) := by
  simpa [spec_seActs.f] using spec_seActs_l0 r c l hb d [] (by simp; omega)
theorem spec_seGood_ev (r c : Int) (l : List S58) (d u : List S60) (hd : d.length ≤ 1048576) (hu : u.length ≤ 1048576) : Ev (fun k => spec_seGood.f k r c l d u) (goodSession r c l d u) := by
  unfold goodSession
  simp only [spec_seGood.f]
  refine ev_bind (spec_boGood_ev r c l) ?_
  cases hb : goodBoard r c l
  · exact ev_eq (Ev.now _) (by simp)
  · simp only [↓reduceIte, Bool.true_and]
    refine ev_bind (spec_seActs_ev r c l d hb hd) ?_
    cases d.all (okAct r c)
    · exact ev_eq (Ev.now _) (by simp)
    · simp only [↓reduceIte, Bool.true_and]
      refine ev_bind (spec_seActs_ev r c l u hb hu) ?_
      cases u.all (okAct r c)
      · exact ev_eq (Ev.now _) (by simp)
      · have hw : wrap64 ((d.length : Int) + (u.length : Int)) = (d.length : Int) + (u.length : Int) := wrap_id (by omega) (by omega)
        simp only [↓reduceIte, Bool.true_and, hw]
        refine ev_eq (Ev.now _) ?_
        rw [Bool.eq_iff_iff, decide_eq_true_iff, decide_eq_true_iff]
        omega
theorem impl_IsSession_l1 (y : List (List S60)) (n i r c : Int) (l : List S58) (d u : List S60) (hb : goodBoard r c l = true) (R : Bool) (hR : Ev (fun k => impl_IsSession.l0 k y n (wrap64 (i + 1)) r c l d u) R) : ∀ (q p : List S60), (p ++ q).length < 9223372036854775807 → Ev (fun k => impl_IsSession.l1 k y n i (p ++ q) ((p ++ q).length : Int) (p.length : Int) r c l d u) (q.all (okAct r c) && R)
  | [], p, h => by
    refine ev_up ?_
    simp only [impl_IsSession.l1, mid_end, ↓reduceIte, List.all_nil, Bool.true_and]
    exact hR
  | x :: q, p, h => by
    have hp : p.length < 9223372036854775807 := by simp only [List.length_append, List.length_cons] at h; omega
    refine ev_up ?_
    simp only [impl_IsSession.l1, rd_T60, mid_lt, mid_ge, getD_mid, wrap_mid p x hp, ↓reduceIte, List.all_cons]
    refine ev_bind (impl_isAct_ev r c l x hb) ?_
    cases okAct r c x with
    | false => simpa using Ev.now _
    | true =>
      simp only [↓reduceIte, Bool.true_and]
      rw [step_mid p q x] at h ⊢
      exact impl_IsSession_l1 y n i r c l d u hb R hR q (p ++ [x]) h
theorem impl_IsSession_ev (r c : Int) (l : List S58) (d u : List S60) (hd : d.length ≤ 1048576) (hu : u.length ≤ 1048576) : Ev (fun k => impl_IsSession.f k r c l d u) (goodSession r c l d u) := by
  have fin : Ev (fun k => impl_IsSession.j0 k true r c l d u) false := by
    refine ev_up ?_
    simp only [impl_IsSession.j0, ↓reduceIte]
    exact Ev.now _
  unfold goodSession
  simp only [impl_IsSession.f]
  refine ev_bind (impl_IsBoard_ev r c l) ?_
  have hw : wrap64 ((d.length : Int) + (u.length : Int)) = (d.length : Int) + (u.length : Int) := wrap_id (by omega) (by omega)
  cases hb : goodBoard r c l
  · simpa using fin
  · simp only [hw, ↓reduceIte, Bool.true_and]
    by_cases h40 : d.length + u.length ≤ 40
    · have g : decide ((d.length : Int) + (u.length : Int) > 40) = false := by rw [decide_eq_false_iff_not]; omega
      have e0 : Ev (fun k => impl_IsSession.l0 k [d, u] 2 2 r c l d u) true := by
        refine ev_up ?_
        simp only [impl_IsSession.l0, Int.reduceLT, ↓reduceIte]
        exact Ev.now _
      have w1 : wrap64 ((1 : Int) + 1) = 2 := by decide +kernel
      have w0 : wrap64 ((0 : Int) + 1) = 1 := by decide +kernel
      have e1 : Ev (fun k => impl_IsSession.l0 k [d, u] 2 1 r c l d u) (u.all (okAct r c) && true) := by
        refine ev_up ?_
        have a1 : ((1 : Int) < (([d, u] : List (List S60)).length : Int)) = True := by simp
        have a2 : rd_L5 [d, u] 1 = u := rfl
        simp only [impl_IsSession.l0, a1, a2, Int.reduceLT, Int.reduceLE, ↓reduceIte]
        simpa using impl_IsSession_l1 [d, u] 2 1 r c l d u hb true (by rw [w1]; exact e0) u [] (by simp; omega)
      have e2 : Ev (fun k => impl_IsSession.l0 k [d, u] 2 0 r c l d u) (d.all (okAct r c) && (u.all (okAct r c) && true)) := by
        refine ev_up ?_
        have a1 : ((0 : Int) < (([d, u] : List (List S60)).length : Int)) = True := by simp
        have a2 : rd_L5 [d, u] 0 = d := rfl
        simp only [impl_IsSession.l0, a1, a2, Int.reduceLT, Int.reduceLE, ↓reduceIte]
        simpa using impl_IsSession_l1 [d, u] 2 0 r c l d u hb (u.all (okAct r c) && true) (by rw [w0]; exact e1) d [] (by simp; omega)
      simp only [g, h40, decide_true]
      refine ev_up ?_
      simp only [impl_IsSession.j0, Option.bind_some, Bool.false_eq_true, ↓reduceIte]
      simpa using e2
    · have g : decide ((d.length : Int) + (u.length : Int) > 40) = true := by rw [decide_eq_true_iff]; omega
      simp only [g, h40, decide_false, Bool.and_false]
      exact fin
def toAct (x : S56) : S60 := ⟨x.f0, x.f1, x.f2, ⟨x.f3.f0, x.f3.f1⟩⟩
theorem laws_toSessionActS_l0 : ∀ (q p : List S56), (p ++ q).length < 9223372036854775807 → Ev (fun k => laws_toSessionActS.l0 k (p ++ q) (p.map toAct ++ List.replicate q.length z60) (p.length : Int)) ((p ++ q).map toAct)
  | [], p, h => by
    refine ev_up ?_
    simp only [laws_toSessionActS.l0, mid_end, ↓reduceIte]
    exact ev_eq (Ev.now _) (by simp)
  | x :: q, p, h => by
    have hp : p.length < 9223372036854775807 := by simp only [List.length_append, List.length_cons] at h; omega
    have hl : p.length = (p.map toAct).length := by simp
    refine ev_up ?_
    simp only [laws_toSessionActS.l0, laws_toSessionAct.f, laws_toCell.f, Option.bind_some, rd_T56, List.length_cons, List.replicate_succ, mid_lt, mid_lt2 p _ _ _ hl, mid_ge, getD_mid, set_mid2 p _ _ _ _ hl, wrap_mid p x hp, ↓reduceIte]
    rw [step_mid p q x] at h ⊢
    have e : p.map toAct ++ (⟨x.f0, x.f1, x.f2, ⟨x.f3.f0, x.f3.f1⟩⟩ : S60) :: List.replicate q.length z60 = (p ++ [x]).map toAct ++ List.replicate q.length z60 := by simp [toAct]
    rw [e]
    exact laws_toSessionActS_l0 q (p ++ [x]) h
theorem laws_toSessionActS_ev (l : List S56) (h : l.length ≤ 1048576) : Ev (fun k => laws_toSessionActS.f k l) (l.map toAct) := by
  have h0 : (0 ≤ (l.length : Int)) = True := by apply eq_true; omega
  have h1 : (((l.length : Int) : Int).toNat ≤ 7036874417766) = True := by apply eq_true; omega
  simp only [laws_toSessionActS.f, h0, h1, ↓reduceIte]
  simpa using laws_toSessionActS_l0 l [] (by simp; omega)
theorem laws_toSession_ev (r c : Int) (l : List S54) (d u : List S56) (hl : l.length ≤ 1048576) (hd : d.length ≤ 1048576) (hu : u.length ≤ 1048576) : Ev (fun k => laws_toSession.f k r c l d u) (r, c, l.map toCell, d.map toAct, u.map toAct) := by
  simp only [laws_toSession.f]
  exact ev_bind (laws_toBoard_ev r c l hl) (ev_bind (laws_toSessionActS_ev d hd) (ev_bind (laws_toSessionActS_ev u hu) (Ev.now _)))
theorem laws_eqSessionActS_l0 : ∀ (q p : List S60), (p ++ q).length < 9223372036854775807 → Ev (fun k => laws_eqSessionActS.l0 k (p ++ q) (p ++ q) (p.length : Int)) true
  | [], p, h => by
    refine ev_up ?_
    simp only [laws_eqSessionActS.l0, mid_end, ↓reduceIte]
    exact Ev.now _
  | x :: q, p, h => by
    have hp : p.length < 9223372036854775807 := by simp only [List.length_append, List.length_cons] at h; omega
    refine ev_up ?_
    simp only [laws_eqSessionActS.l0, laws_eqSessionAct.f, eqCell_self, Option.bind_some, rd_T60, mid_lt, mid_ge, getD_mid, wrap_mid p x hp, ↓reduceIte]
    rw [step_mid p q x] at h ⊢
    exact laws_eqSessionActS_l0 q (p ++ [x]) h
theorem laws_eqSessionActS_ev (l : List S60) (h : l.length < 9223372036854775807) : Ev (fun k => laws_eqSessionActS.f k l l) true := by
  simp only [laws_eqSessionActS.f, ↓reduceIte]
  simpa using laws_eqSessionActS_l0 l [] (by simpa using h)
theorem laws_eqSession_ev (r c : Int) (l : List S58) (d u : List S60) (hl : l.length < 9223372036854775807) (hd : d.length < 9223372036854775807) (hu : u.length < 9223372036854775807) : Ev (fun k => laws_eqSession.f k r c l d u r c l d u) true := by
  simp only [laws_eqSession.f]
  refine ev_bind (laws_eqBoard_ev r c l hl) ?_
  simp only [↓reduceIte]
  refine ev_bind (laws_eqSessionActS_ev d hd) ?_
  simp only [↓reduceIte]
  refine ev_bind (laws_eqSessionActS_ev u hu) ?_
  simpa using Ev.now _
theorem szSessionActS_eq (l : List S56) (n : Int) (h : l.length ≤ 9223372036854775807) (h0 : 0 ≤ n) (h1 : n ≤ 1048576) : laws_szSessionActS.f l n = some (if (l.length : Int) ≤ n then n - (l.length : Int) else -1) := by
  have hw : wrap64 (n - (l.length : Int)) = n - (l.length : Int) := wrap_id (by omega) (by omega)
  unfold laws_szSessionActS.f
  rw [hw]
  by_cases hl : (l.length : Int) ≤ n
  · rw [if_neg (by omega), if_pos hl]
  · rw [if_pos (by omega), if_neg hl]
theorem szSession_eq (r c : Int) (l : List S54) (d u : List S56) (hl : l.length ≤ 9223372036854775807) (hd : d.length ≤ 9223372036854775807) (hu : u.length ≤ 9223372036854775807) : laws_szSession.f r c l d u 1048576 = some (if l.length + d.length + u.length ≤ 1048576 then 1048576 - (l.length : Int) - (d.length : Int) - (u.length : Int) else -1) := by
  have m1 : ((-1 : Int) < 0) = True := by apply eq_true; omega
  simp only [laws_szSession.f, szBoard_eq r c l 1048576 hl (by omega) (by omega), Option.bind_some]
  by_cases h0 : (l.length : Int) ≤ 1048576
  · have g0 : ¬ (1048576 - (l.length : Int) < 0) := by omega
    simp only [h0, g0, ↓reduceIte, szSessionActS_eq d (1048576 - (l.length : Int)) hd (by omega) (by omega), Option.bind_some]
    by_cases h1 : (d.length : Int) ≤ 1048576 - (l.length : Int)
    · have g1 : ¬ (1048576 - (l.length : Int) - (d.length : Int) < 0) := by omega
      simp only [h1, g1, ↓reduceIte, szSessionActS_eq u (1048576 - (l.length : Int) - (d.length : Int)) hu (by omega) (by omega), Option.bind_some]
      by_cases h2 : (u.length : Int) ≤ 1048576 - (l.length : Int) - (d.length : Int)
      · have g2 : ¬ (1048576 - (l.length : Int) - (d.length : Int) - (u.length : Int) < 0) := by omega
        have g3 : l.length + d.length + u.length ≤ 1048576 := by omega
        simp only [h2, g2, g3, ↓reduceIte]
      · have g3 : ¬ l.length + d.length + u.length ≤ 1048576 := by omega
        simp only [h2, m1, g3, ↓reduceIte]
    · have g3 : ¬ l.length + d.length + u.length ≤ 1048576 := by omega
      simp only [h1, m1, g3, ↓reduceIte]
  · have g3 : ¬ l.length + d.length + u.length ≤ 1048576 := by omega
    simp only [h0, m1, g3, ↓reduceIte]
theorem laws_markSessionActS_o : ∀ (q p : List S60) (m : Int), (p ++ q).length < 100000000000000 → 0 ≤ m → m + 5 * q.length ≤ 1000000000000000 → ∃ q', Ev (fun k => laws_markSessionActS.l0 k (p ++ q) m (p.length : Int)) (m + 5 * q.length, q')
  | [], p, m, h, h0, h1 => by
    refine ⟨p, ev_up ?_⟩
    simp only [laws_markSessionActS.l0, mid_end, ↓reduceIte]
    exact ev_eq (Ev.now _) (by simp)
  | x :: q, p, m, h, h0, h1 => by
    have hp : p.length < 9223372036854775807 := by simp only [List.length_append, List.length_cons] at h; omega
    simp only [List.length_cons] at h1
    have hm1 : wrap64 (m + 1) = m + 1 := wrap_id (by omega) (by omega)
    have hm2 : wrap64 (m + 1 + 1) = m + 2 := by rw [wrap_id (by omega) (by omega)]; omega
    have hm3 : wrap64 (m + 2 + 1) = m + 3 := by rw [wrap_id (by omega) (by omega)]; omega
    have hm4 : wrap64 (m + 3 + 1) = m + 4 := by rw [wrap_id (by omega) (by omega)]; omega
    have hm5 : wrap64 (m + 4 + 1) = m + 5 := by rw [wrap_id (by omega) (by omega)]; omega
    obtain ⟨q', hA⟩ := laws_markSessionActS_o q (p ++ [⟨m, m + 1, m + 2, ⟨m + 3, m + 4⟩⟩]) (m + 5) (by simp only [List.length_append, List.length_cons, List.length_nil] at h ⊢; omega) (by omega) (by omega)
    have e : (m + 5) + 5 * (q.length : Int) = m + 5 * ((x :: q).length : Int) := by simp only [List.length_cons]; omega
    rw [e] at hA
    refine ⟨q', ev_up ?_⟩
    simp only [laws_markSessionActS.l0, rd_T60, mid_lt, mid_ge, set_mid, getD_mid, Option.bind_some, hm1, hm2, hm3, hm4, hm5, wrap_mid p (⟨m, m + 1, m + 2, ⟨m + 3, m + 4⟩⟩ : S60) hp, ↓reduceIte]
    rw [step_mid p q]
    exact hA
theorem laws_markSessionActS_only (l : List S60) (m : Int) (h : l.length < 10000000000000) (h0 : 0 ≤ m) (h1 : m ≤ 100000000000000) : ∃ m' l', 0 ≤ m' ∧ m' = m + 5 * l.length ∧ Ev (fun k => laws_markSessionActS.f k l m) (m', l') := by
  obtain ⟨q', hA⟩ := laws_markSessionActS_o l [] m (by simp; omega) (by omega) (by omega)
  exact ⟨m + 5 * l.length, q', by omega, rfl, by simpa [laws_markSessionActS.f] using hA⟩
theorem laws_markSession_only (r c : Int) (l : List S58) (d u : List S60) (hl : l.length ≤ 10000000) (hd : d.length ≤ 10000000) (hu : u.length ≤ 10000000) : ∃ m' l', 0 ≤ m' ∧ Ev (fun k => laws_markSession.f k r c l d u 1) (m', l') := by
  obtain ⟨m1, l1, a1, b1, c1⟩ := laws_markBoard_only r c l 1 (by omega) (by omega) (by omega)
  obtain ⟨m2, l2, a2, b2, c2⟩ := laws_markSessionActS_only d m1 (by omega) a1 (by omega)
  obtain ⟨m3, l3, a3, b3, c3⟩ := laws_markSessionActS_only u m2 (by omega) a2 (by omega)
  refine ⟨m3, (l1, l2, l3), a3, ?_⟩
  simp only [laws_markSession.f]
  exact ev_bind c1 (ev_bind c2 (ev_bind c3 (Ev.now _)))
theorem okAct_kind {r c : Int} {a : S60} (h : okAct r c a = true) : 1 ≤ a.f0 ∧ a.f0 ≤ 3 := by
  unfold okAct at h
  simp only [Bool.and_eq_true] at h
  have h2 := h.2
  by_cases k1 : a.f0 = 1
  · omega
  · by_cases k2 : a.f0 = 2
    · omega
    · simp only [k1, k2, ↓reduceIte, Bool.and_eq_true, beq_iff_eq] at h2
      omega
theorem goodSession_acts {r c : Int} {l : List S58} {d u : List S60} (h : goodSession r c l d u = true) : goodBoard r c l = true ∧ (∀ a ∈ d, okAct r c a = true) ∧ (∀ a ∈ u, okAct r c a = true) ∧ d.length + u.length ≤ 40 := by
  unfold goodSession at h
  simp only [Bool.and_eq_true, decide_eq_true_eq, List.all_eq_true] at h
  exact ⟨h.1, h.2.1, h.2.2.1, h.2.2.2⟩
theorem laws_markSessionActS_l0 : ∀ (q p : List S60) (m : Int), (p ++ q).length < 100000000000000 → 0 ≤ m → m + 5 * q.length ≤ 1000000000000000 → ∃ q', q'.length = q.length ∧ Ev (fun k => laws_markSessionActS.l0 k (p ++ q) m (p.length : Int)) (m + 5 * q.length, p ++ q') ∧ Ev (fun k => laws_heldSessionActS.l0 k (p ++ q') m (p.length : Int)) (m + 5 * q.length)
  | [], p, m, h, h0, h1 => by
    refine ⟨[], rfl, ev_up ?_, ev_up ?_⟩
    · simp only [laws_markSessionActS.l0, mid_end, ↓reduceIte]
      exact ev_eq (Ev.now _) (by simp)
    · simp only [laws_heldSessionActS.l0, mid_end, ↓reduceIte]
      exact ev_eq (Ev.now _) (by simp)
  | x :: q, p, m, h, h0, h1 => by
    have hp : p.length < 9223372036854775807 := by simp only [List.length_append, List.length_cons] at h; omega
    simp only [List.length_cons] at h1
    have hm1 : wrap64 (m + 1) = m + 1 := wrap_id (by omega) (by omega)
    have hm2 : wrap64 (m + 1 + 1) = m + 2 := by rw [wrap_id (by omega) (by omega)]; omega
    have hm3 : wrap64 (m + 2 + 1) = m + 3 := by rw [wrap_id (by omega) (by omega)]; omega
    have hm4 : wrap64 (m + 3 + 1) = m + 4 := by rw [wrap_id (by omega) (by omega)]; omega
    have hm5 : wrap64 (m + 4 + 1) = m + 5 := by rw [wrap_id (by omega) (by omega)]; omega
    obtain ⟨q', hl, hA, hB⟩ := laws_markSessionActS_l0 q (p ++ [⟨m, m + 1, m + 2, ⟨m + 3, m + 4⟩⟩]) (m + 5) (by simp only [List.length_append, List.length_cons, List.length_nil] at h ⊢; omega) (by omega) (by omega)
    have e : (m + 5) + 5 * (q.length : Int) = m + 5 * ((x :: q).length : Int) := by simp only [List.length_cons]; omega
    rw [e] at hA hB
    refine ⟨⟨m, m + 1, m + 2, ⟨m + 3, m + 4⟩⟩ :: q', by simp [hl], ev_up ?_, ev_up ?_⟩
    · simp only [laws_markSessionActS.l0, rd_T60, mid_lt, mid_ge, set_mid, getD_mid, Option.bind_some, hm1, hm2, hm3, hm4, hm5, wrap_mid p (⟨m, m + 1, m + 2, ⟨m + 3, m + 4⟩⟩ : S60) hp, ↓reduceIte]
      rw [step_mid p q, step_mid p q']
      exact hA
    · simp only [laws_heldSessionActS.l0, rd_T60, mid_lt, mid_ge, getD_mid, hm1, hm2, hm3, hm4, hm5, wrap_mid p (⟨m, m + 1, m + 2, ⟨m + 3, m + 4⟩⟩ : S60) hp, ↓reduceIte]
      rw [step_mid p q']
      exact hB
theorem laws_markSessionActS_ev (l : List S60) (m : Int) (h : l.length < 10000000000000) (h0 : 0 ≤ m) (h1 : m ≤ 100000000000000) : ∃ m' l', 0 ≤ m' ∧ m' = m + 5 * l.length ∧ Ev (fun k => laws_markSessionActS.f k l m) (m', l') ∧ Ev (fun k => laws_heldSessionActS.f k l' m) m' := by
  obtain ⟨q', hl, hA, hB⟩ := laws_markSessionActS_l0 l [] m (by simp; omega) (by omega) (by omega)
  exact ⟨m + 5 * l.length, q', by omega, rfl, by simpa [laws_markSessionActS.f] using hA, by simpa [laws_heldSessionActS.f] using hB⟩
theorem laws_markBoard_ev (a b : Int) (l : List S58) (m : Int) (h : l.length < 100000000000000) (h0 : 0 ≤ m) (h1 : m ≤ 100000000000000) : ∃ m' l', 0 ≤ m' ∧ m' = m + 2 * l.length ∧ Ev (fun k => laws_markBoard.f k a b l m) (m', l') ∧ Ev (fun k => laws_heldBoard.f k a b l' m) m' := by
  obtain ⟨m', l', h2, h3, -, h4, h5⟩ := laws_markCellS_ev l m h h0 h1
  refine ⟨m', l', h2, h3, ?_, ?_⟩
  · simp only [laws_markBoard.f]
    exact ev_bind h4 (Ev.now _)
  · simp only [laws_heldBoard.f]
    refine ev_bind h5 ?_
    have g : ¬ (m' < 0) := by omega
    simp only [g, ↓reduceIte]
    exact Ev.now _
theorem laws_markSession_ev (r c : Int) (l : List S58) (d u : List S60) (hl : l.length ≤ 10000000) (hd : d.length ≤ 10000000) (hu : u.length ≤ 10000000) : ∃ m' l' d' u', 0 ≤ m' ∧ Ev (fun k => laws_markSession.f k r c l d u 1) (m', l', d', u') ∧ Ev (fun k => laws_heldSession.f k r c l' d' u' 1) m' := by
  obtain ⟨m1, l1, a1, b1, c1, e1⟩ := laws_markBoard_ev r c l 1 (by omega) (by omega) (by omega)
  obtain ⟨m2, l2, a2, b2, c2, e2⟩ := laws_markSessionActS_ev d m1 (by omega) a1 (by omega)
  obtain ⟨m3, l3, a3, b3, c3, e3⟩ := laws_markSessionActS_ev u m2 (by omega) a2 (by omega)
  have g1 : ¬ (m1 < 0) := by omega
  have g2 : ¬ (m2 < 0) := by omega
  have g3 : ¬ (m3 < 0) := by omega
  refine ⟨m3, l1, l2, l3, a3, ?_, ?_⟩
  · simp only [laws_markSession.f]
    exact ev_bind c1 (ev_bind c2 (ev_bind c3 (Ev.now _)))
  · simp only [laws_heldSession.f]
    refine ev_bind e1 ?_
    simp only [g1, ↓reduceIte]
    refine ev_bind e2 ?_
    simp only [g2, ↓reduceIte]
    refine ev_bind e3 ?_
    simp only [g3, ↓reduceIte]
    exact Ev.now _
theorem boOwn_eq (r c : Int) (l : List S58) (h : l.length ≤ 10000000) : spec_boOwn.f r c l = some (r, c, l) := by
  have g : (([] : List S58).length + l.length < 8796093022208) = True := by apply eq_true; simp; omega
  simp only [spec_boOwn.f, Option.bind_some, g, List.nil_append, ↓reduceIte]
theorem copyBoard_eq (r c : Int) (l : List S58) (h : l.length ≤ 10000000) : impl_copyBoard.f r c l = some (r, c, l) := by
  have g : (([] : List S58).length + l.length < 8796093022208) = True := by apply eq_true; simp; omega
  simp only [impl_copyBoard.f, Option.bind_some, g, List.nil_append, ↓reduceIte]
/-! ### The neighbours of a cell -/
def nearV (r c i : Int) : List Int := (if Int.tdiv i c > 0 then [i - c] else []) ++ ((if Int.tmod i c > 0 then [i - 1] else []) ++ ((if Int.tmod i c + 1 < c then [i + 1] else []) ++ (if Int.tdiv i c + 1 < r then [i + c] else [])))
theorem near_len (r c i : Int) : (nearV r c i).length ≤ 4 := by
  unfold nearV
  split <;> split <;> split <;> split <;> simp
theorem near_ok {r c i : Int} (hr : 1 ≤ r) (hr' : r ≤ 10) (hc : 1 ≤ c) (hc' : c ≤ 9) (h0 : 0 ≤ i) (h1 : i < r * c) : (0 ≤ Int.tdiv i c ∧ Int.tdiv i c ≤ 89 ∧ 0 ≤ Int.tmod i c ∧ Int.tmod i c < c ∧ i ≤ 89) ∧ ∀ x ∈ nearV r c i, 0 ≤ x ∧ x < r * c := by
  have e1 : Int.tdiv i c = i / c := Int.tdiv_eq_ediv_of_nonneg h0
  have e2 : Int.tmod i c = i % c := Int.tmod_eq_emod_of_nonneg h0
  unfold nearV
  rw [e1, e2]
  have hcs : c = 1 ∨ c = 2 ∨ c = 3 ∨ c = 4 ∨ c = 5 ∨ c = 6 ∨ c = 7 ∨ c = 8 ∨ c = 9 := by omega
  refine ⟨?_, fun x hx => ?_⟩
  · rcases hcs with rfl | rfl | rfl | rfl | rfl | rfl | rfl | rfl | rfl <;> omega
  · simp only [List.mem_append] at hx
    rcases hx with hx | hx | hx | hx
    · split at hx
      · simp only [List.mem_singleton] at hx
        rcases hcs with rfl | rfl | rfl | rfl | rfl | rfl | rfl | rfl | rfl <;> omega
      · simp at hx
    · split at hx
      · simp only [List.mem_singleton] at hx
        rcases hcs with rfl | rfl | rfl | rfl | rfl | rfl | rfl | rfl | rfl <;> omega
      · simp at hx
    · split at hx
      · simp only [List.mem_singleton] at hx
        rcases hcs with rfl | rfl | rfl | rfl | rfl | rfl | rfl | rfl | rfl <;> omega
      · simp at hx
    · split at hx
      · simp only [List.mem_singleton] at hx
        rcases hcs with rfl | rfl | rfl | rfl | rfl | rfl | rfl | rfl | rfl <;> omega
      · simp at hx
theorem spec_ggNear_ev (r c : Int) (l : List S58) (i : Int) (hr : 1 ≤ r) (hr' : r ≤ 10) (hc : 1 ≤ c) (hc' : c ≤ 9) (h0 : 0 ≤ i) (h1 : i < r * c) : Ev (fun k => spec_ggNear.f k r c l i) (nearV r c i) := by
  obtain ⟨⟨q0, q1, m0, m1, hi⟩, -⟩ := near_ok hr hr' hc hc' h0 h1
  have w1 : wrap64 (Int.tdiv i c) = Int.tdiv i c := wrap_id (by omega) (by omega)
  have w2 : wrap64 (i - c) = i - c := wrap_id (by omega) (by omega)
  have w3 : wrap64 (i - 1) = i - 1 := wrap_id (by omega) (by omega)
  have w4 : wrap64 (i + 1) = i + 1 := wrap_id (by omega) (by omega)
  have w5 : wrap64 (i + c) = i + c := wrap_id (by omega) (by omega)
  have w6 : wrap64 (Int.tmod i c + 1) = Int.tmod i c + 1 := wrap_id (by omega) (by omega)
  have w7 : wrap64 (Int.tdiv i c + 1) = Int.tdiv i c + 1 := wrap_id (by omega) (by omega)
  have hc0 : ¬ (c = 0) := by omega
  have L : ∀ x : List Int, x.length ≤ 4 → (x.length < 17592186044416) = True := fun x h => by apply eq_true; omega
  unfold nearV
  simp only [spec_ggNear.f, hc0, w1, ↓reduceIte]
  by_cases a1 : Int.tdiv i c > 0 <;> by_cases a2 : Int.tmod i c > 0 <;> by_cases a3 : Int.tmod i c + 1 < c <;> by_cases a4 : Int.tdiv i c + 1 < r <;>
  · simp only [a1, a2, a3, a4, w2, List.length_nil, List.nil_append, List.append_nil, Nat.reduceLT, ↓reduceIte]
    refine ev_up ?_
    simp only [spec_ggNear.j0, a2, w3, List.length_nil, List.length_singleton, List.nil_append, Nat.reduceLT, ↓reduceIte]
    refine ev_up ?_
    simp only [spec_ggNear.j1, a3, a4, w4, w5, w6, w7, Option.bind_some, List.length_nil, List.length_singleton, List.length_cons, List.length_append, List.nil_append, List.cons_append, Nat.reduceAdd, Nat.reduceLT, ↓reduceIte]
    exact Ev.now _
theorem impl_besideOf_ev (r c : Int) (l : List S58) (i : Int) (hr : 1 ≤ r) (hr' : r ≤ 10) (hc : 1 ≤ c) (hc' : c ≤ 9) (h0 : 0 ≤ i) (h1 : i < r * c) : Ev (fun k => impl_besideOf.f k r c l i) (nearV r c i) := by
  obtain ⟨⟨q0, q1, m0, m1, hi⟩, -⟩ := near_ok hr hr' hc hc' h0 h1
  have w1 : wrap64 (Int.tdiv i c) = Int.tdiv i c := wrap_id (by omega) (by omega)
  have w2 : wrap64 (i - c) = i - c := wrap_id (by omega) (by omega)
  have w3 : wrap64 (i - 1) = i - 1 := wrap_id (by omega) (by omega)
  have w4 : wrap64 (i + 1) = i + 1 := wrap_id (by omega) (by omega)
  have w5 : wrap64 (i + c) = i + c := wrap_id (by omega) (by omega)
  have w6 : wrap64 (Int.tmod i c + 1) = Int.tmod i c + 1 := wrap_id (by omega) (by omega)
  have w7 : wrap64 (Int.tdiv i c + 1) = Int.tdiv i c + 1 := wrap_id (by omega) (by omega)
  have hc0 : ¬ (c = 0) := by omega
  unfold nearV
  simp only [impl_besideOf.f, hc0, w1, Option.bind_some, ↓reduceIte]
  by_cases a1 : Int.tdiv i c > 0 <;> by_cases a2 : Int.tmod i c > 0 <;> by_cases a3 : Int.tmod i c + 1 < c <;> by_cases a4 : Int.tdiv i c + 1 < r <;>
  · simp only [a1, a2, a3, a4, w2, List.length_nil, List.nil_append, List.append_nil, Nat.reduceLT, ↓reduceIte]
    refine ev_up ?_
    simp only [impl_besideOf.j0, a2, w3, List.length_nil, List.length_singleton, List.nil_append, Nat.reduceLT, ↓reduceIte]
    refine ev_up ?_
    simp only [impl_besideOf.j1, a3, a4, w4, w5, w6, w7, Option.bind_some, List.length_nil, List.length_singleton, List.length_cons, List.length_append, List.nil_append, List.cons_append, Nat.reduceAdd, Nat.reduceLT, ↓reduceIte]
    exact Ev.now _
def gearV (x : S58) : Bool := decide (x.f0 = 6) || (x.f0 == 7)
theorem ggGear_eq (a b : Int) : spec_ggGear.f a b = some (gearV ⟨a, b⟩) := by
  unfold spec_ggGear.f gearV
  by_cases h : a = 6 <;> simp [h]
theorem isGeared_eq (a b : Int) : impl_isGeared.f a b = some (gearV ⟨a, b⟩) := by
  unfold impl_isGeared.f gearV
  by_cases h : a = 6 <;> simp [h]
/-! ### The search of a group, in steps -/
def cntNeg : List Int → Nat
  | [] => 0
  | x :: q => (if x < 0 then 1 else 0) + cntNeg q
theorem cntNeg_le : ∀ o : List Int, cntNeg o ≤ o.length
  | [] => by simp [cntNeg]
  | x :: q => by
    have := cntNeg_le q
    unfold cntNeg
    simp only [List.length_cons]
    split <;> omega
theorem cntNeg_set (n : Int) (hn : 0 ≤ n) : ∀ (o : List Int) (i : Nat), i < o.length → o.getD i 0 < 0 → cntNeg (o.set i n) + 1 = cntNeg o
  | [], i, h, _ => by simp at h
  | x :: q, 0, h, hx => by
    have hx' : x < 0 := by simpa using hx
    have hn' : ¬ n < 0 := by omega
    simp only [List.set_cons_zero, cntNeg, hx', hn', ↓reduceIte]
    omega
  | x :: q, i + 1, h, hx => by
    have ih := cntNeg_set n hn q i (by simpa using h) (by simpa using hx)
    simp only [List.set_cons_succ, cntNeg]
    omega
/-- What of the neighbours is marked with n: the marks behind it, and the cells that are new. -/
def addV (l : List S58) (n : Int) : List Int → List Int → List Int × List Int
  | [], o => (o, [])
  | x :: xs, o => if gearV (rd_T58 l x) = true ∧ rd o x < 0 then ((addV l n xs (o.set x.toNat n)).1, x :: (addV l n xs (o.set x.toNat n)).2) else addV l n xs o
theorem addV_len (l : List S58) (n : Int) : ∀ (xs o : List Int), (addV l n xs o).1.length = o.length
  | [], o => rfl
  | x :: xs, o => by
    unfold addV
    split
    · simp only [addV_len l n xs, List.length_set]
    · exact addV_len l n xs o
theorem addV_cnt (l : List S58) (n : Int) (hn : 0 ≤ n) : ∀ (xs o : List Int), (∀ x ∈ xs, 0 ≤ x ∧ x < (o.length : Int)) → cntNeg (addV l n xs o).1 + (addV l n xs o).2.length = cntNeg o
  | [], o, h => by simp [addV]
  | x :: xs, o, h => by
    obtain ⟨h0, h1⟩ := h x List.mem_cons_self
    unfold addV
    split
    · rename_i hc
      have ih := addV_cnt l n hn xs (o.set x.toNat n) (fun y hy => by rw [List.length_set]; exact h y (List.mem_cons_of_mem _ hy))
      have hs := cntNeg_set n hn o x.toNat (by omega) hc.2
      simp only [List.length_cons]
      omega
    · exact addV_cnt l n hn xs o (fun y hy => h y (List.mem_cons_of_mem _ hy))
theorem addV_mem (l : List S58) (n : Int) : ∀ (xs o : List Int), ∀ y ∈ (addV l n xs o).2, y ∈ xs
  | [], o => by simp [addV]
  | x :: xs, o => by
    intro y hy
    unfold addV at hy
    split at hy
    · rcases List.mem_cons.1 hy with rfl | hy
      · exact List.mem_cons_self
      · exact List.mem_cons_of_mem _ (addV_mem l n xs _ y hy)
    · exact List.mem_cons_of_mem _ (addV_mem l n xs o y hy)
theorem spec_gg_l3 (l : List S58) (r c n : Int) (hn : 0 ≤ n) (open9 : Int) (a b : Int) (h9 : 0 ≤ open9) (h9' : open9 ≤ 100000) (R : List Int) : ∀ (q p o op : List Int), (p ++ q).length ≤ 4 → o.length = l.length → op.length + q.length ≤ 100000 → (∀ x ∈ q, 0 ≤ x ∧ x < (l.length : Int)) → Ev (fun k => spec_ggGroups.l2 k (addV l n q o).1 n (op ++ (addV l n q o).2) (open9 + 1) l a b r c l) R → Ev (fun k => spec_ggGroups.l3 k o n op open9 l a b (p ++ q) ((p ++ q).length : Int) (p.length : Int) r c l) R
  | [], p, o, op, h, ho, hop, hx, hR => by
    have w : wrap64 (open9 + 1) = open9 + 1 := wrap_id (by omega) (by omega)
    refine ev_up ?_
    simp only [spec_ggGroups.l3, mid_end, w, ↓reduceIte]
    simpa [addV] using hR
  | x :: q, p, o, op, h, ho, hop, hx, hR => by
    have hp : p.length < 9223372036854775807 := by simp only [List.length_append, List.length_cons] at h; omega
    obtain ⟨h0, h1⟩ := hx x List.mem_cons_self
    have g0 : (0 ≤ x) = True := eq_true h0
    have g1 : (x < (l.length : Int)) = True := eq_true h1
    have g2 : (x < (o.length : Int)) = True := by apply eq_true; omega
    have g3 : (op.length < 17592186044416) = True := by apply eq_true; simp only [List.length_cons] at hop; omega
    have hx' : ∀ y ∈ q, 0 ≤ y ∧ y < (l.length : Int) := fun y hy => hx y (List.mem_cons_of_mem _ hy)
    refine ev_up ?_
    simp only [spec_ggGroups.l3, rd_mid, mid_lt, mid_ge, g0, g1, g2, g3, ggGear_eq, Option.bind_some, wrap_mid p x hp, ↓reduceIte]
    rw [step_mid p q x] at h ⊢
    by_cases hg : gearV (rd_T58 l x) = true
    · have hg' : gearV ⟨(rd_T58 l x).f0, (rd_T58 l x).f1⟩ = true := hg
      by_cases hm : rd o x < 0
      · have e : addV l n (x :: q) o = ((addV l n q (o.set x.toNat n)).1, x :: (addV l n q (o.set x.toNat n)).2) := by rw [addV, if_pos ⟨hg, hm⟩]
        rw [e] at hR
        simp only [hg', hm, ↓reduceIte]
        refine spec_gg_l3 l r c n hn open9 a b h9 h9' R q (p ++ [x]) (o.set x.toNat n) (op ++ [x]) h (by rw [List.length_set]; exact ho) (by simp only [List.length_append, List.length_cons, List.length_nil] at hop ⊢; omega) hx' ?_
        simpa using hR
      · have e : addV l n (x :: q) o = addV l n q o := by rw [addV, if_neg (fun hc => hm hc.2)]
        rw [e] at hR
        simp only [hg', hm, ↓reduceIte]
        exact spec_gg_l3 l r c n hn open9 a b h9 h9' R q (p ++ [x]) o op h ho (by simp only [List.length_cons] at hop; omega) hx' hR
    · have hg' : ¬ (gearV ⟨(rd_T58 l x).f0, (rd_T58 l x).f1⟩ = true) := hg
      have e : addV l n (x :: q) o = addV l n q o := by rw [addV, if_neg (fun hc => hg hc.1)]
      rw [e] at hR
      simp only [hg', ↓reduceIte]
      exact spec_gg_l3 l r c n hn open9 a b h9 h9' R q (p ++ [x]) o op h ho (by simp only [List.length_cons] at hop; omega) hx' hR
theorem impl_gn_l3 (l : List S58) (r c n : Int) (hn : 0 ≤ n) (a b : Int) (R : List Int) : ∀ (q p o op : List Int), (p ++ q).length ≤ 4 → o.length = l.length → op.length + q.length ≤ 100000 → (∀ x ∈ q, 0 ≤ x ∧ x < (l.length : Int)) → Ev (fun k => impl_groupNumbers.l2 k (addV l n q o).1 n (op ++ (addV l n q o).2) l a b r c l) R → Ev (fun k => impl_groupNumbers.l3 k o n op l a b (p ++ q) ((p ++ q).length : Int) (p.length : Int) r c l) R
  | [], p, o, op, h, ho, hop, hx, hR => by
    refine ev_up ?_
    simp only [impl_groupNumbers.l3, mid_end, ↓reduceIte]
    simpa [addV] using hR
  | x :: q, p, o, op, h, ho, hop, hx, hR => by
    have hp : p.length < 9223372036854775807 := by simp only [List.length_append, List.length_cons] at h; omega
    obtain ⟨h0, h1⟩ := hx x List.mem_cons_self
    have g0 : (0 ≤ x) = True := eq_true h0
    have g1 : (x < (l.length : Int)) = True := eq_true h1
    have g2 : (x < (o.length : Int)) = True := by apply eq_true; omega
    have g3 : (op.length < 17592186044416) = True := by apply eq_true; simp only [List.length_cons] at hop; omega
    have hx' : ∀ y ∈ q, 0 ≤ y ∧ y < (l.length : Int) := fun y hy => hx y (List.mem_cons_of_mem _ hy)
    refine ev_up ?_
    simp only [impl_groupNumbers.l3, rd_mid, mid_lt, mid_ge, g0, g1, g2, g3, isGeared_eq, Option.bind_some, wrap_mid p x hp, ↓reduceIte]
    rw [step_mid p q x] at h ⊢
    by_cases hg : gearV (rd_T58 l x) = true
    · have hg' : gearV ⟨(rd_T58 l x).f0, (rd_T58 l x).f1⟩ = true := hg
      by_cases hm : rd o x < 0
      · have e : addV l n (x :: q) o = ((addV l n q (o.set x.toNat n)).1, x :: (addV l n q (o.set x.toNat n)).2) := by rw [addV, if_pos ⟨hg, hm⟩]
        rw [e] at hR
        simp only [hg', hm, ↓reduceIte]
        refine impl_gn_l3 l r c n hn a b R q (p ++ [x]) (o.set x.toNat n) (op ++ [x]) h (by rw [List.length_set]; exact ho) (by simp only [List.length_append, List.length_cons, List.length_nil] at hop ⊢; omega) hx' ?_
        simpa using hR
      · have e : addV l n (x :: q) o = addV l n q o := by rw [addV, if_neg (fun hc => hm hc.2)]
        rw [e] at hR
        simp only [hg', hm, ↓reduceIte]
        exact impl_gn_l3 l r c n hn a b R q (p ++ [x]) o op h ho (by simp only [List.length_cons] at hop; omega) hx' hR
    · have hg' : ¬ (gearV ⟨(rd_T58 l x).f0, (rd_T58 l x).f1⟩ = true) := hg
      have e : addV l n (x :: q) o = addV l n q o := by rw [addV, if_neg (fun hc => hg hc.1)]
      rw [e] at hR
      simp only [hg', ↓reduceIte]
      exact impl_gn_l3 l r c n hn a b R q (p ++ [x]) o op h ho (by simp only [List.length_cons] at hop; omega) hx' hR
/-- One group, from whatever is open: both come to the same marks. -/
theorem gg_l2 (l : List S58) (r c n : Int) (hr : 1 ≤ r) (hr' : r ≤ 10) (hc : 1 ≤ c) (hc' : c ≤ 9) (hl : (l.length : Int) = r * c) (hn : 0 ≤ n) (a b : Int) : ∀ (m : Nat) (o op : List Int) (i : Nat), o.length = l.length → i ≤ op.length → op.length + cntNeg o ≤ 1000 → op.length - i + cntNeg o ≤ m → (∀ x ∈ op, 0 ≤ x ∧ x < (l.length : Int)) →
    ∃ o', o'.length = l.length ∧ (∀ R, Ev (fun k => spec_ggGroups.l1 k o' (wrap64 (n + 1)) l a (wrap64 (b + 1)) r c l) R → Ev (fun k => spec_ggGroups.l2 k o n op (i : Int) l a b r c l) R) ∧ (∀ R, Ev (fun k => impl_groupNumbers.l1 k o' (wrap64 (n + 1)) l a (wrap64 (b + 1)) r c l) R → Ev (fun k => impl_groupNumbers.l2 k o n (op.drop i) l a b r c l) R)
  | m, o, op, i, ho, hi, hb, hm, hx => by
    by_cases hd : i = op.length
    · have g1 : ((i : Int) < (op.length : Int)) = False := by apply eq_false; omega
      have g2 : op.drop i = [] := by rw [hd]; exact List.drop_length
      refine ⟨o, ho, fun R hR => ev_up ?_, fun R hR => ev_up ?_⟩
      · simp only [spec_ggGroups.l2, g1, ↓reduceIte]
        exact hR
      · have g3 : ¬ ((([] : List Int).length : Int) > 0) := by simp
        simp only [impl_groupNumbers.l2, g2, g3, ↓reduceIte]
        exact hR
    · have hlt : i < op.length := by omega
      obtain ⟨m, rfl⟩ : ∃ m', m = m' + 1 := ⟨m - 1, by omega⟩
      obtain ⟨y, hy⟩ : ∃ y, y = op[i] := ⟨_, rfl⟩
      have hdr : op.drop i = y :: op.drop (i + 1) := by rw [hy]; exact List.drop_eq_getElem_cons hlt
      obtain ⟨y0, y1⟩ := hx y (by rw [hy]; exact List.getElem_mem hlt)
      have hrd : rd op (i : Int) = y := by simp only [rd, Int.toNat_natCast, List.getD_eq_getElem?_getD, List.getElem?_eq_getElem hlt, hy]; rfl
      obtain ⟨-, hnb⟩ := near_ok hr hr' hc hc' y0 (by omega)
      have hnl := near_len r c y
      have hnx : ∀ x ∈ nearV r c y, 0 ≤ x ∧ x < (l.length : Int) := fun x hx => by have := hnb x hx; omega
      have hnx' : ∀ x ∈ nearV r c y, 0 ≤ x ∧ x < (o.length : Int) := fun x hx => by have := hnx x hx; omega
      have hcnt := addV_cnt l n hn (nearV r c y) o hnx'
      have hal := addV_len l n (nearV r c y) o
      obtain ⟨o', ho', hS, hI⟩ := gg_l2 l r c n hr hr' hc hc' hl hn a b m (addV l n (nearV r c y) o).1 (op ++ (addV l n (nearV r c y) o).2) (i + 1) (by omega) (by rw [List.length_append]; omega) (by rw [List.length_append]; omega) (by rw [List.length_append]; omega) (fun x hx' => by
        rcases List.mem_append.1 hx' with h | h
        · exact hx x h
        · exact hnx x (addV_mem l n _ o x h))
      refine ⟨o', ho', fun R hR => ev_up ?_, fun R hR => ev_up ?_⟩
      · have g1 : ((i : Int) < (op.length : Int)) = True := by apply eq_true; omega
        have g2 : (0 ≤ (i : Int)) = True := by apply eq_true; omega
        simp only [spec_ggGroups.l2, g1, g2, hrd, ↓reduceIte]
        refine ev_bind (spec_ggNear_ev r c l y hr hr' hc hc' y0 (by omega)) ?_
        have := spec_gg_l3 l r c n hn (i : Int) a b (by omega) (by omega) R (nearV r c y) [] o op (by simpa using hnl) ho (by omega) hnx (by simpa using hS R hR)
        simpa using this
      · have e1 : (((y :: op.drop (i + 1)).length : Nat) : Int) > 0 := by simp only [List.length_cons]; omega
        have e2 : (0 : Int) < (((y :: op.drop (i + 1)).length : Nat) : Int) := e1
        have e3 : (1 : Int) ≤ (((y :: op.drop (i + 1)).length : Nat) : Int) := by omega
        have e4 : rd (y :: op.drop (i + 1)) 0 = y := by simp [rd]
        have e5 : (y :: op.drop (i + 1)).drop (1 : Int).toNat = op.drop (i + 1) := by simp
        simp only [impl_groupNumbers.l2, hdr, e1, e2, e3, e4, e5, ↓reduceIte]
        refine ev_bind (impl_besideOf_ev r c l y hr hr' hc hc' y0 (by omega)) ?_
        have hI' := hI R hR
        rw [List.drop_append_of_le_length (by omega)] at hI'
        have hdl : (op.drop (i + 1)).length ≤ 1000 := by rw [List.length_drop]; omega
        have := impl_gn_l3 l r c n hn a b R (nearV r c y) [] o (op.drop (i + 1)) (by simpa using hnl) ho (by omega) hnx hI'
        simpa using this
theorem gg_l1 (l : List S58) (r c : Int) (hr : 1 ≤ r) (hr' : r ≤ 10) (hc : 1 ≤ c) (hc' : c ≤ 9) (hl : (l.length : Int) = r * c) (h90 : l.length ≤ 90) : ∀ (q p : List S58) (o : List Int) (n : Int), p ++ q = l → o.length = l.length → 0 ≤ n → n ≤ (p.length : Int) →
    ∃ G, G.length = l.length ∧ Ev (fun k => spec_ggGroups.l1 k o n l (l.length : Int) (p.length : Int) r c l) G ∧ Ev (fun k => impl_groupNumbers.l1 k o n l (l.length : Int) (p.length : Int) r c l) G
  | [], p, o, n, e, ho, h0, h1 => by
    have g : ((p.length : Int) < (l.length : Int)) = False := by apply eq_false; rw [← e]; simp
    refine ⟨o, ho, ev_up ?_, ev_up ?_⟩
    · simp only [spec_ggGroups.l1, g, ↓reduceIte]; exact Ev.now _
    · simp only [impl_groupNumbers.l1, g, ↓reduceIte]; exact Ev.now _
  | x :: q, p, o, n, e, ho, h0, h1 => by
    have hlen : l.length = p.length + (q.length + 1) := by rw [← e]; simp
    have hp : p.length < 9223372036854775807 := by omega
    have g1 : ((p.length : Int) < (l.length : Int)) = True := by apply eq_true; omega
    have g2 : (0 ≤ (p.length : Int)) = True := by apply eq_true; omega
    have g3 : ((p.length : Int) < (o.length : Int)) = True := by apply eq_true; omega
    have hw : wrap64 ((p.length : Int) + 1) = ((p ++ [x]).length : Int) := wrap_mid p x hp
    have hwn : wrap64 (n + 1) = n + 1 := wrap_id (by omega) (by omega)
    have e' : (p ++ [x]) ++ q = l := by rw [← e]; simp
    by_cases hg : gearV ⟨(rd_T58 l (p.length : Int)).f0, (rd_T58 l (p.length : Int)).f1⟩ = true
    · by_cases hm : rd o (p.length : Int) ≥ 0
      · obtain ⟨G, hG, hS, hI⟩ := gg_l1 l r c hr hr' hc hc' hl h90 q (p ++ [x]) o n e' ho h0 (by simp only [List.length_append, List.length_singleton]; omega)
        refine ⟨G, hG, ev_up ?_, ev_up ?_⟩
        · simp only [spec_ggGroups.l1, g1, g2, g3, ggGear_eq, hg, hm, decide_true, Option.bind_some, ↓reduceIte]
          refine ev_up ?_
          simp only [spec_ggGroups.j2, hw, ↓reduceIte]
          exact hS
        · simp only [impl_groupNumbers.l1, g1, g2, g3, isGeared_eq, hg, hm, decide_true, Option.bind_some, ↓reduceIte]
          refine ev_up ?_
          simp only [impl_groupNumbers.j2, hw, ↓reduceIte]
          exact hI
      · have hcn : cntNeg (o.set p.length n) + 1 = cntNeg o := cntNeg_set n h0 o p.length (by omega) (by simp only [rd, Int.toNat_natCast] at hm; omega)
        have hcl := cntNeg_le o
        obtain ⟨o', ho', hS2, hI2⟩ := gg_l2 l r c n hr hr' hc hc' hl h0 (l.length : Int) (p.length : Int) 2000 (o.set p.length n) [(p.length : Int)] 0 (by simpa using ho) (by simp) (by simp; omega) (by simp; omega) (fun y hy => by simp only [List.mem_singleton] at hy; omega)
        obtain ⟨G, hG, hS, hI⟩ := gg_l1 l r c hr hr' hc hc' hl h90 q (p ++ [x]) o' (n + 1) e' ho' (by omega) (by simp only [List.length_append, List.length_singleton]; omega)
        refine ⟨G, hG, ev_up ?_, ev_up ?_⟩
        · simp only [spec_ggGroups.l1, g1, g2, g3, ggGear_eq, hg, hm, decide_false, Option.bind_some, ↓reduceIte]
          refine ev_up ?_
          simp only [spec_ggGroups.j2, g2, g3, Bool.false_eq_true, Int.toNat_natCast, ↓reduceIte]
          exact hS2 G (by rw [hwn, hw]; exact hS)
        · simp only [impl_groupNumbers.l1, g1, g2, g3, isGeared_eq, hg, hm, decide_false, Option.bind_some, ↓reduceIte]
          refine ev_up ?_
          simp only [impl_groupNumbers.j2, g2, g3, Bool.false_eq_true, Int.toNat_natCast, ↓reduceIte]
          exact hI2 G (by rw [hwn, hw]; exact hI)
    · obtain ⟨G, hG, hS, hI⟩ := gg_l1 l r c hr hr' hc hc' hl h90 q (p ++ [x]) o n e' ho h0 (by simp only [List.length_append, List.length_singleton]; omega)
      refine ⟨G, hG, ev_up ?_, ev_up ?_⟩
      · simp only [spec_ggGroups.l1, g1, g2, ggGear_eq, hg, Option.bind_some, Bool.false_eq_true, ↓reduceIte]
        refine ev_up ?_
        simp only [spec_ggGroups.j2, hw, ↓reduceIte]
        exact hS
      · simp only [impl_groupNumbers.l1, g1, g2, isGeared_eq, hg, Option.bind_some, Bool.false_eq_true, ↓reduceIte]
        refine ev_up ?_
        simp only [impl_groupNumbers.j2, hw, ↓reduceIte]
        exact hI
theorem spec_gg_l0 (l : List S58) (r c : Int) (R : List Int) : ∀ (q p : List Int), (p ++ q).length ≤ 100000 → Ev (fun k => spec_ggGroups.l1 k (p ++ q.map (fun _ => -1)) 0 l (l.length : Int) 0 r c l) R → Ev (fun k => spec_ggGroups.l0 k (p ++ q) ((p ++ q).length : Int) (p.length : Int) r c l) R
  | [], p, h, hR => by
    refine ev_up ?_
    simp only [spec_ggGroups.l0, mid_end, ↓reduceIte]
    simpa using hR
  | x :: q, p, h, hR => by
    have hp : p.length < 9223372036854775807 := by simp only [List.length_append, List.length_cons] at h; omega
    refine ev_up ?_
    simp only [spec_ggGroups.l0, mid_lt, mid_ge, set_mid, wrap_mid p (-1 : Int) hp, ↓reduceIte]
    have e : ((p ++ x :: q).length : Int) = ((p ++ [-1] ++ q).length : Int) := by simp
    rw [e, step_mid p q (-1)]
    exact spec_gg_l0 l r c R q (p ++ [-1]) (by simp only [List.length_append, List.length_cons, List.length_nil] at h ⊢; omega) (by simpa using hR)
theorem impl_gn_l0 (l : List S58) (r c : Int) (R : List Int) : ∀ (q p : List Int), (p ++ q).length ≤ 100000 → Ev (fun k => impl_groupNumbers.l1 k (p ++ q.map (fun _ => -1)) 0 l (l.length : Int) 0 r c l) R → Ev (fun k => impl_groupNumbers.l0 k (p ++ q) ((p ++ q).length : Int) (p.length : Int) r c l) R
  | [], p, h, hR => by
    refine ev_up ?_
    simp only [impl_groupNumbers.l0, mid_end, ↓reduceIte]
    simpa using hR
  | x :: q, p, h, hR => by
    have hp : p.length < 9223372036854775807 := by simp only [List.length_append, List.length_cons] at h; omega
    refine ev_up ?_
    simp only [impl_groupNumbers.l0, mid_lt, mid_ge, set_mid, wrap_mid p (-1 : Int) hp, ↓reduceIte]
    have e : ((p ++ x :: q).length : Int) = ((p ++ [-1] ++ q).length : Int) := by simp
    rw [e, step_mid p q (-1)]
    exact impl_gn_l0 l r c R q (p ++ [-1]) (by simp only [List.length_append, List.length_cons, List.length_nil] at h ⊢; omega) (by simpa using hR)
theorem groups_ev (r c : Int) (l : List S58) (hb : goodBoard r c l = true) : ∃ G, G.length = l.length ∧ Ev (fun k => spec_ggGroups.f k r c l) G ∧ Ev (fun k => impl_groupNumbers.f k r c l) G := by
  obtain ⟨h1, h2, h3, h4⟩ := goodBoard_size hb
  have h90 := goodBoard_len hb
  have hl : (l.length : Int) = r * c := by unfold goodBoard at hb; simp only [Bool.and_eq_true, decide_eq_true_eq] at hb; exact hb.1.2.2.2.2
  obtain ⟨G, hG, hS, hI⟩ := gg_l1 l r c h1 h2 h3 h4 hl h90 l [] ((List.replicate l.length (0 : Int)).map (fun _ => -1)) 0 rfl (by simp) (by omega) (by simp)
  have g1 : (0 ≤ (l.length : Int)) = True := by apply eq_true; omega
  have g2 : (((l.length : Int) : Int).toNat ≤ 35184372088832) = True := by apply eq_true; omega
  refine ⟨G, hG, ?_, ?_⟩
  · simp only [spec_ggGroups.f, g1, g2, Option.bind_some, ↓reduceIte]
    simpa using spec_gg_l0 l r c G (List.replicate l.length 0) [] (by simp; omega) (by simpa using hS)
  · simp only [impl_groupNumbers.f, g1, g2, Option.bind_some, ↓reduceIte]
    simpa using impl_gn_l0 l r c G (List.replicate l.length 0) [] (by simp; omega) (by simpa using hI)
/-! ### Turning -/
def turnV (g : List Int) (t : Int) : Nat → List S58 → List S58
  | _, [] => []
  | i, x :: q => (if x.f0 = 6 ∧ rd g (i : Int) = t then ⟨x.f0, wrap64 (1 - x.f1)⟩ else x) :: turnV g t (i + 1) q
theorem turnV_len (g : List Int) (t : Int) : ∀ (q : List S58) (i : Nat), (turnV g t i q).length = q.length
  | [], i => rfl
  | x :: q, i => by simp only [turnV, List.length_cons, turnV_len g t q]
theorem turn_ok {x : S58} (h : okCell x = true) (hk : x.f0 = 3 ∨ x.f0 = 6) : okCell ⟨x.f0, wrap64 (1 - x.f1)⟩ = true := by
  unfold okCell at *
  simp only [decide_eq_true_eq] at *
  have hw : wrap64 (1 - x.f1) = 1 - x.f1 := wrap_id (by omega) (by omega)
  rw [hw]
  omega
theorem turnV_ok (g : List Int) (t : Int) : ∀ (q : List S58) (i : Nat), (∀ x ∈ q, okCell x = true) → ∀ x ∈ turnV g t i q, okCell x = true
  | [], i, h => by simp [turnV]
  | y :: q, i, h => by
    intro x hx
    unfold turnV at hx
    rcases List.mem_cons.1 hx with rfl | hx
    · split
      · rename_i hc
        exact turn_ok (h y List.mem_cons_self) (.inr hc.1)
      · exact h y List.mem_cons_self
    · exact turnV_ok g t q (i + 1) (fun z hz => h z (List.mem_cons_of_mem _ hz)) x hx
theorem spec_flPass_l0 (g : List Int) (a r c : Int) (X : List S58) (ha : 0 ≤ a) (ha' : a < (g.length : Int)) : ∀ (q p : List S58), (p ++ q).length ≤ 100000 → (p ++ q).length = g.length → Ev (fun k => spec_flPass.l0 k g a X ((p ++ q).length : Int) (p.length : Int) r c (p ++ q)) (p ++ turnV g (rd g a) p.length q)
  | [], p, h, hg => by
    refine ev_up ?_
    simp only [spec_flPass.l0, mid_end, ↓reduceIte, turnV]
    exact Ev.now _
  | x :: q, p, h, hg => by
    have hp : p.length < 9223372036854775807 := by simp only [List.length_append, List.length_cons] at h; omega
    have g1 : ((p.length : Int) < (g.length : Int)) = True := by apply eq_true; simp only [List.length_append, List.length_cons] at hg; omega
    have g2 : (0 ≤ a) = True := eq_true ha
    have g3 : (a < (g.length : Int)) = True := eq_true ha'
    refine ev_up ?_
    simp only [spec_flPass.l0, rd_T58, mid_lt, mid_ge, getD_mid, g1, g2, g3, wrap_mid p x hp, ↓reduceIte]
    by_cases h6 : x.f0 = 6
    · by_cases ht : rd g (p.length : Int) = rd g a
      · simp only [h6, ht, spec_paTurn.f, Option.bind_some, mid_lt, set_mid, turnV, and_self, ↓reduceIte]
        have e : ((p ++ x :: q).length : Int) = ((p ++ [(⟨6, wrap64 (1 - x.f1)⟩ : S58)] ++ q).length : Int) := by simp
        have e2 : ((p ++ [x]).length : Int) = ((p ++ [(⟨6, wrap64 (1 - x.f1)⟩ : S58)]).length : Int) := by simp
        rw [e, e2, step_mid p q]
        have := spec_flPass_l0 g a r c X ha ha' q (p ++ [(⟨6, wrap64 (1 - x.f1)⟩ : S58)]) (by simp only [List.length_append, List.length_cons, List.length_nil] at h ⊢; omega) (by simp only [List.length_append, List.length_cons, List.length_nil] at hg ⊢; omega)
        simpa using this
      · simp only [h6, ht, turnV, and_false, ↓reduceIte]
        rw [step_mid p q x] at h hg ⊢
        have := spec_flPass_l0 g a r c X ha ha' q (p ++ [x]) h hg
        simpa using this
    · simp only [h6, turnV, false_and, ↓reduceIte]
      rw [step_mid p q x] at h hg ⊢
      have := spec_flPass_l0 g a r c X ha ha' q (p ++ [x]) h hg
      simpa using this
def passV (g : List Int) (a : Int) (l : List S58) : List S58 := if (rd_T58 l a).f0 = 3 then l.set a.toNat ⟨(rd_T58 l a).f0, wrap64 (1 - (rd_T58 l a).f1)⟩ else if (rd_T58 l a).f0 = 6 then turnV g (rd g a) 0 l else l
theorem passV_len (g : List Int) (a : Int) (l : List S58) : (passV g a l).length = l.length := by
  unfold passV
  split
  · simp
  · split
    · exact turnV_len _ _ _ _
    · rfl
theorem rd_ok {l : List S58} (h : ∀ x ∈ l, okCell x = true) (a : Int) (h0 : 0 ≤ a) (h1 : a < (l.length : Int)) : okCell (rd_T58 l a) = true := by
  have hi : a.toNat < l.length := by omega
  have e : rd_T58 l a = l[a.toNat] := by simp only [rd_T58, List.getD_eq_getElem?_getD, List.getElem?_eq_getElem hi]; rfl
  rw [e]
  exact h _ (List.getElem_mem hi)
theorem passV_ok (g : List Int) (a : Int) (l : List S58) (h : ∀ x ∈ l, okCell x = true) (h0 : 0 ≤ a) (h1 : a < (l.length : Int)) : ∀ x ∈ passV g a l, okCell x = true := by
  unfold passV
  split
  · rename_i hk
    intro x hx
    rcases List.mem_or_eq_of_mem_set hx with hx | rfl
    · exact h x hx
    · exact turn_ok (rd_ok h a h0 h1) (.inl hk)
  · split
    · exact turnV_ok g _ l 0 h
    · exact h
theorem spec_flPass_ev (g : List Int) (a r c : Int) (l : List S58) (hl : l.length ≤ 90) (hg : g.length = l.length) (h0 : 0 ≤ a) (h1 : a < (l.length : Int)) : Ev (fun k => spec_flPass.f k r c l g a) (passV g a l) := by
  have g0 : (0 ≤ a) = True := eq_true h0
  have g1 : (a < (l.length : Int)) = True := eq_true h1
  unfold passV
  simp only [spec_flPass.f, g0, g1, spec_paTurn.f, Option.bind_some, ↓reduceIte]
  by_cases h3 : (rd_T58 l a).f0 = 3
  · simp only [h3, ↓reduceIte]
    exact Ev.now _
  · by_cases h6 : (rd_T58 l a).f0 = 6
    · simp only [h6, Int.reduceEq, ↓reduceIte]
      have := spec_flPass_l0 g a r c l h0 (by omega) l [] (by simp; omega) (by simpa using hg.symm)
      simpa using this
    · simp only [h3, h6, ↓reduceIte]
      exact Ev.now _
theorem impl_turn_l0 (g : List Int) (a r c : Int) (ha : 0 ≤ a) (ha' : a < (g.length : Int)) : ∀ (q p : List S58), (p ++ q).length ≤ 100000 → (p ++ q).length = g.length → Ev (fun k => impl_turnGroup.l0 k g a ((p ++ q).length : Int) (p.length : Int) r c (p ++ q)) (p ++ turnV g (rd g a) p.length q)
  | [], p, h, hg => by
    refine ev_up ?_
    simp only [impl_turnGroup.l0, mid_end, ↓reduceIte, turnV]
    exact Ev.now _
  | x :: q, p, h, hg => by
    have hp : p.length < 9223372036854775807 := by simp only [List.length_append, List.length_cons] at h; omega
    have g1 : ((p.length : Int) < (g.length : Int)) = True := by apply eq_true; simp only [List.length_append, List.length_cons] at hg; omega
    have g2 : (0 ≤ a) = True := eq_true ha
    have g3 : (a < (g.length : Int)) = True := eq_true ha'
    refine ev_up ?_
    simp only [impl_turnGroup.l0, rd_T58, mid_lt, mid_ge, getD_mid, g1, g2, g3, wrap_mid p x hp, ↓reduceIte]
    by_cases h6 : x.f0 = 6
    · by_cases ht : rd g (p.length : Int) = rd g a
      · simp only [h6, ht, Option.bind_some, mid_lt, set_mid, turnV, and_self, ↓reduceIte]
        have e : ((p ++ x :: q).length : Int) = ((p ++ [(⟨6, wrap64 (1 - x.f1)⟩ : S58)] ++ q).length : Int) := by simp
        have e2 : ((p ++ [x]).length : Int) = ((p ++ [(⟨6, wrap64 (1 - x.f1)⟩ : S58)]).length : Int) := by simp
        rw [e, e2, step_mid p q]
        have := impl_turn_l0 g a r c ha ha' q (p ++ [(⟨6, wrap64 (1 - x.f1)⟩ : S58)]) (by simp only [List.length_append, List.length_cons, List.length_nil] at h ⊢; omega) (by simp only [List.length_append, List.length_cons, List.length_nil] at hg ⊢; omega)
        simpa using this
      · simp only [h6, ht, turnV, and_false, ↓reduceIte]
        rw [step_mid p q x] at h hg ⊢
        have := impl_turn_l0 g a r c ha ha' q (p ++ [x]) h hg
        simpa using this
    · simp only [h6, turnV, false_and, ↓reduceIte]
      rw [step_mid p q x] at h hg ⊢
      have := impl_turn_l0 g a r c ha ha' q (p ++ [x]) h hg
      simpa using this
theorem impl_turnGroup_ev (g : List Int) (a r c : Int) (l : List S58) (hl : l.length ≤ 90) (hg : g.length = l.length) (h0 : 0 ≤ a) (h1 : a < (l.length : Int)) : Ev (fun k => impl_turnGroup.f k r c l g a) (turnV g (rd g a) 0 l) := by
  simp only [impl_turnGroup.f]
  have := impl_turn_l0 g a r c h0 (by omega) l [] (by simp; omega) (by simpa using hg.symm)
  simpa using this
def goesV (x : S58) (s : Int) : Int := if x.f0 = 1 then -1 else if x.f0 = 2 then 1 else if x.f0 = 3 then 2 * x.f1 - 1 else if x.f0 = 6 then 2 * x.f1 - 1 else if x.f0 = 4 then -s else 0
theorem goesV_bnd {x : S58} {s : Int} (h : okCell x = true) (h0 : -1 ≤ s) (h1 : s ≤ 1) : -1 ≤ goesV x s ∧ goesV x s ≤ 1 := by
  unfold okCell at h
  simp only [decide_eq_true_eq] at h
  unfold goesV
  split
  · omega
  · split
    · omega
    · split
      · omega
      · split
        · omega
        · split <;> omega
theorem spec_paGoes_ev (x : S58) (s : Int) (h : okCell x = true) (h0 : -1 ≤ s) (h1 : s ≤ 1) : Ev (fun k => spec_paGoes.f k x.f0 x.f1 s) (goesV x s) := by
  unfold okCell at h
  simp only [decide_eq_true_eq] at h
  have w1 : wrap64 (2 * x.f1) = 2 * x.f1 := wrap_id (by omega) (by omega)
  have w2 : wrap64 (2 * x.f1 - 1) = 2 * x.f1 - 1 := wrap_id (by omega) (by omega)
  have w3 : wrap64 (-s) = -s := wrap_id (by omega) (by omega)
  unfold goesV
  simp only [spec_paGoes.f]
  by_cases k1 : x.f0 = 1
  · simp only [k1, ↓reduceIte]; exact Ev.now _
  · by_cases k2 : x.f0 = 2
    · simp only [k2, Int.reduceEq, ↓reduceIte]; exact Ev.now _
    · by_cases k3 : x.f0 = 3
      · simp only [k3, Int.reduceEq, ↓reduceIte]
        refine ev_up ?_
        simp only [spec_paGoes.j0, w1, w2, beq_self_eq_true, ↓reduceIte]
        exact Ev.now _
      · by_cases k6 : x.f0 = 6
        · simp only [k6, Int.reduceEq, ↓reduceIte]
          refine ev_up ?_
          simp only [spec_paGoes.j0, w1, w2, beq_self_eq_true, ↓reduceIte]
          exact Ev.now _
        · have b6 : (x.f0 == 6) = false := by simpa using k6
          simp only [k1, k2, k3, k6, b6, ↓reduceIte]
          refine ev_up ?_
          simp only [spec_paGoes.j0, w3, Bool.false_eq_true, ↓reduceIte]
          by_cases k4 : x.f0 = 4
          · simp only [k4, ↓reduceIte]; exact Ev.now _
          · simp only [k4, ↓reduceIte]; exact Ev.now _
theorem impl_GoesTo_ev (x : S58) (s : Int) (h : okCell x = true) (h0 : -1 ≤ s) (h1 : s ≤ 1) : Ev (fun k => impl_GoesTo.f k x.f0 x.f1 s) (if x.f0 = 5 then (0, false) else (goesV x s, true)) := by
  have hok := h
  unfold okCell at h
  simp only [decide_eq_true_eq] at h
  have w1 : wrap64 (2 * x.f1) = 2 * x.f1 := wrap_id (by omega) (by omega)
  have w2 : wrap64 (2 * x.f1 - 1) = 2 * x.f1 - 1 := wrap_id (by omega) (by omega)
  have w3 : wrap64 (-s) = -s := wrap_id (by omega) (by omega)
  have s1 : ¬ (s < -1) := by omega
  have s2 : ¬ (s > 1) := by omega
  have e : okCell ⟨x.f0, x.f1⟩ = true := hok
  unfold goesV
  simp only [impl_GoesTo.f, IsCell_eq, e, Option.bind_some, s1, s2, ↓reduceIte]
  refine ev_up ?_
  by_cases k5 : x.f0 = 5
  · simp only [impl_GoesTo.j0, k5, beq_self_eq_true, ↓reduceIte]
    exact Ev.now _
  · have b5 : (x.f0 == 5) = false := by simpa using k5
    simp only [impl_GoesTo.j0, k5, b5, Bool.false_eq_true, ↓reduceIte]
    by_cases k1 : x.f0 = 1
    · simp only [k1, ↓reduceIte]; exact Ev.now _
    · by_cases k2 : x.f0 = 2
      · simp only [k2, Int.reduceEq, ↓reduceIte]; exact Ev.now _
      · by_cases k3 : x.f0 = 3
        · simp only [k3, Int.reduceEq, ↓reduceIte]
          refine ev_up ?_
          simp only [impl_GoesTo.j1, w1, w2, beq_self_eq_true, ↓reduceIte]
          exact Ev.now _
        · by_cases k6 : x.f0 = 6
          · simp only [k6, Int.reduceEq, ↓reduceIte]
            refine ev_up ?_
            simp only [impl_GoesTo.j1, w1, w2, beq_self_eq_true, ↓reduceIte]
            exact Ev.now _
          · have b6 : (x.f0 == 6) = false := by simpa using k6
            simp only [k1, k2, k3, k6, b6, ↓reduceIte]
            refine ev_up ?_
            simp only [impl_GoesTo.j1, w3, Bool.false_eq_true, ↓reduceIte]
            by_cases k4 : x.f0 = 4
            · simp only [k4, ↓reduceIte]; exact Ev.now _
            · simp only [k4, ↓reduceIte]; exact Ev.now _
/-! ### One marble -/
theorem goodBoard_of {r c : Int} {l l' : List S58} (h : goodBoard r c l = true) (hl : l'.length = l.length) (ho : ∀ x ∈ l', okCell x = true) : goodBoard r c l' = true := by
  unfold goodBoard at *
  simp only [Bool.and_eq_true, decide_eq_true_eq, List.all_eq_true] at *
  exact ⟨by rw [hl]; exact h.1, ho⟩
theorem at_bnd {r c row col : Int} (h1 : 1 ≤ r) (h2 : r ≤ 10) (h3 : 1 ≤ c) (h4 : c ≤ 9) (r0 : 0 ≤ row) (r1 : row < r) (c0 : 0 ≤ col) (c1 : col < c) : 0 ≤ row * c ∧ row * c ≤ 90 ∧ 0 ≤ row * c + col ∧ row * c + col < r * c ∧ row * c + col ≤ 89 := by
  have hcs : c = 1 ∨ c = 2 ∨ c = 3 ∨ c = 4 ∨ c = 5 ∨ c = 6 ∨ c = 7 ∨ c = 8 ∨ c = 9 := by omega
  rcases hcs with rfl | rfl | rfl | rfl | rfl | rfl | rfl | rfl | rfl <;> omega
theorem fall_l0 (r c : Int) (g : List Int) (LR LC : Int) (LL : List S58) (hLR : LR = r) (hLC : LC = c) : ∀ (d : Nat) (row col side : Int) (l : List S58) (way : List (List Int)) (way' : List Int), goodBoard r c l = true → g.length = l.length → (d : Int) = r - row → 0 ≤ row → 0 ≤ col → col < c → -1 ≤ side → side ≤ 1 → way.length ≤ row.toNat → way'.length ≤ row.toNat →
    ∃ e w x l' y y', goodBoard r c l' = true ∧ l'.length = l.length ∧ Ev (fun k => spec_flGo.l0 k g col way side row LR LC LL r c l) (e, w, x, r, c, l', y) ∧ Ev (fun k => impl_drop.l0 k g col way' side row r c l) (e, w, x, y', l')
  | 0, row, col, side, l, way, way', hb, hg, hd, r0, c0, c1, s0, s1, hw, hw' => by
    have g1 : ¬ (row < r) := by omega
    have g1' : ¬ (row < LR) := by omega
    refine ⟨1, r, col, l, way, way', hb, rfl, ev_up ?_, ev_up ?_⟩
    · simp only [spec_flGo.l0, g1', ↓reduceIte]; exact ev_eq (Ev.now _) (by rw [hLR])
    · simp only [impl_drop.l0, g1, ↓reduceIte]; exact Ev.now _
  | d + 1, row, col, side, l, way, way', hb, hg, hd, r0, c0, c1, s0, s1, hw, hw' => by
    obtain ⟨h1, h2, h3, h4⟩ := goodBoard_size hb
    have h90 := goodBoard_len hb
    have hl : (l.length : Int) = r * c := by unfold goodBoard at hb; simp only [Bool.and_eq_true, decide_eq_true_eq] at hb; exact hb.1.2.2.2.2
    have hr : row < r := by omega
    obtain ⟨a1, a2, a3, a4, a5⟩ := at_bnd h1 h2 h3 h4 r0 hr c0 c1
    have w1 : wrap64 (row * c) = row * c := wrap_id (by omega) (by omega)
    have w2 : wrap64 (row * c + col) = row * c + col := wrap_id (by omega) (by omega)
    have w1' : wrap64 (row * LC) = row * c := by rw [hLC]; exact w1
    have w3 : wrap64 (row + 1) = row + 1 := wrap_id (by omega) (by omega)
    have w4 : wrap64 (c - 1) = c - 1 := wrap_id (by omega) (by omega)
    have w4' : wrap64 (LC - 1) = c - 1 := by rw [hLC]; exact w4
    have gr : (row < LR) = True := by apply eq_true; omega
    have gr' : (row < r) = True := eq_true hr
    have gw : (way.length < 5864062014805) = True := by apply eq_true; omega
    have gw' : (way'.length < 17592186044416) = True := by apply eq_true; omega
    obtain ⟨at_, hat⟩ : ∃ a, a = row * c + col := ⟨_, rfl⟩
    rw [← hat] at w2 a3 a4 a5
    have b0 : (0 ≤ at_) = True := eq_true a3
    have b1 : (at_ < (l.length : Int)) = True := by apply eq_true; omega
    have hok := goodBoard_ok hb
    have hox := rd_ok hok at_ a3 (by omega)
    obtain ⟨x, hx⟩ : ∃ x, x = rd_T58 l at_ := ⟨_, rfl⟩
    rw [← hx] at hox
    obtain ⟨v0, v1⟩ := goesV_bnd hox s0 s1
    obtain ⟨v, hv⟩ : ∃ v, v = goesV x side := ⟨_, rfl⟩
    rw [← hv] at v0 v1
    have wv : wrap64 (col + v) = col + v := wrap_id (by omega) (by omega)
    have wn : wrap64 (-v) = -v := wrap_id (by omega) (by omega)
    by_cases k5 : x.f0 = 5
    · refine ⟨2, row, col, l, way ++ [[row, col]], way' ++ [at_], hb, rfl, ev_up ?_, ev_up ?_⟩
      · simp only [spec_flGo.l0, gr, gw, spec_boAt.f, w1, ← hat, w2, b0, b1, ← hx, k5, Option.bind_some, ↓reduceIte]
        exact Ev.now _
      · simp only [impl_drop.l0, gr', gw', w1, ← hat, w2, b0, b1, ← hx, Option.bind_some, ↓reduceIte]
        refine ev_bind (impl_GoesTo_ev x side hox s0 s1) ?_
        simp only [k5, Bool.false_eq_true, ↓reduceIte]
        exact Ev.now _
    · have hP := spec_flPass_ev g at_ r c l h90 hg a3 (by omega)
      have hT := impl_turnGroup_ev g at_ r c l h90 hg a3 (by omega)
      have hPo := passV_ok g at_ l hok a3 (by omega)
      have hPl := passV_len g at_ l
      have hPb := goodBoard_of hb hPl hPo
      -- what drop makes of the cell is what flPass makes
      have hD : ∀ (R : Int × Int × Int × List Int × List S58) , (Ev (fun k => (if col + v < 0 then (some (3, row, col + v, way' ++ [at_], passV g at_ l)) else (if col + v ≥ c then (some (3, row, col + v, way' ++ [at_], passV g at_ l)) else (impl_drop.l0 k g (col + v) (way' ++ [at_]) (-v) (row + 1) r c (passV g at_ l))))) R) → Ev (fun k => impl_drop.l0 k g col way' side row r c l) R := by
        intro R hR
        refine ev_up ?_
        simp only [impl_drop.l0, gr', gw', w1, ← hat, w2, b0, b1, ← hx, Option.bind_some, ↓reduceIte]
        refine ev_bind (impl_GoesTo_ev x side hox s0 s1) ?_
        simp only [k5, ← hv, ↓reduceIte]
        unfold passV at hR
        rw [← hx] at hR
        by_cases k3 : x.f0 = 3
        · simp only [k3, ↓reduceIte] at hR ⊢
          refine ev_up ?_
          simp only [impl_drop.j1, wv, wn, w3, Int.reduceEq, ↓reduceIte]
          exact hR
        · by_cases k6 : x.f0 = 6
          · simp only [k6, Int.reduceEq, ↓reduceIte] at hR ⊢
            refine ev_up ?_
            simp only [impl_drop.j1, wv, wn, w3, ↓reduceIte]
            exact ev_bind hT hR
          · simp only [k3, k6, ↓reduceIte] at hR ⊢
            refine ev_up ?_
            simp only [impl_drop.j1, k6, wv, wn, w3, ↓reduceIte]
            exact hR
      have hS : ∀ (R : Int × Int × Int × Int × Int × List S58 × List (List Int)), (Ev (fun k => (if decide (0 ≤ col + v ∧ col + v ≤ c - 1) = true then (spec_flGo.l0 k g (col + v) (way ++ [[row, col]]) (-v) (row + 1) LR LC LL r c (passV g at_ l)) else (some (3, row, col + v, r, c, passV g at_ l, way ++ [[row, col]])))) R) → Ev (fun k => spec_flGo.l0 k g col way side row LR LC LL r c l) R := by
        intro R hR
        refine ev_up ?_
        simp only [spec_flGo.l0, gr, gw, spec_boAt.f, w1, w1', ← hat, w2, b0, b1, ← hx, k5, Option.bind_some, ↓reduceIte]
        refine ev_bind (spec_paGoes_ev x side hox s0 s1) ?_
        refine ev_bind hP ?_
        simp only [l1In_eq, ← hv, wv, wn, w3, w4', Option.bind_some]
        exact hR
      by_cases hin : 0 ≤ col + v ∧ col + v ≤ c - 1
      · obtain ⟨e, w, x', l', y, y', q1, q2, q3, q4⟩ := fall_l0 r c g LR LC LL hLR hLC d (row + 1) (col + v) (-v) (passV g at_ l) (way ++ [[row, col]]) (way' ++ [at_]) hPb (by omega) (by omega) (by omega) hin.1 (by omega) (by omega) (by omega) (by rw [List.length_append, List.length_singleton]; omega) (by rw [List.length_append, List.length_singleton]; omega)
        have n1 : ¬ (col + v < 0) := by omega
        have n2 : ¬ (col + v ≥ c) := by omega
        refine ⟨e, w, x', l', y, y', q1, by omega, hS _ ?_, hD _ ?_⟩
        · simp only [hin, and_self, decide_true, ↓reduceIte]
          exact q3
        · simp only [n1, n2, ↓reduceIte]
          exact q4
      · refine ⟨3, row, col + v, passV g at_ l, way ++ [[row, col]], way' ++ [at_], hPb, hPl, hS _ ?_, hD _ ?_⟩
        · simp only [hin, decide_false, Bool.false_eq_true, ↓reduceIte]
          exact Ev.now _
        · by_cases n1 : col + v < 0
          · simp only [n1, ↓reduceIte]
            exact Ev.now _
          · have n2 : col + v ≥ c := by omega
            simp only [n1, n2, ↓reduceIte]
            exact Ev.now _
theorem fall_ev (r c : Int) (l : List S58) (col : Int) (hb : goodBoard r c l = true) (c0 : 0 ≤ col) (c1 : col < c) : ∃ e w x l' y' G, goodBoard r c l' = true ∧ l'.length = l.length ∧ Ev (fun k => spec_flRun.f k r c l col) (e, w, x, r, c, l') ∧ Ev (fun k => impl_groupNumbers.f k r c l) G ∧ Ev (fun k => impl_drop.f k r c l G col) (e, w, x, y', l') := by
  obtain ⟨h1, h2, h3, h4⟩ := goodBoard_size hb
  have h90 := goodBoard_len hb
  obtain ⟨G, hG, gS, gI⟩ := groups_ev r c l hb
  obtain ⟨e, w, x, l', y, y', q1, q2, q3, q4⟩ := fall_l0 r c G r c l rfl rfl r.toNat 0 col 0 l [] [] hb hG (by omega) (by omega) c0 c1 (by omega) (by omega) (by simp) (by simp)
  refine ⟨e, w, x, l', y', G, q1, q2, ?_, gI, ?_⟩
  · simp only [spec_flRun.f]
    refine ev_bind gS ?_
    simp only [spec_flGo.f, boOwn_eq r c l (by omega), Option.bind_some]
    exact ev_bind q3 (Ev.now _)
  · simp only [impl_drop.f]
    exact q4
/-! ### All actions, one after the other -/
def resetV (l : List S58) : List S58 := l.map fun x => ⟨x.f0, 0⟩
theorem resetV_ok (l : List S58) (h : ∀ x ∈ l, okCell x = true) : ∀ x ∈ resetV l, okCell x = true := by
  intro x hx
  unfold resetV at hx
  obtain ⟨y, hy, rfl⟩ := List.mem_map.1 hx
  have := h y hy
  unfold okCell at *
  simp only [decide_eq_true_eq] at *
  exact ⟨this.1, this.2.1, .inl trivial⟩
theorem spec_now_l1 (F : List S100) (D : List S60) (n i r c : Int) (R : Int × Int × List S58 × List S100) : ∀ (q p : List S58), (p ++ q).length ≤ 100000 → Ev (fun k => spec_seNow.l0 k F D n (wrap64 (i + 1)) r c (p ++ resetV q)) R → Ev (fun k => spec_seNow.l1 k F D n i ((p ++ q).length : Int) (p.length : Int) r c (p ++ q)) R
  | [], p, h, hR => by
    refine ev_up ?_
    simp only [spec_seNow.l1, mid_end, ↓reduceIte]
    simpa [resetV] using hR
  | x :: q, p, h, hR => by
    have hp : p.length < 9223372036854775807 := by simp only [List.length_append, List.length_cons] at h; omega
    refine ev_up ?_
    simp only [spec_seNow.l1, rd_T58, mid_lt, mid_ge, getD_mid, set_mid, wrap_mid p (⟨x.f0, 0⟩ : S58) hp, ↓reduceIte]
    have e : ((p ++ x :: q).length : Int) = ((p ++ [(⟨x.f0, 0⟩ : S58)] ++ q).length : Int) := by simp
    rw [e, step_mid p q]
    exact spec_now_l1 F D n i r c R q (p ++ [⟨x.f0, 0⟩]) (by simp only [List.length_append, List.length_cons, List.length_nil] at h ⊢; omega) (by simpa [resetV] using hR)
theorem impl_play_l1 (F : List S100) (D : List S60) (n i r c : Int) (R : Int × Int × List S58 × List S100) : ∀ (q p : List S58), (p ++ q).length ≤ 100000 → Ev (fun k => impl_playSession.l0 k F D n (wrap64 (i + 1)) r c (p ++ resetV q)) R → Ev (fun k => impl_playSession.l1 k F D n i ((p ++ q).length : Int) (p.length : Int) r c (p ++ q)) R
  | [], p, h, hR => by
    refine ev_up ?_
    simp only [impl_playSession.l1, mid_end, ↓reduceIte]
    simpa [resetV] using hR
  | x :: q, p, h, hR => by
    have hp : p.length < 9223372036854775807 := by simp only [List.length_append, List.length_cons] at h; omega
    refine ev_up ?_
    simp only [impl_playSession.l1, rd_T58, mid_lt, mid_ge, getD_mid, set_mid, wrap_mid p (⟨x.f0, 0⟩ : S58) hp, ↓reduceIte]
    have e : ((p ++ x :: q).length : Int) = ((p ++ [(⟨x.f0, 0⟩ : S58)] ++ q).length : Int) := by simp
    rw [e, step_mid p q]
    exact impl_play_l1 F D n i r c R q (p ++ [⟨x.f0, 0⟩]) (by simp only [List.length_append, List.length_cons, List.length_nil] at h ⊢; omega) (by simpa [resetV] using hR)
theorem play_l0 (r c : Int) : ∀ (q p : List S60) (l : List S58) (F : List S100), (p ++ q).length ≤ 1000 → goodBoard r c l = true → (∀ a ∈ q, okAct r c a = true) → F.length ≤ p.length →
    ∃ l' F', goodBoard r c l' = true ∧ F'.length ≤ (p ++ q).length ∧ Ev (fun k => spec_seNow.l0 k F (p ++ q) ((p ++ q).length : Int) (p.length : Int) r c l) (r, c, l', F') ∧ Ev (fun k => impl_playSession.l0 k F (p ++ q) ((p ++ q).length : Int) (p.length : Int) r c l) (r, c, l', F')
  | [], p, l, F, h, hb, ho, hF => by
    refine ⟨l, F, hb, by simpa using hF, ev_up ?_, ev_up ?_⟩
    · simp only [spec_seNow.l0, mid_end, ↓reduceIte]; exact Ev.now _
    · simp only [impl_playSession.l0, mid_end, ↓reduceIte]; exact Ev.now _
  | x :: q, p, l, F, h, hb, ho, hF => by
    have hp : p.length < 9223372036854775807 := by simp only [List.length_append, List.length_cons] at h; omega
    obtain ⟨h1, h2, h3, h4⟩ := goodBoard_size hb
    have h90 := goodBoard_len hb
    have hl : (l.length : Int) = r * c := by unfold goodBoard at hb; simp only [Bool.and_eq_true, decide_eq_true_eq] at hb; exact hb.1.2.2.2.2
    have hok := goodBoard_ok hb
    have hx := ho x List.mem_cons_self
    have ho' : ∀ a ∈ q, okAct r c a = true := fun a ha => ho a (List.mem_cons_of_mem _ ha)
    obtain ⟨x1, x3⟩ := okAct_kind hx
    have hpos : (0 ≤ x.f1 ∧ x.f1 ≤ r - 1 ∧ 0 ≤ x.f2 ∧ x.f2 ≤ c - 1) ∧ (x.f0 = 1 → okCell x.f3 = true) := by
      unfold okAct at hx
      simp only [Bool.and_eq_true, decide_eq_true_eq] at hx
      exact ⟨hx.1, fun e => by have := hx.2; rw [if_pos e] at this; exact this⟩
    obtain ⟨⟨q0, q1, q2, q3⟩, hcell⟩ := hpos
    have hF' : F.length ≤ 1000 := by simp only [List.length_append] at h; omega
    by_cases k1 : x.f0 = 1
    · obtain ⟨a1, a2, a3, a4, a5⟩ := at_bnd h1 h2 h3 h4 q0 (by omega) q2 (by omega)
      have w1 : wrap64 (x.f1 * c) = x.f1 * c := wrap_id (by omega) (by omega)
      have w2 : wrap64 (x.f1 * c + x.f2) = x.f1 * c + x.f2 := wrap_id (by omega) (by omega)
      obtain ⟨at_, hat⟩ : ∃ a, a = x.f1 * c + x.f2 := ⟨_, rfl⟩
      rw [← hat] at w2 a3 a4 a5
      have b0 : (0 ≤ at_) = True := eq_true a3
      have b1 : (at_ < (l.length : Int)) = True := by apply eq_true; omega
      have hb' : goodBoard r c (l.set at_.toNat (⟨x.f3.f0, x.f3.f1⟩ : S58)) = true := goodBoard_of hb (by simp) (fun y hy => by
        rcases List.mem_or_eq_of_mem_set hy with hy | rfl
        · exact hok y hy
        · exact hcell k1)
      have hrec := play_l0 r c q (p ++ [x]) (l.set at_.toNat (⟨x.f3.f0, x.f3.f1⟩ : S58)) F (by rw [← step_mid p q x]; exact h) hb' ho' (by simp; omega)
      rw [← step_mid p q x, ← wrap_mid p x hp] at hrec
      obtain ⟨l', F', r1, r2, r3, r4⟩ := hrec
      refine ⟨l', F', r1, r2, ev_up ?_, ev_up ?_⟩
      · simp only [spec_seNow.l0, rd_T60, mid_lt, mid_ge, getD_mid, k1, spec_boWith.f, boOwn_eq r c l (by omega), w1, ← hat, w2, b0, b1, Option.bind_some, ↓reduceIte]
        exact r3
      · simp only [impl_playSession.l0, rd_T60, mid_lt, mid_ge, getD_mid, k1, w1, ← hat, w2, b0, b1, ↓reduceIte]
        exact r4
    · by_cases k2 : x.f0 = 2
      · obtain ⟨e, w, y, l2, y', G, f1, f2, f3, f4, f5⟩ := fall_ev r c l x.f2 hb q2 (by omega)
        have gF : (F.length < 5864062014805) = True := by apply eq_true; omega
        have hrec := play_l0 r c q (p ++ [x]) l2 (F ++ [(⟨e, w, y⟩ : S100)]) (by rw [← step_mid p q x]; exact h) f1 ho' (by simp; omega)
        rw [← step_mid p q x, ← wrap_mid p x hp] at hrec
        obtain ⟨l', F', r1, r2, r3, r4⟩ := hrec
        refine ⟨l', F', r1, r2, ev_up ?_, ev_up ?_⟩
        · simp only [spec_seNow.l0, rd_T60, mid_lt, mid_ge, getD_mid, k2, Int.reduceEq, ↓reduceIte]
          refine ev_bind f3 ?_
          simp only [gF, ↓reduceIte]
          exact r3
        · simp only [impl_playSession.l0, rd_T60, mid_lt, mid_ge, getD_mid, k2, Int.reduceEq, ↓reduceIte]
          refine ev_bind f4 (ev_bind f5 ?_)
          simp only [gF, ↓reduceIte]
          exact r4
      · have hb' : goodBoard r c (resetV l) = true := goodBoard_of hb (by simp [resetV]) (resetV_ok l hok)
        have hrec := play_l0 r c q (p ++ [x]) (resetV l) F (by rw [← step_mid p q x]; exact h) hb' ho' (by simp; omega)
        rw [← step_mid p q x, ← wrap_mid p x hp] at hrec
        obtain ⟨l', F', r1, r2, r3, r4⟩ := hrec
        refine ⟨l', F', r1, r2, ev_up ?_, ev_up ?_⟩
        · simp only [spec_seNow.l0, rd_T60, mid_lt, mid_ge, getD_mid, k1, k2, ↓reduceIte]
          have := spec_now_l1 F (p ++ x :: q) ((p ++ x :: q).length : Int) (p.length : Int) r c (r, c, l', F') l [] (by simp; omega) (by simpa using r3)
          simpa using this
        · simp only [impl_playSession.l0, rd_T60, mid_lt, mid_ge, getD_mid, k1, k2, ↓reduceIte]
          have := impl_play_l1 F (p ++ x :: q) ((p ++ x :: q).length : Int) (p.length : Int) r c (r, c, l', F') l [] (by simp; omega) (by simpa using r4)
          simpa using this
theorem play_ev (r c : Int) (l : List S58) (d u : List S60) (hg : goodSession r c l d u = true) : ∃ l' F', l'.length ≤ 90 ∧ F'.length ≤ 40 ∧ Ev (fun k => spec_seNow.f k r c l d u) (r, c, l', F') ∧ Ev (fun k => impl_playSession.f k r c l d u) (r, c, l', F') := by
  obtain ⟨hb, ha, -, h40⟩ := goodSession_acts hg
  have h90 := goodBoard_len hb
  obtain ⟨l', F', r1, r2, r3, r4⟩ := play_l0 r c d [] l [] (by simp; omega) hb ha (by simp)
  refine ⟨l', F', goodBoard_len r1, by simp at r2; omega, ?_, ?_⟩
  · simp only [spec_seNow.f, boOwn_eq r c l (by omega), Option.bind_some]
    simpa using r3
  · simp only [impl_playSession.f, copyBoard_eq r c l (by omega), Option.bind_some]
    simpa using r4
theorem shortSession_ev (r c : Int) (l : List S58) (d u : List S60) (hd : d.length ≤ 1048576) (hu : u.length ≤ 1048576) : ∃ r' c' l' ok, l'.length ≤ 10000000 ∧ Ev (fun k => spec_ShortSession.f k r c l d u) (r', c', l', [], [], ok) ∧ Ev (fun k => impl_ShortSession.f k r c l d u) (r', c', l', [], [], ok) := by
  cases hg : goodSession r c l d u
  · refine ⟨0, 0, [], false, by simp, ?_, ?_⟩
    · simp only [spec_ShortSession.f]
      refine ev_bind (hg ▸ spec_seGood_ev r c l d u hd hu) ?_
      simp only [Bool.false_eq_true, ↓reduceIte]
      exact Ev.now _
    · simp only [impl_ShortSession.f, impl_BoardNow.f]
      refine ev_bind (a := (0, 0, [], false)) ?_ (ev_eq (Ev.now _) (by simp))
      refine ev_bind (hg ▸ impl_IsSession_ev r c l d u hd hu) ?_
      simp only [Bool.false_eq_true, ↓reduceIte]
      exact Ev.now _
  · obtain ⟨l', F', h1, h2, h3, h4⟩ := play_ev r c l d u hg
    refine ⟨r, c, l', true, by omega, ?_, ?_⟩
    · simp only [spec_ShortSession.f]
      refine ev_bind (hg ▸ spec_seGood_ev r c l d u hd hu) ?_
      simp only [↓reduceIte]
      exact ev_bind h3 (Ev.now _)
    · simp only [impl_ShortSession.f, impl_BoardNow.f]
      refine ev_bind (a := (r, c, l', true)) ?_ (ev_eq (Ev.now _) (by simp))
      refine ev_bind (hg ▸ impl_IsSession_ev r c l d u hd hu) ?_
      simp only [↓reduceIte]
      exact ev_bind h4 (Ev.now _)
theorem FnExactShortSession (r : Int) (c : Int) (l : List S54) (d : List S56) (u : List S56) (wr : (Lit.int .i64 r).wf = true) (wc : (Lit.int .i64 c).wf = true) (wl : l.length ≤ maxLen) (we : ∀ z ∈ l, (Lit.int .i64 z.f0).wf = true ∧ (Lit.int .i64 z.f1).wf = true) (wd : d.length ≤ maxLen) (ed : ∀ z ∈ d, (Lit.int .i64 z.f0).wf = true ∧ (Lit.int .i64 z.f1).wf = true ∧ (Lit.int .i64 z.f2).wf = true ∧ (Lit.int .i64 z.f3.f0).wf = true ∧ (Lit.int .i64 z.f3.f1).wf = true) (wu : u.length ≤ maxLen) (eu : ∀ z ∈ u, (Lit.int .i64 z.f0).wf = true ∧ (Lit.int .i64 z.f1).wf = true ∧ (Lit.int .i64 z.f2).wf = true ∧ (Lit.int .i64 z.f3.f0).wf = true ∧ (Lit.int .i64 z.f3.f1).wf = true) : ∃ k, laws_FnExactShortSession.f k r c l d u = some true := by
  refine Ev.rounds (g := fun k => laws_FnExactShortSession.f k r c l d u) ?_
  by_cases hb : l.length + d.length + u.length ≤ 1048576
  · have hm := (show maxLen ≤ 9223372036854775807 by decide); have SZ := szSession_eq r c l d u (by omega) (by omega) (by omega)
    have hs1 : l.length ≤ 1048576 := by omega
    have hs2 : d.length ≤ 1048576 := by omega
    have hs3 : u.length ≤ 1048576 := by omega
    have hc1 : (1048576 - (l.length : Int) - (d.length : Int) - (u.length : Int) < 0) = False := by apply eq_false; omega
    have hL : (l.map toCell).length = l.length := by simp
    have hD : (d.map toAct).length = d.length := by simp
    have hU : (u.map toAct).length = u.length := by simp
    have TS := laws_toSession_ev r c l d u hs1 hs2 hs3
    have ES := laws_eqSession_ev r c (l.map toCell) (d.map toAct) (u.map toAct) (by omega) (by omega) (by omega)
    obtain ⟨ms, ls, hms, MS⟩ := laws_markSession_only r c (l.map toCell) (d.map toAct) (u.map toAct) (by omega) (by omega) (by omega)
    replace hms : (ms < 0) = False := by apply eq_false; omega
    obtain ⟨r', c', l', ok, hl', S, I⟩ := shortSession_ev r c (l.map toCell) (d.map toAct) (u.map toAct) (by omega) (by omega)
    have E2 := laws_eqSession_ev r' c' l' [] [] (by omega) (by simp) (by simp)
    obtain ⟨m2, l2, d2, u2, hm2, M2, N2⟩ := laws_markSession_ev r' c' l' [] [] hl' (by simp) (by simp)
    replace hm2 : (m2 < 0) = False := by apply eq_false; omega
    simp only [laws_FnExactShortSession.f]
    repeat (first
      | exact Ev.now _
      | with_reducible refine ev_bind (by with_reducible assumption) ?_
      | simp only [*, Option.bind_some, bne_self_eq_false, ↓reduceIte, Bool.false_eq_true, gt_iff_lt]
      | (refine ev_up ?_; simp only [laws_FnExactShortSession.j0, laws_FnExactShortSession.j1, laws_FnExactShortSession.j2]))
  · have hm := (show maxLen ≤ 9223372036854775807 by decide); have SZ := szSession_eq r c l d u (by omega) (by omega) (by omega)
    have hc1 : ((-1 : Int) < 0) = True := by apply eq_true; omega
    simp only [laws_FnExactShortSession.f]
    repeat (first
      | exact Ev.now _
      | with_reducible refine ev_bind (by with_reducible assumption) ?_
      | simp only [*, Option.bind_some, bne_self_eq_false, ↓reduceIte, Bool.false_eq_true, gt_iff_lt]
      | (refine ev_up ?_; simp only [laws_FnExactShortSession.j0, laws_FnExactShortSession.j1, laws_FnExactShortSession.j2]))

end Go.Proofs.Ytkkgjljcgnegpaa.Pure
