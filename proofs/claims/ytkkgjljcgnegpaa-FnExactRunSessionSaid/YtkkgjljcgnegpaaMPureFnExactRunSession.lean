/- The law FnExactRunSession of plain lists and numbers: whatever the input, it answers true. Condition: the lengths are those of rows that fit a machine. -/
import Derived.Test.YtkkgjljcgnegpaaMFnExactRunSession3
namespace Go.Proofs.Ytkkgjljcgnegpaa.Pure
open Go.RowKit Go.Proofs.Ytkkgjljcgnegpaa.Pall Go.Proofs.YtkkgjljcgnegpaaW.PrintWords Go.Proofs.YtkkgjljcgnegpaaW.PrintLast Go.Proofs.YtkkgjljcgnegpaaW.PrintMore
set_option linter.unusedVariables false
set_option linter.unusedSimpArgs false

/-! ### Ground: rounds, and a row seen as what is behind and what is ahead -/
theorem ev_up {α : Type} {g : Nat → Option α} {r : α} (h : Ev (fun k => g (k + 1)) r) : Ev g r := by
  obtain ⟨K, hK⟩ := h
  refine ⟨K + 1, fun k hk => ?_⟩
  obtain ⟨m, rfl⟩ : ∃ m, k = m + 1 := ⟨k - 1, by omega⟩
  exact hK m (by omega)
theorem ev_eq {α : Type} {g : Nat → Option α} {r r' : α} (h : Ev g r) (e : r = r') : Ev g r' := e ▸ h
theorem ev_bind {α β : Type} {g : Nat → Option α} {f : Nat → α → Option β} {a : α} {r : β} (h : Ev g a) (k : Ev (fun n => f n a) r) : Ev (fun n => (g n).bind (f n)) r := Ev.bind h k
theorem mid_lt {α : Type} (p q : List α) (x : α) : ((p.length : Int) < ((p ++ x :: q).length : Int)) = True := by
  apply eq_true; simp only [List.length_append, List.length_cons]; omega
theorem mid_lt2 {α β : Type} (p : List α) (p' q : List β) (x : β) (h : p.length = p'.length) : ((p.length : Int) < ((p' ++ x :: q).length : Int)) = True := by
  apply eq_true; simp only [List.length_append, List.length_cons]; omega
theorem mid_ge {α : Type} (p : List α) : (0 ≤ (p.length : Int)) = True := by apply eq_true; omega
theorem mid_end {α : Type} (p : List α) : ((p.length : Int) < ((p ++ []).length : Int)) = False := by simp
theorem mid_lt_l {α : Type} (p : List α) (x : α) (q : List α) : ((p.length : Int) < (p.length : Int) + ((x :: q).length : Int)) = True := by
  apply eq_true; simp only [List.length_cons]; omega
theorem rd_mid (p q : List Int) (x : Int) : rd (p ++ x :: q) (p.length : Int) = x := by simp [rd]
theorem rd_mid2 {α : Type} (p : List α) (p' q : List Int) (x : Int) (h : p.length = p'.length) : rd (p' ++ x :: q) (p.length : Int) = x := by simp [rd, h]
theorem getD_mid {α : Type} (p q : List α) (x z : α) : (p ++ x :: q).getD ((p.length : Int)).toNat z = x := by simp
theorem getD_mid2 {α β : Type} (p : List α) (p' q : List β) (x z : β) (h : p.length = p'.length) : (p' ++ x :: q).getD ((p.length : Int)).toNat z = x := by simp [h]
theorem set_mid {α : Type} (p q : List α) (x y : α) : (p ++ x :: q).set ((p.length : Int)).toNat y = p ++ y :: q := by simp
theorem set_mid2 {α β : Type} (p : List α) (p' q : List β) (x y : β) (h : p.length = p'.length) : (p' ++ x :: q).set ((p.length : Int)).toNat y = p' ++ y :: q := by simp [h]
theorem wrap_mid {α : Type} (p : List α) (x : α) (h : p.length < 9223372036854775807) : wrap64 ((p.length : Int) + 1) = ((p ++ [x]).length : Int) := by
  unfold wrap64; simp only [List.length_append, List.length_singleton]; omega
theorem step_mid {α : Type} (p q : List α) (x : α) : p ++ x :: q = (p ++ [x]) ++ q := by simp
theorem wrap_id {x : Int} (h0 : -9223372036854775808 ≤ x) (h1 : x ≤ 9223372036854775807) : wrap64 x = x := by unfold wrap64; omega
theorem wf_i64 {x : Int} (h : (Lit.int .i64 x).wf = true) : -9223372036854775808 ≤ x ∧ x ≤ 9223372036854775807 := by
  have h1 : IntKind.i64.min = -9223372036854775808 := by decide +kernel
  have h2 : IntKind.i64.max = 9223372036854775807 := by decide +kernel
  simp only [Lit.wf, h1, h2, Bool.and_eq_true, decide_eq_true_eq] at h
  omega
theorem l1In_eq (a lo hi : Int) : spec_l1In.f a lo hi = some (decide (lo ≤ a ∧ a ≤ hi)) := by
  by_cases h : lo ≤ a <;> simp [spec_l1In.f, h]
theorem eqCell_self (a0 a1 : Int) : laws_eqCell.f a0 a1 a0 a1 = some true := by simp [laws_eqCell.f]
theorem laws_eqCellS_l0 : ∀ (q p : List S58), (p ++ q).length < 9223372036854775807 → Ev (fun k => laws_eqCellS.l0 k (p ++ q) (p ++ q) (p.length : Int)) true
  | [], p, h => by
    refine ev_up ?_
    simp only [laws_eqCellS.l0, mid_end, ↓reduceIte]
    exact Ev.now _
  | x :: q, p, h => by
    have hp : p.length < 9223372036854775807 := by simp only [List.length_append, List.length_cons] at h; omega
    refine ev_up ?_
    simp only [laws_eqCellS.l0, eqCell_self, Option.bind_some, rd_T58, mid_lt, mid_ge, getD_mid, wrap_mid p x hp, ↓reduceIte]
    rw [step_mid p q x] at h ⊢
    exact laws_eqCellS_l0 q (p ++ [x]) h
theorem laws_eqCellS_ev (l : List S58) (h : l.length < 9223372036854775807) : Ev (fun k => laws_eqCellS.f k l l) true := by
  simp only [laws_eqCellS.f, ↓reduceIte]
  simpa using laws_eqCellS_l0 l [] (by simpa using h)
theorem laws_markCellS_l0 : ∀ (q p : List S58) (m : Int), (p ++ q).length < 1000000000000000 → 0 ≤ m → m + 2 * q.length ≤ 1000000000000000 → ∃ q', q'.length = q.length ∧ Ev (fun k => laws_markCellS.l0 k (p ++ q) m (p.length : Int)) (m + 2 * q.length, p ++ q') ∧ Ev (fun k => laws_heldCellS.l0 k (p ++ q') m (p.length : Int)) (m + 2 * q.length)
  | [], p, m, h, h0, h1 => by
    refine ⟨[], rfl, ev_up ?_, ev_up ?_⟩
    · simp only [laws_markCellS.l0, mid_end, ↓reduceIte]
      exact ev_eq (Ev.now _) (by simp)
    · simp only [laws_heldCellS.l0, mid_end, ↓reduceIte]
      exact ev_eq (Ev.now _) (by simp)
  | x :: q, p, m, h, h0, h1 => by
    have hp : p.length < 9223372036854775807 := by simp only [List.length_append, List.length_cons] at h; omega
    have hm1 : wrap64 (m + 1) = m + 1 := by rw [wrap_id (by omega) (by simp only [List.length_cons] at h1; omega)]
    have hm2 : wrap64 (m + 1 + 1) = m + 2 := by rw [wrap_id (by omega) (by simp only [List.length_cons] at h1; omega)]; omega
    obtain ⟨q', hl, hA, hB⟩ := laws_markCellS_l0 q (p ++ [⟨m, m + 1⟩]) (m + 2) (by simp only [List.length_append, List.length_cons, List.length_nil] at h ⊢; omega) (by omega) (by simp only [List.length_cons] at h1; omega)
    have e : (m + 2) + 2 * (q.length : Int) = m + 2 * ((x :: q).length : Int) := by simp only [List.length_cons]; omega
    rw [e] at hA hB
    refine ⟨⟨m, m + 1⟩ :: q', by simp [hl], ev_up ?_, ev_up ?_⟩
    · simp only [laws_markCellS.l0, rd_T58, mid_lt, mid_ge, set_mid, getD_mid, Option.bind_some, hm1, hm2, wrap_mid p (⟨m, m + 1⟩ : S58) hp, ↓reduceIte]
      rw [step_mid p q, step_mid p q']
      exact hA
    · simp only [laws_heldCellS.l0, rd_T58, mid_lt, mid_ge, getD_mid, hm1, hm2, wrap_mid p (⟨m, m + 1⟩ : S58) hp, ↓reduceIte]
      rw [step_mid p q']
      exact hB
theorem laws_markCellS_ev (l : List S58) (m : Int) (h : l.length < 100000000000000) (h0 : 0 ≤ m) (h1 : m ≤ 100000000000000) : ∃ m' l', 0 ≤ m' ∧ m' = m + 2 * l.length ∧ l'.length = l.length ∧ Ev (fun k => laws_markCellS.f k l m) (m', l') ∧ Ev (fun k => laws_heldCellS.f k l' m) m' := by
  obtain ⟨q', hl, hA, hB⟩ := laws_markCellS_l0 l [] m (by simp; omega) h0 (by omega)
  exact ⟨m + 2 * l.length, q', by omega, rfl, hl, by simpa [laws_markCellS.f] using hA, by simpa [laws_heldCellS.f] using hB⟩
theorem laws_markCellS_o : ∀ (q p : List S58) (m : Int), (p ++ q).length < 1000000000000000 → 0 ≤ m → m + 2 * q.length ≤ 1000000000000000 → ∃ q', Ev (fun k => laws_markCellS.l0 k (p ++ q) m (p.length : Int)) (m + 2 * q.length, q')
  | [], p, m, h, h0, h1 => by
    refine ⟨p, ev_up ?_⟩
    simp only [laws_markCellS.l0, mid_end, ↓reduceIte]
    exact ev_eq (Ev.now _) (by simp)
  | x :: q, p, m, h, h0, h1 => by
    have hp : p.length < 9223372036854775807 := by simp only [List.length_append, List.length_cons] at h; omega
    have hm1 : wrap64 (m + 1) = m + 1 := by rw [wrap_id (by omega) (by simp only [List.length_cons] at h1; omega)]
    have hm2 : wrap64 (m + 1 + 1) = m + 2 := by rw [wrap_id (by omega) (by simp only [List.length_cons] at h1; omega)]; omega
    obtain ⟨q', hA⟩ := laws_markCellS_o q (p ++ [⟨m, m + 1⟩]) (m + 2) (by simp only [List.length_append, List.length_cons, List.length_nil] at h ⊢; omega) (by omega) (by simp only [List.length_cons] at h1; omega)
    have e : (m + 2) + 2 * (q.length : Int) = m + 2 * ((x :: q).length : Int) := by simp only [List.length_cons]; omega
    rw [e] at hA
    refine ⟨q', ev_up ?_⟩
    simp only [laws_markCellS.l0, rd_T58, mid_lt, mid_ge, set_mid, getD_mid, Option.bind_some, hm1, hm2, wrap_mid p (⟨m, m + 1⟩ : S58) hp, ↓reduceIte]
    rw [step_mid p q]
    exact hA
theorem laws_markCellS_only (l : List S58) (m : Int) (h : l.length < 100000000000000) (h0 : 0 ≤ m) (h1 : m ≤ 100000000000000) : ∃ m' l', 0 ≤ m' ∧ m' = m + 2 * l.length ∧ Ev (fun k => laws_markCellS.f k l m) (m', l') := by
  obtain ⟨q', hA⟩ := laws_markCellS_o l [] m (by simp; omega) (by omega) (by omega)
  exact ⟨m + 2 * l.length, q', by omega, rfl, by simpa [laws_markCellS.f] using hA⟩
def toCell (x : S54) : S58 := ⟨x.f0, x.f1⟩
theorem laws_toCellS_l0 : ∀ (q p : List S54), (p ++ q).length < 9223372036854775807 → Ev (fun k => laws_toCellS.l0 k (p ++ q) (p.map toCell ++ List.replicate q.length z58) (p.length : Int)) ((p ++ q).map toCell)
  | [], p, h => by
    refine ev_up ?_
    simp only [laws_toCellS.l0, mid_end, ↓reduceIte]
    exact ev_eq (Ev.now _) (by simp)
  | x :: q, p, h => by
    have hp : p.length < 9223372036854775807 := by simp only [List.length_append, List.length_cons] at h; omega
    have hl : p.length = (p.map toCell).length := by simp
    refine ev_up ?_
    simp only [laws_toCellS.l0, laws_toCell.f, Option.bind_some, rd_T54, List.length_cons, List.replicate_succ, mid_lt, mid_lt2 p _ _ _ hl, mid_ge, getD_mid, set_mid2 p _ _ _ _ hl, wrap_mid p x hp, ↓reduceIte]
    rw [step_mid p q x] at h ⊢
    have e : p.map toCell ++ (⟨x.f0, x.f1⟩ : S58) :: List.replicate q.length z58 = (p ++ [x]).map toCell ++ List.replicate q.length z58 := by simp [toCell]
    rw [e]
    exact laws_toCellS_l0 q (p ++ [x]) h
theorem laws_toCellS_ev (l : List S54) (h : l.length ≤ 1048576) : Ev (fun k => laws_toCellS.f k l) (l.map toCell) := by
  have h0 : (0 ≤ (l.length : Int)) = True := by apply eq_true; omega
  have h1 : (((l.length : Int) : Int).toNat ≤ 17592186044416) = True := by apply eq_true; omega
  simp only [laws_toCellS.f, h0, h1, ↓reduceIte]
  simpa using laws_toCellS_l0 l [] (by simp; omega)
theorem szCellS_eq (l : List S54) (n : Int) (h : l.length ≤ 9223372036854775807) (h0 : 0 ≤ n) (h1 : n ≤ 1048576) : laws_szCellS.f l n = some (if (l.length : Int) ≤ n then n - (l.length : Int) else -1) := by
  have hw : wrap64 (n - (l.length : Int)) = n - (l.length : Int) := wrap_id (by omega) (by omega)
  unfold laws_szCellS.f
  rw [hw]
  by_cases hl : (l.length : Int) ≤ n
  · rw [if_neg (by omega), if_pos hl]
  · rw [if_pos (by omega), if_neg hl]
def okCell (c : S58) : Bool := decide (0 ≤ c.f0 ∧ c.f0 ≤ 7 ∧ (c.f1 = 0 ∨ (c.f1 = 1 ∧ (c.f0 = 3 ∨ c.f0 = 6))))
def goodBoard (r c : Int) (l : List S58) : Bool := decide (1 ≤ r ∧ r ≤ 10 ∧ 1 ≤ c ∧ c ≤ 9 ∧ (l.length : Int) = r * c) && l.all okCell
theorem size_le {r c : Int} (h1 : 1 ≤ r) (h2 : r ≤ 10) (h3 : 1 ≤ c) (h4 : c ≤ 9) : 0 ≤ r * c ∧ r * c ≤ 90 :=
  ⟨Int.mul_nonneg (by omega) (by omega), Int.le_trans (Int.mul_le_mul h2 h4 (by omega) (by omega)) (by omega)⟩
theorem goodBoard_len {r c : Int} {l : List S58} (h : goodBoard r c l = true) : l.length ≤ 90 := by
  unfold goodBoard at h
  simp only [Bool.and_eq_true, decide_eq_true_eq] at h
  have := size_le h.1.1 h.1.2.1 h.1.2.2.1 h.1.2.2.2.1
  omega
theorem goodBoard_ok {r c : Int} {l : List S58} (h : goodBoard r c l = true) : ∀ x ∈ l, okCell x = true := by
  unfold goodBoard at h
  simp only [Bool.and_eq_true, List.all_eq_true] at h
  exact h.2
theorem okCell_kind {x : S58} (h : okCell x = true) : 0 ≤ x.f0 ∧ x.f0 ≤ 7 := by
  unfold okCell at h; simp only [decide_eq_true_eq] at h; omega
theorem paGood_eq (a b : Int) : spec_paGood.f a b = some (okCell ⟨a, b⟩) := by
  simp only [spec_paGood.f, spec_paTurning.f, okCell, l1In_eq, Option.bind_some]
  repeat' split
  all_goals
    simp only [Option.bind_some, Option.some.injEq]
    rw [Bool.eq_iff_iff]
    simp_all
    try omega
theorem IsCell_eq (a b : Int) : impl_IsCell.f a b = some (okCell ⟨a, b⟩) := by
  simp only [impl_IsCell.f, okCell]
  repeat' split
  all_goals
    simp only [Option.some.injEq]
    rw [Bool.eq_iff_iff]
    simp_all
    try omega
theorem impl_validCells_l0 : ∀ (q p : List S58), (p ++ q).length < 9223372036854775807 → Ev (fun k => impl_validCells.l0 k (p ++ q) ((p ++ q).length : Int) (p.length : Int)) (q.all okCell)
  | [], p, h => by
    refine ev_up ?_
    simp only [impl_validCells.l0, mid_end, ↓reduceIte]
    exact Ev.now _
  | x :: q, p, h => by
    have hp : p.length < 9223372036854775807 := by simp only [List.length_append, List.length_cons] at h; omega
    refine ev_up ?_
    simp only [impl_validCells.l0, IsCell_eq, Option.bind_some, rd_T58, mid_lt, mid_ge, getD_mid, wrap_mid p x hp, ↓reduceIte, List.all_cons]
    cases okCell x with
    | false => simpa using Ev.now _
    | true =>
      simp only [↓reduceIte, Bool.true_and]
      rw [step_mid p q x] at h ⊢
      exact impl_validCells_l0 q (p ++ [x]) h
theorem impl_validCells_ev (l : List S58) (h : l.length ≤ 90) : Ev (fun k => impl_validCells.f k l) (l.all okCell) := by
  have : ¬ ((l.length : Int) > 90) := by omega
  simp only [impl_validCells.f, this, ↓reduceIte]
  simpa using impl_validCells_l0 l [] (by simp; omega)
theorem impl_IsBoard_ev (r c : Int) (l : List S58) : Ev (fun k => impl_IsBoard.f k r c l) (goodBoard r c l) := by
  by_cases h : 1 ≤ r ∧ r ≤ 10 ∧ 1 ≤ c ∧ c ≤ 9
  · obtain ⟨h1, h2, h3, h4⟩ := h
    have hs := size_le h1 h2 h3 h4
    have hw : wrap64 (r * c) = r * c := wrap_id (by omega) (by omega)
    by_cases hl : (l.length : Int) = r * c
    · have hg : goodBoard r c l = l.all okCell := by simp [goodBoard, h1, h2, h3, h4, hl]
      simp only [impl_IsBoard.f, hw, hl, ge_iff_le, h1, h2, h3, h4, ↓reduceIte, hg]
      exact ev_bind (impl_validCells_ev l (by omega)) (Ev.now _)
    · have hg : goodBoard r c l = false := by simp [goodBoard, hl]
      simp only [impl_IsBoard.f, hw, hl, ge_iff_le, h1, h2, h3, h4, ↓reduceIte, hg]
      exact Ev.now _
  · have hg : goodBoard r c l = false := by
      unfold goodBoard
      have : ¬ (1 ≤ r ∧ r ≤ 10 ∧ 1 ≤ c ∧ c ≤ 9 ∧ (l.length : Int) = r * c) := fun h' => h ⟨h'.1, h'.2.1, h'.2.2.1, h'.2.2.2.1⟩
      simp [this]
    rw [hg]
    simp only [impl_IsBoard.f, ge_iff_le]
    by_cases h1 : 1 ≤ r
    · by_cases h2 : r ≤ 10
      · by_cases h3 : 1 ≤ c
        · have h4 : ¬ c ≤ 9 := fun h4 => h ⟨h1, h2, h3, h4⟩
          simp only [h1, h2, h3, h4, ↓reduceIte]; exact Ev.now _
        · simp only [h1, h2, h3, ↓reduceIte]; exact Ev.now _
      · simp only [h1, h2, ↓reduceIte]; exact Ev.now _
    · simp only [h1, ↓reduceIte]; exact Ev.now _
theorem spec_boGood_l0 : ∀ (q p : List S58), (p ++ q).length < 9223372036854775807 → Ev (fun k => spec_boGood.l0 k (p ++ q) ((p ++ q).length : Int) (p.length : Int)) (q.all okCell)
  | [], p, h => by
    refine ev_up ?_
    simp only [spec_boGood.l0, mid_end, ↓reduceIte]
    exact Ev.now _
  | x :: q, p, h => by
    have hp : p.length < 9223372036854775807 := by simp only [List.length_append, List.length_cons] at h; omega
    refine ev_up ?_
    simp only [spec_boGood.l0, paGood_eq, Option.bind_some, rd_T58, mid_lt, mid_ge, getD_mid, wrap_mid p x hp, ↓reduceIte, List.all_cons]
    cases okCell x with
    | false => simpa using Ev.now _
    | true =>
      simp only [↓reduceIte, Bool.true_and]
      rw [step_mid p q x] at h ⊢
      exact spec_boGood_l0 q (p ++ [x]) h
theorem spec_boGood_ev (r c : Int) (l : List S58) : Ev (fun k => spec_boGood.f k r c l) (goodBoard r c l) := by
  have fin : Ev (fun k => spec_boGood.j0 k true r c l) false := by
    refine ev_up ?_
    simp only [spec_boGood.j0, ↓reduceIte]
    exact Ev.now _
  simp only [spec_boGood.f, l1In_eq, Option.bind_some]
  by_cases hr : 1 ≤ r ∧ r ≤ 10
  · by_cases hc : 1 ≤ c ∧ c ≤ 9
    · have hs := size_le hr.1 hr.2 hc.1 hc.2
      have hw : wrap64 (r * c) = r * c := wrap_id (by omega) (by omega)
      by_cases hl : (l.length : Int) = r * c
      · have hg : goodBoard r c l = l.all okCell := by simp [goodBoard, hr, hc, hl]
        simp only [hr, hc, hw, hl, hg, and_self, decide_true, ↓reduceIte, bne_self_eq_false]
        refine ev_up ?_
        simp only [spec_boGood.j0, ↓reduceIte, Bool.false_eq_true]
        have := spec_boGood_l0 l [] (by simp; omega)
        simpa using this
      · have hg : goodBoard r c l = false := by simp [goodBoard, hl]
        have hb : ((l.length : Int) != r * c) = true := by simpa using hl
        simp only [hr, hc, hw, hb, hg, and_self, decide_true, ↓reduceIte]
        exact fin
    · have hg : goodBoard r c l = false := by
        unfold goodBoard
        have : ¬ (1 ≤ r ∧ r ≤ 10 ∧ 1 ≤ c ∧ c ≤ 9 ∧ (l.length : Int) = r * c) := fun h' => hc ⟨h'.2.2.1, h'.2.2.2.1⟩
        simp [this]
      simp only [hr, hc, hg, and_self, decide_true, decide_false, ↓reduceIte, Bool.false_eq_true]
      exact fin
  · have hg : goodBoard r c l = false := by
      unfold goodBoard
      have : ¬ (1 ≤ r ∧ r ≤ 10 ∧ 1 ≤ c ∧ c ≤ 9 ∧ (l.length : Int) = r * c) := fun h' => hr ⟨h'.1, h'.2.1⟩
      simp [this]
    simp only [hr, hg, decide_false, ↓reduceIte, Bool.false_eq_true]
    exact fin
/-- The cells of each kind. -/
def cnt (v : List Int) : List S58 → List Int
  | [] => v
  | x :: q => cnt (v.set x.f0.toNat (wrap64 (rd v x.f0 + 1))) q
theorem cnt_len : ∀ (q : List S58) (v : List Int), (cnt v q).length = v.length
  | [], v => rfl
  | x :: q, v => by rw [cnt, cnt_len q]; simp
def need (l : List S58) : List Int := (cnt (List.replicate 8 0) l).drop 1
theorem need_len (l : List S58) : (need l).length = 7 := by simp [need, cnt_len]
def goodKit (l : List Int) : Bool := decide (l.length = 7) && l.all fun x => decide (0 ≤ x ∧ x ≤ 600)
theorem goodKit_len {l : List Int} (h : goodKit l = true) : l.length = 7 := by
  unfold goodKit at h; simp only [Bool.and_eq_true, decide_eq_true_eq] at h; exact h.1
def enoughV : List Int → List Int → Bool
  | a :: q', b :: q => if a < b then false else enoughV q' q
  | _, _ => true
def mostV (m : Int) : List Int → List Int → Int
  | a :: q', b :: q => mostV (if b > 0 then mn m (wrap64 (Int.tdiv a b)) else m) q' q
  | _, _ => m
def missV : List Int → List Int → List Int
  | a :: q', b :: q => mx 0 (wrap64 (b - a)) :: missV q' q
  | _, _ => []
def restV : List Int → List Int → List Int
  | a :: q', b :: q => wrap64 (a - b) :: restV q' q
  | _, _ => []
theorem missV_len : ∀ a b : List Int, (missV a b).length ≤ a.length
  | a :: q', b :: q => by simp only [missV, List.length_cons]; have := missV_len q' q; omega
  | [], _ => by simp [missV]
  | _ :: _, [] => by simp [missV]
theorem restV_len : ∀ a b : List Int, (restV a b).length ≤ a.length
  | a :: q', b :: q => by simp only [restV, List.length_cons]; have := restV_len q' q; omega
  | [], _ => by simp [restV]
  | _ :: _, [] => by simp [restV]
theorem laws_toBoard_ev (a b : Int) (l : List S54) (h : l.length ≤ 1048576) : Ev (fun k => laws_toBoard.f k a b l) (a, b, l.map toCell) := by
  simp only [laws_toBoard.f]
  exact ev_bind (laws_toCellS_ev l h) (Ev.now _)
theorem laws_eqBoard_ev (a b : Int) (l : List S58) (h : l.length < 9223372036854775807) : Ev (fun k => laws_eqBoard.f k a b l a b l) true := by
  simp only [laws_eqBoard.f, ↓reduceIte]
  refine ev_bind (laws_eqCellS_ev l h) ?_
  simpa using Ev.now _
theorem laws_markBoard_only (a b : Int) (l : List S58) (m : Int) (h : l.length < 100000000000000) (h0 : 0 ≤ m) (h1 : m ≤ 100000000000000) : ∃ m' l', 0 ≤ m' ∧ m' = m + 2 * l.length ∧ Ev (fun k => laws_markBoard.f k a b l m) (m', l') := by
  obtain ⟨m', l', h2, h3, h4⟩ := laws_markCellS_only l m h h0 h1
  refine ⟨m', l', h2, h3, ?_⟩
  simp only [laws_markBoard.f]
  exact ev_bind h4 (Ev.now _)
theorem szBoard_eq (a b : Int) (l : List S54) (n : Int) (h : l.length ≤ 9223372036854775807) (h0 : 0 ≤ n) (h1 : n ≤ 1048576) : laws_szBoard.f a b l n = some (if (l.length : Int) ≤ n then n - (l.length : Int) else -1) := by
  simp only [laws_szBoard.f, szCellS_eq l n h h0 h1, Option.bind_some]
  split
  · rw [if_neg (by omega)]
  · rw [if_pos (by omega)]
def okAct (r c : Int) (a : S60) : Bool := decide (0 ≤ a.f1 ∧ a.f1 ≤ r - 1 ∧ 0 ≤ a.f2 ∧ a.f2 ≤ c - 1) && (if a.f0 = 1 then okCell a.f3 else if a.f0 = 2 then decide (a.f1 = 0) && (a.f3.f0 == 0 && a.f3.f1 == 0) else (a.f0 == 3 && (a.f1 == 0 && (a.f2 == 0 && (a.f3.f0 == 0 && a.f3.f1 == 0)))))
def goodSession (r c : Int) (l : List S58) (d u : List S60) : Bool := goodBoard r c l && (d.all (okAct r c) && (u.all (okAct r c) && decide (d.length + u.length ≤ 40)))
theorem goodBoard_size {r c : Int} {l : List S58} (h : goodBoard r c l = true) : 1 ≤ r ∧ r ≤ 10 ∧ 1 ≤ c ∧ c ≤ 9 := by
  unfold goodBoard at h
  simp only [Bool.and_eq_true, decide_eq_true_eq] at h
  exact ⟨h.1.1, h.1.2.1, h.1.2.2.1, h.1.2.2.2.1⟩
theorem spec_seAct_ev (r c : Int) (l : List S58) (a : S60) (hb : goodBoard r c l = true) : Ev (fun k => spec_seAct.f k r c l a.f0 a.f1 a.f2 a.f3.f0 a.f3.f1) (okAct r c a) := by
  obtain ⟨h1, h2, h3, h4⟩ := goodBoard_size hb
  have w1 : wrap64 (r - 1) = r - 1 := wrap_id (by omega) (by omega)
  have w2 : wrap64 (c - 1) = c - 1 := wrap_id (by omega) (by omega)
  have fin : Ev (fun k => spec_seAct.j0 k true a.f0 a.f1 a.f2 a.f3.f0 a.f3.f1) false := by
    refine ev_up ?_
    simp only [spec_seAct.j0, ↓reduceIte]
    exact Ev.now _
  simp only [spec_seAct.f, l1In_eq, Option.bind_some, w1, w2]
  unfold okAct
  by_cases hr : 0 ≤ a.f1 ∧ a.f1 ≤ r - 1
  · by_cases hc : 0 ≤ a.f2 ∧ a.f2 ≤ c - 1
    · simp only [hr, hc, and_self, decide_true, Bool.not_true, Bool.true_and, ↓reduceIte]
      refine ev_up ?_
      simp only [spec_seAct.j0, Bool.false_eq_true, paGood_eq, Option.bind_some, ↓reduceIte]
      by_cases k1 : a.f0 = 1
      · simp only [k1, ↓reduceIte]
        exact Ev.now _
      · by_cases k2 : a.f0 = 2
        · by_cases z : a.f1 = 0
          · simp only [k2, z, decide_true, Bool.true_and, Int.reduceEq, ↓reduceIte]
            exact Ev.now _
          · simp only [k2, z, decide_false, Bool.false_and, Int.reduceEq, ↓reduceIte]
            exact Ev.now _
        · simp only [k1, k2, ↓reduceIte]
          exact Ev.now _
    · have : ¬ (0 ≤ a.f1 ∧ a.f1 ≤ r - 1 ∧ 0 ≤ a.f2 ∧ a.f2 ≤ c - 1) := fun h => hc h.2.2
      simp only [hr, hc, this, and_self, decide_true, decide_false, Bool.not_false, Bool.false_and, ↓reduceIte]
      exact fin
  · have : ¬ (0 ≤ a.f1 ∧ a.f1 ≤ r - 1 ∧ 0 ≤ a.f2 ∧ a.f2 ≤ c - 1) := fun h => hr ⟨h.1, h.2.1⟩
    simp only [hr, this, decide_false, Bool.false_and, Bool.false_eq_true, ↓reduceIte]
    exact fin
theorem impl_isAct_ev (r c : Int) (l : List S58) (a : S60) (hb : goodBoard r c l = true) : Ev (fun k => impl_isAct.f k r c l a.f0 a.f1 a.f2 a.f3.f0 a.f3.f1) (okAct r c a) := by
  have hon : Ev (fun k => impl_onBoard.f k r c l a.f1 a.f2) (decide (0 ≤ a.f1 ∧ a.f1 ≤ r - 1 ∧ 0 ≤ a.f2 ∧ a.f2 ≤ c - 1)) := by
    simp only [impl_onBoard.f]
    refine ev_bind (impl_IsBoard_ev r c l) ?_
    simp only [hb, ge_iff_le, ↓reduceIte]
    by_cases g1 : 0 ≤ a.f1
    · by_cases g2 : a.f1 < r
      · by_cases g3 : 0 ≤ a.f2
        · rw [if_pos g1, if_pos g2, if_pos g3]
          refine ev_eq (Ev.now _) ?_
          rw [Bool.eq_iff_iff, decide_eq_true_iff, decide_eq_true_iff]
          omega
        · rw [if_pos g1, if_pos g2, if_neg g3]
          exact ev_eq (Ev.now _) (by symm; rw [decide_eq_false_iff_not]; omega)
      · rw [if_pos g1, if_neg g2]
        exact ev_eq (Ev.now _) (by symm; rw [decide_eq_false_iff_not]; omega)
    · rw [if_neg g1]
      exact ev_eq (Ev.now _) (by symm; rw [decide_eq_false_iff_not]; omega)
  simp only [impl_isAct.f]
  refine ev_bind hon ?_
  unfold okAct
  cases hd : decide (0 ≤ a.f1 ∧ a.f1 ≤ r - 1 ∧ 0 ≤ a.f2 ∧ a.f2 ≤ c - 1)
  · exact ev_eq (Ev.now _) (by simp)
  · simp only [IsCell_eq, Option.bind_some, Bool.true_and, ↓reduceIte]
    by_cases k1 : a.f0 = 1
    · simp only [k1, ↓reduceIte]
      exact Ev.now _
    · by_cases k2 : a.f0 = 2
      · by_cases z : a.f1 = 0
        · simp only [k2, z, decide_true, Bool.true_and, Int.reduceEq, ↓reduceIte]
          exact Ev.now _
        · simp only [k2, z, decide_false, Bool.false_and, Int.reduceEq, ↓reduceIte]
          exact Ev.now _
      · by_cases k3 : a.f0 = 3
        · by_cases z : a.f1 = 0
          · by_cases z2 : a.f2 = 0
            · simp only [k3, z, z2, Int.reduceEq, BEq.rfl, Bool.true_and, ↓reduceIte]
              exact Ev.now _
            · have z2' : (a.f2 == 0) = false := by simpa using z2
              simp only [k3, z, z2, z2', Int.reduceEq, BEq.rfl, Bool.true_and, Bool.false_and, ↓reduceIte]
              exact Ev.now _
          · have z' : (a.f1 == 0) = false := by simpa using z
            simp only [k3, z, z', Int.reduceEq, BEq.rfl, Bool.true_and, Bool.false_and, ↓reduceIte]
            exact Ev.now _
        · have k3' : (a.f0 == 3) = false := by simpa using k3
          simp only [k1, k2, k3, k3', Bool.false_and, ↓reduceIte]
          exact Ev.now _
theorem spec_seActs_l0 (r c : Int) (l : List S58) (hb : goodBoard r c l = true) : ∀ (q p : List S60), (p ++ q).length < 9223372036854775807 → Ev (fun k => spec_seActs.l0 k (p ++ q) ((p ++ q).length : Int) (p.length : Int) r c l) (q.all (okAct r c))
  | [], p, h => by
    refine ev_up ?_
    simp only [spec_seActs.l0, mid_end, ↓reduceIte]
    exact Ev.now _
  | x :: q, p, h => by
    have hp : p.length < 9223372036854775807 := by simp only [List.length_append, List.length_cons] at h; omega
    refine ev_up ?_
    simp only [spec_seActs.l0, rd_T60, mid_lt, mid_ge, getD_mid, wrap_mid p x hp, ↓reduceIte, List.all_cons]
    refine ev_bind (spec_seAct_ev r c l x hb) ?_
    cases okAct r c x with
    | false => simpa using Ev.now _
    | true =>
      simp only [↓reduceIte, Bool.true_and]
      rw [step_mid p q x] at h ⊢
      exact spec_seActs_l0 r c l hb q (p ++ [x]) h
theorem spec_seActs_ev (r c : Int) (l : List S58) (d : List S60) (hb : goodBoard r c l = true) (h : d.length ≤ 1048576) : Ev (fun k => spec_seActs.f k r c l d) (d.all (okAct r c)) := by
  simpa [spec_seActs.f] using spec_seActs_l0 r c l hb d [] (by simp; omega)
theorem spec_seGood_ev (r c : Int) (l : List S58) (d u : List S60) (hd : d.length ≤ 1048576) (hu : u.length ≤ 1048576) : Ev (fun k => spec_seGood.f k r c l d u) (goodSession r c l d u) := by
  unfold goodSession
  simp only [spec_seGood.f]
  refine ev_bind (spec_boGood_ev r c l) ?_
  cases hb : goodBoard r c l
  · exact ev_eq (Ev.now _) (by simp)
  · simp only [↓reduceIte, Bool.true_and]
    refine ev_bind (spec_seActs_ev r c l d hb hd) ?_
    cases d.all (okAct r c)
    · exact ev_eq (Ev.now _) (by simp)
    · simp only [↓reduceIte, Bool.true_and]
      refine ev_bind (spec_seActs_ev r c l u hb hu) ?_
      cases u.all (okAct r c)
      · exact ev_eq (Ev.now _) (by simp)
      · have hw : wrap64 ((d.length : Int) + (u.length : Int)) = (d.length : Int) + (u.length : Int) := wrap_id (by omega) (by omega)
        simp only [↓reduceIte, Bool.true_and, hw]
        refine ev_eq (Ev.now _) ?_
        rw [Bool.eq_iff_iff, decide_eq_true_iff, decide_eq_true_iff]
        omega
theorem impl_IsSession_l1 (y : List (List S60)) (n i r c : Int) (l : List S58) (d u : List S60) (hb : goodBoard r c l = true) (R : Bool) (hR : Ev (fun k => impl_IsSession.l0 k y n (wrap64 (i + 1)) r c l d u) R) : ∀ (q p : List S60), (p ++ q).length < 9223372036854775807 → Ev (fun k => impl_IsSession.l1 k y n i (p ++ q) ((p ++ q).length : Int) (p.length : Int) r c l d u) (q.all (okAct r c) && R)
  | [], p, h => by
    refine ev_up ?_
    simp only [impl_IsSession.l1, mid_end, ↓reduceIte, List.all_nil, Bool.true_and]
    exact hR
  | x :: q, p, h => by
    have hp : p.length < 9223372036854775807 := by simp only [List.length_append, List.length_cons] at h; omega
    refine ev_up ?_
    simp only [impl_IsSession.l1, rd_T60, mid_lt, mid_ge, getD_mid, wrap_mid p x hp, ↓reduceIte, List.all_cons]
    refine ev_bind (impl_isAct_ev r c l x hb) ?_
    cases okAct r c x with
    | false => simpa using Ev.now _
    | true =>
      simp only [↓reduceIte, Bool.true_and]
      rw [step_mid p q x] at h ⊢
      exact impl_IsSession_l1 y n i r c l d u hb R hR q (p ++ [x]) h
theorem impl_IsSession_ev (r c : Int) (l : List S58) (d u : List S60) (hd : d.length ≤ 1048576) (hu : u.length ≤ 1048576) : Ev (fun k => impl_IsSession.f k r c l d u) (goodSession r c l d u) := by
  have fin : Ev (fun k => impl_IsSession.j0 k true r c l d u) false := by
    refine ev_up ?_
    simp only [impl_IsSession.j0, ↓reduceIte]
    exact Ev.now _
  unfold goodSession
  simp only [impl_IsSession.f]
  refine ev_bind (impl_IsBoard_ev r c l) ?_
  have hw : wrap64 ((d.length : Int) + (u.length : Int)) = (d.length : Int) + (u.length : Int) := wrap_id (by omega) (by omega)
  cases hb : goodBoard r c l
  · simpa using fin
  · simp only [hw, ↓reduceIte, Bool.true_and]
    by_cases h40 : d.length + u.length ≤ 40
    · have g : decide ((d.length : Int) + (u.length : Int) > 40) = false := by rw [decide_eq_false_iff_not]; omega
      have e0 : Ev (fun k => impl_IsSession.l0 k [d, u] 2 2 r c l d u) true := by
        refine ev_up ?_
        simp only [impl_IsSession.l0, Int.reduceLT, ↓reduceIte]
        exact Ev.now _
      have w1 : wrap64 ((1 : Int) + 1) = 2 := by decide +kernel
      have w0 : wrap64 ((0 : Int) + 1) = 1 := by decide +kernel
      have e1 : Ev (fun k => impl_IsSession.l0 k [d, u] 2 1 r c l d u) (u.all (okAct r c) && true) := by
        refine ev_up ?_
        have a1 : ((1 : Int) < (([d, u] : List (List S60)).length : Int)) = True := by simp
        have a2 : rd_L5 [d, u] 1 = u := rfl
        simp only [impl_IsSession.l0, a1, a2, Int.reduceLT, Int.reduceLE, ↓reduceIte]
        simpa using impl_IsSession_l1 [d, u] 2 1 r c l d u hb true (by rw [w1]; exact e0) u [] (by simp; omega)
      have e2 : Ev (fun k => impl_IsSession.l0 k [d, u] 2 0 r c l d u) (d.all (okAct r c) && (u.all (okAct r c) && true)) := by
        refine ev_up ?_
        have a1 : ((0 : Int) < (([d, u] : List (List S60)).length : Int)) = True := by simp
        have a2 : rd_L5 [d, u] 0 = d := rfl
        simp only [impl_IsSession.l0, a1, a2, Int.reduceLT, Int.reduceLE, ↓reduceIte]
        simpa using impl_IsSession_l1 [d, u] 2 0 r c l d u hb (u.all (okAct r c) && true) (by rw [w0]; exact e1) d [] (by simp; omega)
      simp only [g, h40, decide_true]
      refine ev_up ?_
      simp only [impl_IsSession.j0, Option.bind_some, Bool.false_eq_true, ↓reduceIte]
      simpa using e2
    · have g : decide ((d.length : Int) + (u.length : Int) > 40) = true := by rw [decide_eq_true_iff]; omega
      simp only [g, h40, decide_false, Bool.and_false]
      exact fin
def toAct (x : S56) : S60 := ⟨x.f0, x.f1, x.f2, ⟨x.f3.f0, x.f3.f1⟩⟩
theorem laws_toSessionActS_l0 : ∀ (q p : List S56), (p ++ q).length < 9223372036854775807 → Ev (fun k => laws_toSessionActS.l0 k (p ++ q) (p.map toAct ++ List.replicate q.length z60) (p.length : Int)) ((p ++ q).map toAct)
  | [], p, h => by
    refine ev_up ?_
    simp only [laws_toSessionActS.l0, mid_end, ↓reduceIte]
    exact ev_eq (Ev.now _) (by simp)
  | x :: q, p, h => by
    have hp : p.length < 9223372036854775807 := by simp only [List.length_append, List.length_cons] at h; omega
    have hl : p.length = (p.map toAct).length := by simp
    refine ev_up ?_
    simp only [laws_toSessionActS.l0, laws_toSessionAct.f, laws_toCell.f, Option.bind_some, rd_T56, List.length_cons, List.replicate_succ, mid_lt, mid_lt2 p _ _ _ hl, mid_ge, getD_mid, set_mid2 p _ _ _ _ hl, wrap_mid p x hp, ↓reduceIte]
    rw [step_mid p q x] at h ⊢
    have e : p.map toAct ++ (⟨x.f0, x.f1, x.f2, ⟨x.f3.f0, x.f3.f1⟩⟩ : S60) :: List.replicate q.length z60 = (p ++ [x]).map toAct ++ List.replicate q.length z60 := by simp [toAct]
    rw [e]
    exact laws_toSessionActS_l0 q (p ++ [x]) h
theorem laws_toSessionActS_ev (l : List S56) (h : l.length ≤ 1048576) : Ev (fun k => laws_toSessionActS.f k l) (l.map toAct) := by
  have h0 : (0 ≤ (l.length : Int)) = True := by apply eq_true; omega
  have h1 : (((l.length : Int) : Int).toNat ≤ 7036874417766) = True := by apply eq_true; omega
  simp only [laws_toSessionActS.f, h0, h1, ↓reduceIte]
  simpa using laws_toSessionActS_l0 l [] (by simp; omega)
theorem laws_toSession_ev (r c : Int) (l : List S54) (d u : List S56) (hl : l.length ≤ 1048576) (hd : d.length ≤ 1048576) (hu : u.length ≤ 1048576) : Ev (fun k => laws_toSession.f k r c l d u) (r, c, l.map toCell, d.map toAct, u.map toAct) := by
  simp only [laws_toSession.f]
  exact ev_bind (laws_toBoard_ev r c l hl) (ev_bind (laws_toSessionActS_ev d hd) (ev_bind (laws_toSessionActS_ev u hu) (Ev.now _)))
theorem laws_eqSessionActS_l0 : ∀ (q p : List S60), (p ++ q).length < 9223372036854775807 → Ev (fun k => laws_eqSessionActS.l0 k (p ++ q) (p ++ q) (p.length : Int)) true
  | [], p, h => by
    refine ev_up ?_
    simp only [laws_eqSessionActS.l0, mid_end, ↓reduceIte]
    exact Ev.now _
  | x :: q, p, h => by
    have hp : p.length < 9223372036854775807 := by simp only [List.length_append, List.length_cons] at h; omega
    refine ev_up ?_
    simp only [laws_eqSessionActS.l0, laws_eqSessionAct.f, eqCell_self, Option.bind_some, rd_T60, mid_lt, mid_ge, getD_mid, wrap_mid p x hp, ↓reduceIte]
    rw [step_mid p q x] at h ⊢
    exact laws_eqSessionActS_l0 q (p ++ [x]) h
theorem laws_eqSessionActS_ev (l : List S60) (h : l.length < 9223372036854775807) : Ev (fun k => laws_eqSessionActS.f k l l) true := by
  simp only [laws_eqSessionActS.f, ↓reduceIte]
  simpa using laws_eqSessionActS_l0 l [] (by simpa using h)
theorem laws_eqSession_ev (r c : Int) (l : List S58) (d u : List S60) (hl : l.length < 9223372036854775807) (hd : d.length < 9223372036854775807) (hu : u.length < 9223372036854775807) : Ev (fun k => laws_eqSession.f k r c l d u r c l d u) true := by
  simp only [laws_eqSession.f]
  refine ev_bind (laws_eqBoard_ev r c l hl) ?_
  simp only [↓reduceIte]
  refine ev_bind (laws_eqSessionActS_ev d hd) ?_
  simp only [↓reduceIte]
  refine ev_bind (laws_eqSessionActS_ev u hu) ?_
  simpa using Ev.now _
theorem szSessionActS_eq (l : List S56) (n : Int) (h : l.length ≤ 9223372036854775807) (h0 : 0 ≤ n) (h1 : n ≤ 1048576) : laws_szSessionActS.f l n = some (if (l.length : Int) ≤ n then n - (l.length : Int) else -1) := by
  have hw : wrap64 (n - (l.length : Int)) = n - (l.length : Int) := wrap_id (by omega) (by omega)
  unfold laws_szSessionActS.f
  rw [hw]
  by_cases hl : (l.length : Int) ≤ n
  · rw [if_neg (by omega), if_pos hl]
  · rw [if_pos (by omega), if_neg hl]
theorem szSession_eq (r c : Int) (l : List S54) (d u : List S56) (hl : l.length ≤ 9223372036854775807) (hd : d.length ≤ 9223372036854775807) (hu : u.length ≤ 9223372036854775807) : laws_szSession.f r c l d u 1048576 = some (if l.length + d.length + u.length ≤ 1048576 then 1048576 - (l.length : Int) - (d.length : Int) - (u.length : Int) else -1) := by
  have m1 : ((-1 : Int) < 0) = True := by apply eq_true; omega
  simp only [laws_szSession.f, szBoard_eq r c l 1048576 hl (by omega) (by omega), Option.bind_some]
  by_cases h0 : (l.length : Int) ≤ 1048576
  · have g0 : ¬ (1048576 - (l.length : Int) < 0) := by omega
    simp only [h0, g0, ↓reduceIte, szSessionActS_eq d (1048576 - (l.length : Int)) hd (by omega) (by omega), Option.bind_some]
    by_cases h1 : (d.length : Int) ≤ 1048576 - (l.length : Int)
    · have g1 : ¬ (1048576 - (l.length : Int) - (d.length : Int) < 0) := by omega
      simp only [h1, g1, ↓reduceIte, szSessionActS_eq u (1048576 - (l.length : Int) - (d.length : Int)) hu (by omega) (by omega), Option.bind_some]
      by_cases h2 : (u.length : Int) ≤ 1048576 - (l.length : Int) - (d.length : Int)
      · have g2 : ¬ (1048576 - (l.length : Int) - (d.length : Int) - (u.length : Int) < 0) := by omega
        have g3 : l.length + d.length + u.length ≤ 1048576 := by omega
        simp only [h2, g2, g3, ↓reduceIte]
      · have g3 : ¬ l.length + d.length + u.length ≤ 1048576 := by omega
        simp only [h2, m1, g3, ↓reduceIte]
    · have g3 : ¬ l.length + d.length + u.length ≤ 1048576 := by omega
      simp only [h1, m1, g3, ↓reduceIte]
  · have g3 : ¬ l.length + d.length + u.length ≤ 1048576 := by omega
    simp only [h0, m1, g3, ↓reduceIte]
theorem laws_markSessionActS_o : ∀ (q p : List S60) (m : Int), (p ++ q).length < 100000000000000 → 0 ≤ m → m + 5 * q.length ≤ 1000000000000000 → ∃ q', Ev (fun k => laws_markSessionActS.l0 k (p ++ q) m (p.length : Int)) (m + 5 * q.length, q')
  | [], p, m, h, h0, h1 => by
    refine ⟨p, ev_up ?_⟩
    simp only [laws_markSessionActS.l0, mid_end, ↓reduceIte]
    exact ev_eq (Ev.now _) (by simp)
  | x :: q, p, m, h, h0, h1 => by
    have hp : p.length < 9223372036854775807 := by simp only [List.length_append, List.length_cons] at h; omega
    simp only [List.length_cons] at h1
    have hm1 : wrap64 (m + 1) = m + 1 := wrap_id (by omega) (by omega)
    have hm2 : wrap64 (m + 1 + 1) = m + 2 := by rw [wrap_id (by omega) (by omega)]; omega
    have hm3 : wrap64 (m + 2 + 1) = m + 3 := by rw [wrap_id (by omega) (by omega)]; omega
    have hm4 : wrap64 (m + 3 + 1) = m + 4 := by rw [wrap_id (by omega) (by omega)]; omega
    have hm5 : wrap64 (m + 4 + 1) = m + 5 := by rw [wrap_id (by omega) (by omega)]; omega
    obtain ⟨q', hA⟩ := laws_markSessionActS_o q (p ++ [⟨m, m + 1, m + 2, ⟨m + 3, m + 4⟩⟩]) (m + 5) (by simp only [List.length_append, List.length_cons, List.length_nil] at h ⊢; omega) (by omega) (by omega)
    have e : (m + 5) + 5 * (q.length : Int) = m + 5 * ((x :: q).length : Int) := by simp only [List.length_cons]; omega
    rw [e] at hA
    refine ⟨q', ev_up ?_⟩
    simp only [laws_markSessionActS.l0, rd_T60, mid_lt, mid_ge, set_mid, getD_mid, Option.bind_some, hm1, hm2, hm3, hm4, hm5, wrap_mid p (⟨m, m + 1, m + 2, ⟨m + 3, m + 4⟩⟩ : S60) hp, ↓reduceIte]
    rw [step_mid p q]
    exact hA
theorem laws_markSessionActS_only (l : List S60) (m : Int) (h : l.length < 10000000000000) (h0 : 0 ≤ m) (h1 : m ≤ 100000000000000) : ∃ m' l', 0 ≤ m' ∧ m' = m + 5 * l.length ∧ Ev (fun k => laws_markSessionActS.f k l m) (m', l') := by
  obtain ⟨q', hA⟩ := laws_markSessionActS_o l [] m (by simp; omega) (by omega) (by omega)
  exact ⟨m + 5 * l.length, q', by omega, rfl, by simpa [laws_markSessionActS.f] using hA⟩
theorem laws_markSession_only (r c : Int) (l : List S58) (d u : List S60) (hl : l.length ≤ 10000000) (hd : d.length ≤ 10000000) (hu : u.length ≤ 10000000) : ∃ m' l', 0 ≤ m' ∧ Ev (fun k => laws_markSession.f k r c l d u 1) (m', l') := by
  obtain ⟨m1, l1, a1, b1, c1⟩ := laws_markBoard_only r c l 1 (by omega) (by omega) (by omega)
  obtain ⟨m2, l2, a2, b2, c2⟩ := laws_markSessionActS_only d m1 (by omega) a1 (by omega)
  obtain ⟨m3, l3, a3, b3, c3⟩ := laws_markSessionActS_only u m2 (by omega) a2 (by omega)
  refine ⟨m3, (l1, l2, l3), a3, ?_⟩
  simp only [laws_markSession.f]
  exact ev_bind c1 (ev_bind c2 (ev_bind c3 (Ev.now _)))
theorem okAct_kind {r c : Int} {a : S60} (h : okAct r c a = true) : 1 ≤ a.f0 ∧ a.f0 ≤ 3 := by
  unfold okAct at h
  simp only [Bool.and_eq_true] at h
  have h2 := h.2
  by_cases k1 : a.f0 = 1
  · omega
  · by_cases k2 : a.f0 = 2
    · omega
    · simp only [k1, k2, ↓reduceIte, Bool.and_eq_true, beq_iff_eq] at h2
      omega
theorem goodSession_acts {r c : Int} {l : List S58} {d u : List S60} (h : goodSession r c l d u = true) : goodBoard r c l = true ∧ (∀ a ∈ d, okAct r c a = true) ∧ (∀ a ∈ u, okAct r c a = true) ∧ d.length + u.length ≤ 40 := by
  unfold goodSession at h
  simp only [Bool.and_eq_true, decide_eq_true_eq, List.all_eq_true] at h
  exact ⟨h.1, h.2.1, h.2.2.1, h.2.2.2⟩
def acts (v : List Int) : List S60 → List Int
  | [] => v
  | x :: q => acts (v.set (x.f0 - 1).toNat (wrap64 (rd v (x.f0 - 1) + 1))) q
theorem acts_len : ∀ (q : List S60) (v : List Int), (acts v q).length = v.length
  | [], v => rfl
  | x :: q, v => by rw [acts, acts_len q]; simp
def rCountActs (r c : Int) (l : List S58) (d u : List S60) : List Int × Bool := if goodSession r c l d u = true then (acts (List.replicate 3 0) d, true) else ([], false)
theorem rCountActs_len (r c : Int) (l : List S58) (d u : List S60) : (rCountActs r c l d u).1.length ≤ 3 := by
  unfold rCountActs; split <;> simp [acts_len]
theorem laws_markSessionActS_l0 : ∀ (q p : List S60) (m : Int), (p ++ q).length < 100000000000000 → 0 ≤ m → m + 5 * q.length ≤ 1000000000000000 → ∃ q', q'.length = q.length ∧ Ev (fun k => laws_markSessionActS.l0 k (p ++ q) m (p.length : Int)) (m + 5 * q.length, p ++ q') ∧ Ev (fun k => laws_heldSessionActS.l0 k (p ++ q') m (p.length : Int)) (m + 5 * q.length)
  | [], p, m, h, h0, h1 => by
    refine ⟨[], rfl, ev_up ?_, ev_up ?_⟩
    · simp only [laws_markSessionActS.l0, mid_end, ↓reduceIte]
      exact ev_eq (Ev.now _) (by simp)
    · simp only [laws_heldSessionActS.l0, mid_end, ↓reduceIte]
      exact ev_eq (Ev.now _) (by simp)
  | x :: q, p, m, h, h0, h1 => by
    have hp : p.length < 9223372036854775807 := by simp only [List.length_append, List.length_cons] at h; omega
    simp only [List.length_cons] at h1
    have hm1 : wrap64 (m + 1) = m + 1 := wrap_id (by omega) (by omega)
    have hm2 : wrap64 (m + 1 + 1) = m + 2 := by rw [wrap_id (by omega) (by omega)]; omega
    have hm3 : wrap64 (m + 2 + 1) = m + 3 := by rw [wrap_id (by omega) (by omega)]; omega
    have hm4 : wrap64 (m + 3 + 1) = m + 4 := by rw [wrap_id (by omega) (by omega)]; omega
    have hm5 : wrap64 (m + 4 + 1) = m + 5 := by rw [wrap_id (by omega) (by omega)]; omega
    obtain ⟨q', hl, hA, hB⟩ := laws_markSessionActS_l0 q (p ++ [⟨m, m + 1, m + 2, ⟨m + 3, m + 4⟩⟩]) (m + 5) (by simp only [List.length_append, List.length_cons, List.length_nil] at h ⊢; omega) (by omega) (by omega)
    have e : (m + 5) + 5 * (q.length : Int) = m + 5 * ((x :: q).length : Int) := by simp only [List.length_cons]; omega
    rw [e] at hA hB
    refine ⟨⟨m, m + 1, m + 2, ⟨m + 3, m + 4⟩⟩ :: q', by simp [hl], ev_up ?_, ev_up ?_⟩
    · simp only [laws_markSessionActS.l0, rd_T60, mid_lt, mid_ge, set_mid, getD_mid, Option.bind_some, hm1, hm2, hm3, hm4, hm5, wrap_mid p (⟨m, m + 1, m + 2, ⟨m + 3, m + 4⟩⟩ : S60) hp, ↓reduceIte]
      rw [step_mid p q, step_mid p q']
      exact hA
    · simp only [laws_heldSessionActS.l0, rd_T60, mid_lt, mid_ge, getD_mid, hm1, hm2, hm3, hm4, hm5, wrap_mid p (⟨m, m + 1, m + 2, ⟨m + 3, m + 4⟩⟩ : S60) hp, ↓reduceIte]
      rw [step_mid p q']
      exact hB
theorem laws_markSessionActS_ev (l : List S60) (m : Int) (h : l.length < 10000000000000) (h0 : 0 ≤ m) (h1 : m ≤ 100000000000000) : ∃ m' l', 0 ≤ m' ∧ m' = m + 5 * l.length ∧ Ev (fun k => laws_markSessionActS.f k l m) (m', l') ∧ Ev (fun k => laws_heldSessionActS.f k l' m) m' := by
  obtain ⟨q', hl, hA, hB⟩ := laws_markSessionActS_l0 l [] m (by simp; omega) (by omega) (by omega)
  exact ⟨m + 5 * l.length, q', by omega, rfl, by simpa [laws_markSessionActS.f] using hA, by simpa [laws_heldSessionActS.f] using hB⟩
theorem laws_markBoard_ev (a b : Int) (l : List S58) (m : Int) (h : l.length < 100000000000000) (h0 : 0 ≤ m) (h1 : m ≤ 100000000000000) : ∃ m' l', 0 ≤ m' ∧ m' = m + 2 * l.length ∧ Ev (fun k => laws_markBoard.f k a b l m) (m', l') ∧ Ev (fun k => laws_heldBoard.f k a b l' m) m' := by
  obtain ⟨m', l', h2, h3, -, h4, h5⟩ := laws_markCellS_ev l m h h0 h1
  refine ⟨m', l', h2, h3, ?_, ?_⟩
  · simp only [laws_markBoard.f]
    exact ev_bind h4 (Ev.now _)
  · simp only [laws_heldBoard.f]
    refine ev_bind h5 ?_
    have g : ¬ (m' < 0) := by omega
    simp only [g, ↓reduceIte]
    exact Ev.now _
theorem laws_markSession_ev (r c : Int) (l : List S58) (d u : List S60) (hl : l.length ≤ 10000000) (hd : d.length ≤ 10000000) (hu : u.length ≤ 10000000) : ∃ m' l' d' u', 0 ≤ m' ∧ Ev (fun k => laws_markSession.f k r c l d u 1) (m', l', d', u') ∧ Ev (fun k => laws_heldSession.f k r c l' d' u' 1) m' := by
  obtain ⟨m1, l1, a1, b1, c1, e1⟩ := laws_markBoard_ev r c l 1 (by omega) (by omega) (by omega)
  obtain ⟨m2, l2, a2, b2, c2, e2⟩ := laws_markSessionActS_ev d m1 (by omega) a1 (by omega)
  obtain ⟨m3, l3, a3, b3, c3, e3⟩ := laws_markSessionActS_ev u m2 (by omega) a2 (by omega)
  have g1 : ¬ (m1 < 0) := by omega
  have g2 : ¬ (m2 < 0) := by omega
  have g3 : ¬ (m3 < 0) := by omega
  refine ⟨m3, l1, l2, l3, a3, ?_, ?_⟩
  · simp only [laws_markSession.f]
    exact ev_bind c1 (ev_bind c2 (ev_bind c3 (Ev.now _)))
  · simp only [laws_heldSession.f]
    refine ev_bind e1 ?_
    simp only [g1, ↓reduceIte]
    refine ev_bind e2 ?_
    simp only [g2, ↓reduceIte]
    refine ev_bind e3 ?_
    simp only [g3, ↓reduceIte]
    exact Ev.now _
theorem boOwn_eq (r c : Int) (l : List S58) (h : l.length ≤ 10000000) : spec_boOwn.f r c l = some (r, c, l) := by
  have g : (([] : List S58).length + l.length < 8796093022208) = True := by apply eq_true; simp; omega
  simp only [spec_boOwn.f, Option.bind_some, g, List.nil_append, ↓reduceIte]
theorem copyBoard_eq (r c : Int) (l : List S58) (h : l.length ≤ 10000000) : impl_copyBoard.f r c l = some (r, c, l) := by
  have g : (([] : List S58).length + l.length < 8796093022208) = True := by apply eq_true; simp; omega
  simp only [impl_copyBoard.f, Option.bind_some, g, List.nil_append, ↓reduceIte]
theorem seOwn_eq (r c : Int) (l : List S58) (d u d' u' : List S60) (h : l.length ≤ 10000000) (hd : d'.length ≤ 10000000) (hu : u'.length ≤ 10000000) : spec_seOwn.f r c l d u d' u' = some (r, c, l, d', u') := by
  have g1 : (([] : List S60).length + d'.length < 3518437208883) = True := by apply eq_true; simp; omega
  have g2 : (([] : List S60).length + u'.length < 3518437208883) = True := by apply eq_true; simp; omega
  simp only [spec_seOwn.f, boOwn_eq r c l h, Option.bind_some, g1, g2, List.nil_append, ↓reduceIte]
theorem copySession_eq (r c : Int) (l : List S58) (d u : List S60) (h : l.length ≤ 10000000) (hd : d.length ≤ 10000000) (hu : u.length ≤ 10000000) : impl_copySession.f r c l d u = some (r, c, l, d, u) := by
  have g1 : (([] : List S60).length + d.length < 3518437208883) = True := by apply eq_true; simp; omega
  have g2 : (([] : List S60).length + u.length < 3518437208883) = True := by apply eq_true; simp; omega
  simp only [impl_copySession.f, copyBoard_eq r c l h, Option.bind_some, g1, g2, List.nil_append, ↓reduceIte]
def rSes : Type := Int × Int × List S58 × List S60 × List S60 × Bool
def noSes : Int × Int × List S58 × List S60 × List S60 × Bool := (0, 0, [], [], [], false)
def lastAct (d : List S60) : S60 := ⟨(rd_T60 d ((d.length : Int) - 1)).f0, (rd_T60 d ((d.length : Int) - 1)).f1, (rd_T60 d ((d.length : Int) - 1)).f2, ⟨(rd_T60 d ((d.length : Int) - 1)).f3.f0, (rd_T60 d ((d.length : Int) - 1)).f3.f1⟩⟩
def rUndoAct (r c : Int) (l : List S58) (d u : List S60) : Int × Int × List S58 × List S60 × List S60 × Bool := if goodSession r c l d u = true then (if (d.length : Int) = 0 then (0, 0, [], [], [], false) else (r, c, l, d.take ((d.length : Int) - 1).toNat, u ++ [lastAct d], true)) else (0, 0, [], [], [], false)
def rRedoAct (r c : Int) (l : List S58) (d u : List S60) : Int × Int × List S58 × List S60 × List S60 × Bool := if goodSession r c l d u = true then (if (u.length : Int) = 0 then (0, 0, [], [], [], false) else (r, c, l, d ++ [lastAct u], u.take ((u.length : Int) - 1).toNat, true)) else (0, 0, [], [], [], false)
theorem rUndoAct_len (r c : Int) (l : List S58) (d u : List S60) (hl : l.length ≤ 1048576) (hd : d.length ≤ 1048576) (hu : u.length ≤ 1048576) : ∃ r' c' l' d' u' ok, rUndoAct r c l d u = (r', c', l', d', u', ok) ∧ l'.length ≤ 10000000 ∧ d'.length ≤ 10000000 ∧ u'.length ≤ 10000000 := by
  unfold rUndoAct
  split
  · split
    · exact ⟨_, _, _, _, _, _, rfl, by simp, by simp, by simp⟩
    · exact ⟨_, _, _, _, _, _, rfl, by omega, by rw [List.length_take]; omega, by rw [List.length_append, List.length_singleton]; omega⟩
  · exact ⟨_, _, _, _, _, _, rfl, by simp, by simp, by simp⟩
theorem rRedoAct_len (r c : Int) (l : List S58) (d u : List S60) (hl : l.length ≤ 1048576) (hd : d.length ≤ 1048576) (hu : u.length ≤ 1048576) : ∃ r' c' l' d' u' ok, rRedoAct r c l d u = (r', c', l', d', u', ok) ∧ l'.length ≤ 10000000 ∧ d'.length ≤ 10000000 ∧ u'.length ≤ 10000000 := by
  unfold rRedoAct
  split
  · split
    · exact ⟨_, _, _, _, _, _, rfl, by simp, by simp, by simp⟩
    · exact ⟨_, _, _, _, _, _, rfl, by omega, by rw [List.length_append, List.length_singleton]; omega, by rw [List.length_take]; omega⟩
  · exact ⟨_, _, _, _, _, _, rfl, by simp, by simp, by simp⟩
def doAct (r c : Int) (l : List S58) (d : List S60) (a : S60) : Int × Int × List S58 × List S60 × List S60 × Bool := if okAct r c a = true then (if (d.length : Int) = 40 then (0, 0, [], [], [], false) else (r, c, l, d ++ [a], [], true)) else (0, 0, [], [], [], false)
def rActOnce (r c : Int) (l : List S58) (d u : List S60) (a : S60) : Int × Int × List S58 × List S60 × List S60 × Bool := if goodSession r c l d u = true then doAct r c l d a else (0, 0, [], [], [], false)
theorem rActOnce_len (r c : Int) (l : List S58) (d u : List S60) (a : S60) (hl : l.length ≤ 1048576) (hd : d.length ≤ 1048576) : ∃ r' c' l' d' u' ok, rActOnce r c l d u a = (r', c', l', d', u', ok) ∧ l'.length ≤ 10000000 ∧ d'.length ≤ 10000000 ∧ u'.length ≤ 10000000 := by
  unfold rActOnce doAct
  split
  · split
    · split
      · exact ⟨_, _, _, _, _, _, rfl, by simp, by simp, by simp⟩
      · exact ⟨_, _, _, _, _, _, rfl, by omega, by rw [List.length_append, List.length_singleton]; omega, by simp⟩
    · exact ⟨_, _, _, _, _, _, rfl, by simp, by simp, by simp⟩
  · exact ⟨_, _, _, _, _, _, rfl, by simp, by simp, by simp⟩
theorem spec_seDo_ev (r c : Int) (l : List S58) (d u : List S60) (a : S60) (hb : goodBoard r c l = true) (hl : l.length ≤ 1048576) (hd : d.length ≤ 1048576) : Ev (fun k => spec_seDo.f k r c l d u a.f0 a.f1 a.f2 a.f3.f0 a.f3.f1) (doAct r c l d a) := by
  have e : (⟨a.f0, a.f1, a.f2, ⟨a.f3.f0, a.f3.f1⟩⟩ : S60) = a := rfl
  unfold doAct
  simp only [spec_seDo.f]
  refine ev_bind (spec_seAct_ev r c l a hb) ?_
  cases okAct r c a
  · exact ev_eq (Ev.now _) (by simp)
  · by_cases hn : (d.length : Int) = 40
    · simp only [hn, ↓reduceIte]
      exact Ev.now _
    · have g3 : (d.length < 3518437208883) = True := by apply eq_true; omega
      simp only [hn, seOwn_eq r c l d u d [] (by omega) (by omega) (by simp), g3, Option.bind_some, e, ↓reduceIte]
      exact Ev.now _
theorem impl_ActOnce_ev (r c : Int) (l : List S58) (d u : List S60) (a : S60) (hl : l.length ≤ 1048576) (hd : d.length ≤ 1048576) (hu : u.length ≤ 1048576) : Ev (fun k => impl_ActOnce.f k r c l d u a.f0 a.f1 a.f2 a.f3.f0 a.f3.f1) (rActOnce r c l d u a) := by
  have e : (⟨a.f0, a.f1, a.f2, ⟨a.f3.f0, a.f3.f1⟩⟩ : S60) = a := rfl
  unfold rActOnce doAct
  simp only [impl_ActOnce.f]
  refine ev_bind (impl_IsSession_ev r c l d u hd hu) ?_
  cases hg : goodSession r c l d u
  · exact ev_eq (Ev.now _) (by simp)
  · obtain ⟨hb, -, -, h40⟩ := goodSession_acts hg
    simp only [↓reduceIte]
    refine ev_bind (impl_isAct_ev r c l a hb) ?_
    cases okAct r c a
    · exact ev_eq (Ev.now _) (by simp)
    · by_cases hn : (d.length : Int) = 40
      · have g : (d.length : Int) ≥ 40 := by omega
        simp only [hn, g, ge_iff_le, Int.le_refl, ↓reduceIte]
        exact Ev.now _
      · have g : ¬ ((d.length : Int) ≥ 40) := by omega
        have g3 : (d.length < 3518437208883) = True := by apply eq_true; omega
        simp only [hn, g, copySession_eq r c l d u (by omega) (by omega) (by omega), g3, Option.bind_some, e, ↓reduceIte]
        exact Ev.now _
theorem goodSession_one {r c : Int} {l : List S58} {d u : List S60} {a : S60} (h : goodSession r c l d u = true) (ha : okAct r c a = true) (hn : ¬ (d.length : Int) = 40) : goodSession r c l (d ++ [a]) [] = true := by
  obtain ⟨hb, hd, -, h40⟩ := goodSession_acts h
  unfold goodSession
  simp only [Bool.and_eq_true, decide_eq_true_eq, List.all_eq_true, List.length_append, List.length_singleton, List.length_nil]
  refine ⟨hb, fun x hx => ?_, fun x hx => by simp at hx, by omega⟩
  rcases List.mem_append.1 hx with hx | hx
  · exact hd x hx
  · rw [List.mem_singleton.1 hx]; exact ha
/-- The actions that are left, one after the other; n are done. -/
def runL (r c : Int) (l : List S58) (d u : List S60) (n : Int) : List S60 → Int × Int × List S58 × List S60 × List S60 × Int × Bool
  | [] => (r, c, l, d, u, n, true)
  | a :: q => if okAct r c a = true ∧ ¬ (d.length : Int) = 40 then runL r c l (d ++ [a]) [] (n + 1) q else (r, c, l, d, u, n, true)
theorem runL_len (r c : Int) (l : List S58) (hl : l.length ≤ 1048576) : ∀ (q d u : List S60) (n : Int), goodSession r c l d u = true → ∃ d' u' n', runL r c l d u n q = (r, c, l, d', u', n', true) ∧ d'.length ≤ 10000000 ∧ u'.length ≤ 10000000
  | [], d, u, n, h => by
    obtain ⟨-, -, -, h40⟩ := goodSession_acts h
    exact ⟨d, u, n, rfl, by omega, by omega⟩
  | a :: q, d, u, n, h => by
    obtain ⟨-, -, -, h40⟩ := goodSession_acts h
    unfold runL
    by_cases hc : okAct r c a = true ∧ ¬ (d.length : Int) = 40
    · rw [if_pos hc]
      exact runL_len r c l hl q _ _ _ (goodSession_one h hc.1 hc.2)
    · rw [if_neg hc]
      exact ⟨d, u, n, rfl, by omega, by omega⟩
def rRunSession (r c : Int) (l : List S58) (d u q : List S60) : Int × Int × List S58 × List S60 × List S60 × Int × Bool := if goodSession r c l d u = true ∧ q.length ≤ 40 then runL r c l d u 0 q else (0, 0, [], [], [], 0, false)
theorem rRunSession_len (r c : Int) (l : List S58) (d u q : List S60) (hl : l.length ≤ 1048576) : ∃ r' c' l' d' u' n' ok, rRunSession r c l d u q = (r', c', l', d', u', n', ok) ∧ l'.length ≤ 10000000 ∧ d'.length ≤ 10000000 ∧ u'.length ≤ 10000000 := by
  unfold rRunSession
  split
  · rename_i h
    obtain ⟨d', u', n', e, h1, h2⟩ := runL_len r c l hl q d u 0 h.1
    rw [e]
    exact ⟨_, _, _, _, _, _, _, rfl, by omega, h1, h2⟩
  · exact ⟨_, _, _, _, _, _, _, rfl, by simp, by simp, by simp⟩
theorem spec_RunSession_l0 (r c : Int) (l : List S58) (hl : l.length ≤ 1048576) : ∀ (q p d u : List S60), (p ++ q).length < 1000000 → goodSession r c l d u = true → Ev (fun k => spec_RunSession.l0 k (p ++ q) (p ++ q) ((p ++ q).length : Int) (p.length : Int) r c l d u) (runL r c l d u (p.length : Int) q)
  | [], p, d, u, h, hg => by
    refine ev_up ?_
    simp only [spec_RunSession.l0, mid_end, ↓reduceIte, runL]
    exact ev_eq (Ev.now _) (by simp)
  | a :: q, p, d, u, h, hg => by
    have hp : p.length < 9223372036854775807 := by simp only [List.length_append, List.length_cons] at h; omega
    obtain ⟨hb, -, -, h40⟩ := goodSession_acts hg
    refine ev_up ?_
    simp only [spec_RunSession.l0, rd_T60, mid_lt, mid_ge, getD_mid, wrap_mid p a hp, ↓reduceIte]
    refine ev_bind (spec_seDo_ev r c l d u a hb hl (by omega)) ?_
    unfold doAct runL
    cases ha : okAct r c a
    · simp only [Bool.false_eq_true, false_and, ↓reduceIte]
      exact Ev.now _
    · by_cases hn : (d.length : Int) = 40
      · simp only [hn, not_true_eq_false, and_false, Bool.false_eq_true, ↓reduceIte]
        exact Ev.now _
      · simp only [hn, not_false_eq_true, and_self, ↓reduceIte]
        rw [step_mid p q a] at h ⊢
        have := spec_RunSession_l0 r c l hl q (p ++ [a]) (d ++ [a]) [] h (goodSession_one hg ha hn)
        have e : (((p ++ [a]).length : Nat) : Int) = (p.length : Int) + 1 := by simp
        rw [e] at this ⊢
        exact this
theorem spec_RunSession_ev (r c : Int) (l : List S58) (d u q : List S60) (hl : l.length ≤ 1048576) (hd : d.length ≤ 1048576) (hu : u.length ≤ 1048576) (hq : q.length ≤ 1048576) : Ev (fun k => spec_RunSession.f k r c l d u q) (rRunSession r c l d u q) := by
  have fin : Ev (fun k => spec_RunSession.j0 k q true r c l d u) ((0 : Int), (0 : Int), ([] : List S58), ([] : List S60), ([] : List S60), (0 : Int), false) := by
    refine ev_up ?_
    simp only [spec_RunSession.j0, ↓reduceIte]
    exact Ev.now _
  unfold rRunSession
  simp only [spec_RunSession.f]
  refine ev_bind (spec_seGood_ev r c l d u hd hu) ?_
  cases hg : goodSession r c l d u
  · simpa using fin
  · by_cases h40 : q.length ≤ 40
    · have g : decide ((q.length : Int) > 40) = false := by rw [decide_eq_false_iff_not]; omega
      simp only [g, h40, and_self, ↓reduceIte]
      refine ev_up ?_
      simp only [spec_RunSession.j0, seOwn_eq r c l d u d u (by omega) (by omega) (by omega), Option.bind_some, Bool.false_eq_true, ↓reduceIte]
      simpa using spec_RunSession_l0 r c l hl q [] d u (by simp; omega) hg
    · have g : decide ((q.length : Int) > 40) = true := by rw [decide_eq_true_iff]; omega
      simp only [g, h40, and_false, ↓reduceIte]
      exact fin
theorem impl_RunSession_l0 (r c : Int) (l : List S58) (hl : l.length ≤ 1048576) : ∀ (q p d u : List S60), (p ++ q).length < 1000000 → goodSession r c l d u = true → Ev (fun k => impl_RunSession.l0 k (p ++ q) (p ++ q) ((p ++ q).length : Int) (p.length : Int) r c l d u) (runL r c l d u (p.length : Int) q)
  | [], p, d, u, h, hg => by
    refine ev_up ?_
    simp only [impl_RunSession.l0, mid_end, ↓reduceIte, runL]
    exact ev_eq (Ev.now _) (by simp)
  | a :: q, p, d, u, h, hg => by
    have hp : p.length < 9223372036854775807 := by simp only [List.length_append, List.length_cons] at h; omega
    obtain ⟨hb, -, -, h40⟩ := goodSession_acts hg
    refine ev_up ?_
    simp only [impl_RunSession.l0, rd_T60, mid_lt, mid_ge, getD_mid, wrap_mid p a hp, ↓reduceIte]
    refine ev_bind (impl_ActOnce_ev r c l d u a hl (by omega) (by omega)) ?_
    unfold rActOnce doAct runL
    cases ha : okAct r c a
    · simp only [hg, Bool.false_eq_true, false_and, ↓reduceIte]
      exact Ev.now _
    · by_cases hn : (d.length : Int) = 40
      · simp only [hg, hn, not_true_eq_false, and_false, Bool.false_eq_true, ↓reduceIte]
        exact Ev.now _
      · simp only [hg, hn, not_false_eq_true, and_self, ↓reduceIte]
        rw [step_mid p q a] at h ⊢
        have := impl_RunSession_l0 r c l hl q (p ++ [a]) (d ++ [a]) [] h (goodSession_one hg ha hn)
        have e : (((p ++ [a]).length : Nat) : Int) = (p.length : Int) + 1 := by simp
        rw [e] at this ⊢
        exact this
theorem impl_RunSession_ev (r c : Int) (l : List S58) (d u q : List S60) (hl : l.length ≤ 1048576) (hd : d.length ≤ 1048576) (hu : u.length ≤ 1048576) (hq : q.length ≤ 1048576) : Ev (fun k => impl_RunSession.f k r c l d u q) (rRunSession r c l d u q) := by
  have fin : Ev (fun k => impl_RunSession.j0 k q true r c l d u) ((0 : Int), (0 : Int), ([] : List S58), ([] : List S60), ([] : List S60), (0 : Int), false) := by
    refine ev_up ?_
    simp only [impl_RunSession.j0, ↓reduceIte]
    exact Ev.now _
  unfold rRunSession
  simp only [impl_RunSession.f]
  refine ev_bind (impl_IsSession_ev r c l d u hd hu) ?_
  cases hg : goodSession r c l d u
  · simpa using fin
  · by_cases h40 : q.length ≤ 40
    · have g : decide ((q.length : Int) > 40) = false := by rw [decide_eq_false_iff_not]; omega
      simp only [g, h40, and_self, ↓reduceIte]
      refine ev_up ?_
      simp only [impl_RunSession.j0, copySession_eq r c l d u (by omega) (by omega) (by omega), Option.bind_some, Bool.false_eq_true, ↓reduceIte]
      simpa using impl_RunSession_l0 r c l hl q [] d u (by simp; omega) hg
    · have g : decide ((q.length : Int) > 40) = true := by rw [decide_eq_true_iff]; omega
      simp only [g, h40, and_false, ↓reduceIte]
      exact fin
theorem laws_markSession_bnd (r c : Int) (l : List S58) (d u : List S60) (hl : l.length ≤ 10000000) (hd : d.length ≤ 10000000) (hu : u.length ≤ 10000000) : ∃ m' l', 0 ≤ m' ∧ m' ≤ 1000000000 ∧ Ev (fun k => laws_markSession.f k r c l d u 1) (m', l') := by
  obtain ⟨m1, l1, a1, b1, c1⟩ := laws_markBoard_only r c l 1 (by omega) (by omega) (by omega)
  obtain ⟨m2, l2, a2, b2, c2⟩ := laws_markSessionActS_only d m1 (by omega) a1 (by omega)
  obtain ⟨m3, l3, a3, b3, c3⟩ := laws_markSessionActS_only u m2 (by omega) a2 (by omega)
  refine ⟨m3, (l1, l2, l3), a3, by omega, ?_⟩
  simp only [laws_markSession.f]
  exact ev_bind c1 (ev_bind c2 (ev_bind c3 (Ev.now _)))
theorem toAct_eq (a b c d e : Int) : laws_toSessionAct.f a b c d e = some (a, b, c, d, e) := by simp only [laws_toSessionAct.f, laws_toCell.f, Option.bind_some]
theorem FnExactRunSession (r : Int) (c : Int) (l : List S54) (d : List S56) (u : List S56) (v : List S56) (wr : (Lit.int .i64 r).wf = true) (wc : (Lit.int .i64 c).wf = true) (wl : l.length ≤ maxLen) (we : ∀ z ∈ l, (Lit.int .i64 z.f0).wf = true ∧ (Lit.int .i64 z.f1).wf = true) (wd : d.length ≤ maxLen) (ed : ∀ z ∈ d, (Lit.int .i64 z.f0).wf = true ∧ (Lit.int .i64 z.f1).wf = true ∧ (Lit.int .i64 z.f2).wf = true ∧ (Lit.int .i64 z.f3.f0).wf = true ∧ (Lit.int .i64 z.f3.f1).wf = true) (wu : u.length ≤ maxLen) (eu : ∀ z ∈ u, (Lit.int .i64 z.f0).wf = true ∧ (Lit.int .i64 z.f1).wf = true ∧ (Lit.int .i64 z.f2).wf = true ∧ (Lit.int .i64 z.f3.f0).wf = true ∧ (Lit.int .i64 z.f3.f1).wf = true) (wv : v.length ≤ maxLen) (ev : ∀ z ∈ v, (Lit.int .i64 z.f0).wf = true ∧ (Lit.int .i64 z.f1).wf = true ∧ (Lit.int .i64 z.f2).wf = true ∧ (Lit.int .i64 z.f3.f0).wf = true ∧ (Lit.int .i64 z.f3.f1).wf = true) : ∃ k, laws_FnExactRunSession.f k r c l d u v = some true := by
  refine Ev.rounds (g := fun k => laws_FnExactRunSession.f k r c l d u v) ?_
  have hm := (show maxLen ≤ 9223372036854775807 by decide)
  have SZ := szSession_eq r c l d u (by omega) (by omega) (by omega)
  have m1 : ((-1 : Int) < 0) = True := by apply eq_true; omega
  by_cases hb : l.length + d.length + u.length ≤ 1048576
  · have hc1 : (1048576 - (l.length : Int) - (d.length : Int) - (u.length : Int) < 0) = False := by apply eq_false; omega
    have SV := szSessionActS_eq v (1048576 - (l.length : Int) - (d.length : Int) - (u.length : Int)) (by omega) (by omega) (by omega)
    by_cases hv : (v.length : Int) ≤ 1048576 - (l.length : Int) - (d.length : Int) - (u.length : Int)
    · have hc2 : (1048576 - (l.length : Int) - (d.length : Int) - (u.length : Int) - (v.length : Int) < 0) = False := by apply eq_false; omega
      have hs1 : l.length ≤ 1048576 := by omega
      have hs2 : d.length ≤ 1048576 := by omega
      have hs3 : u.length ≤ 1048576 := by omega
      have hs4 : v.length ≤ 1048576 := by omega
      have hL : (l.map toCell).length = l.length := by simp
      have hD : (d.map toAct).length = d.length := by simp
      have hU : (u.map toAct).length = u.length := by simp
      have hV : (v.map toAct).length = v.length := by simp
      have TS := laws_toSession_ev r c l d u hs1 hs2 hs3
      have TV := laws_toSessionActS_ev v hs4
      have ES := laws_eqSession_ev r c (l.map toCell) (d.map toAct) (u.map toAct) (by omega) (by omega) (by omega)
      have EV := laws_eqSessionActS_ev (v.map toAct) (by omega)
      have S := spec_RunSession_ev r c (l.map toCell) (d.map toAct) (u.map toAct) (v.map toAct) (by omega) (by omega) (by omega) (by omega)
      have I := impl_RunSession_ev r c (l.map toCell) (d.map toAct) (u.map toAct) (v.map toAct) (by omega) (by omega) (by omega) (by omega)
      obtain ⟨ms, ls, hms, hms', MS⟩ := laws_markSession_bnd r c (l.map toCell) (d.map toAct) (u.map toAct) (by omega) (by omega) (by omega)
      obtain ⟨mv, lv, hmv, -, MV⟩ := laws_markSessionActS_only (v.map toAct) ms (by omega) hms (by omega)
      replace hmv : (mv < 0) = False := by apply eq_false; omega
      obtain ⟨r', c', l', d', u', n', ok, hR, hl', hd', hu'⟩ := rRunSession_len r c (l.map toCell) (d.map toAct) (u.map toAct) (v.map toAct) (by omega)
      rw [hR] at S I
      clear hR
      have E2 := laws_eqSession_ev r' c' l' d' u' (by omega) (by omega) (by omega)
      obtain ⟨m2, l2, d2, u2, hm2, M2, N2⟩ := laws_markSession_ev r' c' l' d' u' hl' hd' hu'
      replace hm2 : (m2 < 0) = False := by apply eq_false; omega
      simp only [laws_FnExactRunSession.f]
      repeat (first
        | exact Ev.now _
        | with_reducible refine ev_bind (by with_reducible assumption) ?_
        | simp only [*, Option.bind_some, bne_self_eq_false, ↓reduceIte, Bool.false_eq_true, gt_iff_lt]
        | (refine ev_up ?_; simp only [laws_FnExactRunSession.j0, laws_FnExactRunSession.j1, laws_FnExactRunSession.j2, Option.bind_some]))
    · simp only [laws_FnExactRunSession.f]
      repeat (first
        | exact Ev.now _
        | with_reducible refine ev_bind (by with_reducible assumption) ?_
        | simp only [*, Option.bind_some, bne_self_eq_false, ↓reduceIte, Bool.false_eq_true, gt_iff_lt]
        | (refine ev_up ?_; simp only [laws_FnExactRunSession.j0, laws_FnExactRunSession.j1, laws_FnExactRunSession.j2, Option.bind_some]))
  · simp only [laws_FnExactRunSession.f]
    repeat (first
      | exact Ev.now _
      | with_reducible refine ev_bind (by with_reducible assumption) ?_
      | simp only [*, Option.bind_some, bne_self_eq_false, ↓reduceIte, Bool.false_eq_true, gt_iff_lt]
      | (refine ev_up ?_; simp only [laws_FnExactRunSession.j0, laws_FnExactRunSession.j1, laws_FnExactRunSession.j2, Option.bind_some]))

end Go.Proofs.Ytkkgjljcgnegpaa.Pure
