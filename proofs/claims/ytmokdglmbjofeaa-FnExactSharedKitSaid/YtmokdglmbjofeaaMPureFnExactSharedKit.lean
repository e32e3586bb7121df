/- The law FnExactSharedKit of plain lists and numbers: whatever the input, it answers true. Condition: the lengths are those of rows that fit a machine. -/
import Derived.Test.YtmokdglmbjofeaaMFnExactSharedKit1
namespace Go.Proofs.Ytmokdglmbjofeaa.Pure
open Go.RowKit Go.Proofs.Ytmokdglmbjofeaa.Pall Go.Proofs.YtmokdglmbjofeaaW.PrintWords Go.Proofs.YtmokdglmbjofeaaW.PrintLast Go.Proofs.YtmokdglmbjofeaaW.PrintMore
set_option linter.unusedVariables false
set_option linter.unusedSimpArgs false

/-! ### Ground: rounds, and a row seen as what is behind and what is ahead -/
theorem ev_up {α : Type} {g : Nat → Option α} {r : α} (h : Ev (fun k => g (k + 1)) r) : Ev g r := by
  obtain ⟨K, hK⟩ := h
  refine ⟨K + 1, fun k hk => ?_⟩
  obtain ⟨m, rfl⟩ : ∃ m, k = m + 1 := ⟨k - 1, by omega⟩
  exact hK m (by omega)
theorem ev_eq {α : Type} {g : Nat → Option α} {r r' : α} (h : Ev g r) (e : r = r') : Ev g r' := e ▸ h
theorem ev_bind {α β : Type} {g : Nat → Option α} {f : Nat → α → Option β} {a : α} {r : β} (h : Ev g a) (k : Ev (fun n => f n a) r) : Ev (fun n => (g n).bind (f n)) r := Ev.bind h k
theorem mid_lt {α : Type} (p q : List α) (x : α) : ((p.length : Int) < ((p ++ x :: q).length : Int)) = True := by
  apply eq_true; simp only [List.length_append, List.length_cons]; omega
theorem mid_lt2 {α β : Type} (p : List α) (p' q : List β) (x : β) (h : p.length = p'.length) : ((p.length : Int) < ((p' ++ x :: q).length : Int)) = True := by
  apply eq_true; simp only [List.length_append, List.length_cons]; omega
theorem mid_ge {α : Type} (p : List α) : (0 ≤ (p.length : Int)) = True := by apply eq_true; omega
theorem mid_end {α : Type} (p : List α) : ((p.length : Int) < ((p ++ []).length : Int)) = False := by simp
theorem rd_mid (p q : List Int) (x : Int) : rd (p ++ x :: q) (p.length : Int) = x := by simp [rd]
theorem rd_mid2 {α : Type} (p : List α) (p' q : List Int) (x : Int) (h : p.length = p'.length) : rd (p' ++ x :: q) (p.length : Int) = x := by simp [rd, h]
theorem getD_mid {α : Type} (p q : List α) (x z : α) : (p ++ x :: q).getD ((p.length : Int)).toNat z = x := by simp
theorem set_mid {α : Type} (p q : List α) (x y : α) : (p ++ x :: q).set ((p.length : Int)).toNat y = p ++ y :: q := by simp
theorem set_mid2 {α β : Type} (p : List α) (p' q : List β) (x y : β) (h : p.length = p'.length) : (p' ++ x :: q).set ((p.length : Int)).toNat y = p' ++ y :: q := by simp [h]
theorem wrap_mid {α : Type} (p : List α) (x : α) (h : p.length < 9223372036854775807) : wrap64 ((p.length : Int) + 1) = ((p ++ [x]).length : Int) := by
  unfold wrap64; simp only [List.length_append, List.length_singleton]; omega
theorem step_mid {α : Type} (p q : List α) (x : α) : p ++ x :: q = (p ++ [x]) ++ q := by simp
theorem wrap_id {x : Int} (h0 : -9223372036854775808 ≤ x) (h1 : x ≤ 9223372036854775807) : wrap64 x = x := by unfold wrap64; omega
theorem laws_eqIntS_l0 : ∀ (q p : List Int), (p ++ q).length < 9223372036854775807 → Ev (fun k => laws_eqIntS.l0 k (p ++ q) (p ++ q) (p.length : Int)) true
  | [], p, h => by
    refine ev_up ?_
    simp only [laws_eqIntS.l0, mid_end, ↓reduceIte]
    exact Ev.now _
  | x :: q, p, h => by
    have hp : p.length < 9223372036854775807 := by simp only [List.length_append, List.length_cons] at h; omega
    refine ev_up ?_
    simp only [laws_eqIntS.l0, mid_lt, mid_ge, rd_mid, wrap_mid p x hp, ↓reduceIte]
    rw [step_mid p q x] at h ⊢
    exact laws_eqIntS_l0 q (p ++ [x]) h
theorem laws_eqIntS_ev (l : List Int) (h : l.length < 9223372036854775807) : Ev (fun k => laws_eqIntS.f k l l) true := by
  simp only [laws_eqIntS.f, ↓reduceIte]
  simpa using laws_eqIntS_l0 l [] (by simpa using h)
theorem laws_markIntS_l0 : ∀ (q p : List Int) (m : Int), (p ++ q).length < 1000000000000000 → 0 ≤ m → m + q.length ≤ 1000000000000000 → ∃ q', q'.length = q.length ∧ Ev (fun k => laws_markIntS.l0 k (p ++ q) m (p.length : Int)) (m + q.length, p ++ q') ∧ Ev (fun k => laws_heldIntS.l0 k (p ++ q') m (p.length : Int)) (m + q.length)
  | [], p, m, h, h0, h1 => by
    refine ⟨[], rfl, ev_up ?_, ev_up ?_⟩
    · simp only [laws_markIntS.l0, mid_end, ↓reduceIte]
      exact ev_eq (Ev.now _) (by simp)
    · simp only [laws_heldIntS.l0, mid_end, ↓reduceIte]
      exact ev_eq (Ev.now _) (by simp)
  | x :: q, p, m, h, h0, h1 => by
    have hp : p.length < 9223372036854775807 := by simp only [List.length_append, List.length_cons] at h; omega
    have hm : wrap64 (m + 1) = m + 1 := wrap_id (by omega) (by simp only [List.length_cons] at h1; omega)
    obtain ⟨q', hl, hA, hB⟩ := laws_markIntS_l0 q (p ++ [m]) (m + 1) (by simp only [List.length_append, List.length_cons, List.length_nil] at h ⊢; omega) (by omega) (by simp only [List.length_cons] at h1; omega)
    have e : (m + 1) + (q.length : Int) = m + ((x :: q).length : Int) := by simp only [List.length_cons]; omega
    rw [e] at hA hB
    refine ⟨m :: q', by simp [hl], ev_up ?_, ev_up ?_⟩
    · simp only [laws_markIntS.l0, mid_lt, mid_ge, set_mid, wrap_mid p m hp, hm, ↓reduceIte]
      rw [step_mid p q m, step_mid p q' m]
      exact hA
    · simp only [laws_heldIntS.l0, mid_lt, mid_ge, rd_mid, wrap_mid p m hp, hm, ↓reduceIte]
      rw [step_mid p q' m]
      exact hB
/-- What is marked is held, and anew so. -/
theorem laws_markIntS_ev (l : List Int) (m : Int) (h : l.length < 1000000000000000) (h0 : 0 ≤ m) (h1 : m + l.length ≤ 1000000000000000) : ∃ l', l'.length = l.length ∧ Ev (fun k => laws_markIntS.f k l m) (m + l.length, l') ∧ Ev (fun k => laws_heldIntS.f k l' m) (m + l.length) := by
  obtain ⟨q', hl, hA, hB⟩ := laws_markIntS_l0 l [] m (by simpa using h) h0 h1
  exact ⟨q', hl, by simpa [laws_markIntS.f] using hA, by simpa [laws_heldIntS.f] using hB⟩
theorem l1In_eq (a lo hi : Int) : spec_l1In.f a lo hi = some (decide (lo ≤ a ∧ a ≤ hi)) := by
  by_cases h : lo ≤ a <;> simp [spec_l1In.f, h]
theorem l1Most_eq (a b : Int) : spec_l1Most.f a b = some (mx a b) := by
  unfold spec_l1Most.f mx; split <;> split <;> first | rfl | (congr 1; omega)
theorem eqCell_self (a0 a1 : Int) : laws_eqCell.f a0 a1 a0 a1 = some true := by simp [laws_eqCell.f]
theorem laws_eqCellS_l0 : ∀ (q p : List S71), (p ++ q).length < 9223372036854775807 → Ev (fun k => laws_eqCellS.l0 k (p ++ q) (p ++ q) (p.length : Int)) true
  | [], p, h => by
    refine ev_up ?_
    simp only [laws_eqCellS.l0, mid_end, ↓reduceIte]
    exact Ev.now _
  | x :: q, p, h => by
    have hp : p.length < 9223372036854775807 := by simp only [List.length_append, List.length_cons] at h; omega
    refine ev_up ?_
    simp only [laws_eqCellS.l0, eqCell_self, Option.bind_some, rd_T71, mid_lt, mid_ge, getD_mid, wrap_mid p x hp, ↓reduceIte]
    rw [step_mid p q x] at h ⊢
    exact laws_eqCellS_l0 q (p ++ [x]) h
theorem laws_eqCellS_ev (l : List S71) (h : l.length < 9223372036854775807) : Ev (fun k => laws_eqCellS.f k l l) true := by
  simp only [laws_eqCellS.f, ↓reduceIte]
  simpa using laws_eqCellS_l0 l [] (by simpa using h)
theorem laws_markCellS_o : ∀ (q p : List S71) (m : Int), (p ++ q).length < 1000000000000000 → 0 ≤ m → m + 2 * q.length ≤ 1000000000000000 → ∃ q', Ev (fun k => laws_markCellS.l0 k (p ++ q) m (p.length : Int)) (m + 2 * q.length, q')
  | [], p, m, h, h0, h1 => by
    refine ⟨p, ev_up ?_⟩
    simp only [laws_markCellS.l0, mid_end, ↓reduceIte]
    exact ev_eq (Ev.now _) (by simp)
  | x :: q, p, m, h, h0, h1 => by
    have hp : p.length < 9223372036854775807 := by simp only [List.length_append, List.length_cons] at h; omega
    have hm1 : wrap64 (m + 1) = m + 1 := by rw [wrap_id (by omega) (by simp only [List.length_cons] at h1; omega)]
    have hm2 : wrap64 (m + 1 + 1) = m + 2 := by rw [wrap_id (by omega) (by simp only [List.length_cons] at h1; omega)]; omega
    obtain ⟨q', hA⟩ := laws_markCellS_o q (p ++ [⟨m, m + 1⟩]) (m + 2) (by simp only [List.length_append, List.length_cons, List.length_nil] at h ⊢; omega) (by omega) (by simp only [List.length_cons] at h1; omega)
    have e : (m + 2) + 2 * (q.length : Int) = m + 2 * ((x :: q).length : Int) := by simp only [List.length_cons]; omega
    rw [e] at hA
    refine ⟨q', ev_up ?_⟩
    simp only [laws_markCellS.l0, rd_T71, mid_lt, mid_ge, set_mid, getD_mid, Option.bind_some, hm1, hm2, wrap_mid p (⟨m, m + 1⟩ : S71) hp, ↓reduceIte]
    rw [step_mid p q]
    exact hA
theorem laws_markCellS_only (l : List S71) (m : Int) (h : l.length < 100000000000000) (h0 : 0 ≤ m) (h1 : m ≤ 100000000000000) : ∃ m' l', 0 ≤ m' ∧ m' = m + 2 * l.length ∧ Ev (fun k => laws_markCellS.f k l m) (m', l') := by
  obtain ⟨q', hA⟩ := laws_markCellS_o l [] m (by simp; omega) (by omega) (by omega)
  exact ⟨m + 2 * l.length, q', by omega, rfl, by simpa [laws_markCellS.f] using hA⟩
def toCell (x : S77) : S71 := ⟨x.f0, x.f1⟩
theorem laws_toCellS_l0 : ∀ (q p : List S77), (p ++ q).length < 9223372036854775807 → Ev (fun k => laws_toCellS.l0 k (p ++ q) (p.map toCell ++ List.replicate q.length z71) (p.length : Int)) ((p ++ q).map toCell)
  | [], p, h => by
    refine ev_up ?_
    simp only [laws_toCellS.l0, mid_end, ↓reduceIte]
    exact ev_eq (Ev.now _) (by simp)
  | x :: q, p, h => by
    have hp : p.length < 9223372036854775807 := by simp only [List.length_append, List.length_cons] at h; omega
    have hl : p.length = (p.map toCell).length := by simp
    refine ev_up ?_
    simp only [laws_toCellS.l0, laws_toCell.f, Option.bind_some, rd_T77, List.length_cons, List.replicate_succ, mid_lt, mid_lt2 p _ _ _ hl, mid_ge, getD_mid, set_mid2 p _ _ _ _ hl, wrap_mid p x hp, ↓reduceIte]
    rw [step_mid p q x] at h ⊢
    have e : p.map toCell ++ (⟨x.f0, x.f1⟩ : S71) :: List.replicate q.length z71 = (p ++ [x]).map toCell ++ List.replicate q.length z71 := by simp [toCell]
    rw [e]
    exact laws_toCellS_l0 q (p ++ [x]) h
theorem laws_toCellS_ev (l : List S77) (h : l.length ≤ 1048576) : Ev (fun k => laws_toCellS.f k l) (l.map toCell) := by
  have h0 : (0 ≤ (l.length : Int)) = True := by apply eq_true; omega
  have h1 : (((l.length : Int) : Int).toNat ≤ 17592186044416) = True := by apply eq_true; omega
  simp only [laws_toCellS.f, h0, h1, ↓reduceIte]
  simpa using laws_toCellS_l0 l [] (by simp; omega)
theorem szCellS_eq (l : List S77) (n : Int) (h : l.length ≤ 9223372036854775807) (h0 : 0 ≤ n) (h1 : n ≤ 1048576) : laws_szCellS.f l n = some (if (l.length : Int) ≤ n then n - (l.length : Int) else -1) := by
  have hw : wrap64 (n - (l.length : Int)) = n - (l.length : Int) := wrap_id (by omega) (by omega)
  unfold laws_szCellS.f
  rw [hw]
  by_cases hl : (l.length : Int) ≤ n
  · rw [if_neg (by omega), if_pos hl]
  · rw [if_pos (by omega), if_neg hl]
def okCell (c : S71) : Bool := decide (0 ≤ c.f0 ∧ c.f0 ≤ 7 ∧ (c.f1 = 0 ∨ (c.f1 = 1 ∧ (c.f0 = 3 ∨ c.f0 = 6))))
def goodBoard (r c : Int) (l : List S71) : Bool := decide (1 ≤ r ∧ r ≤ 10 ∧ 1 ≤ c ∧ c ≤ 9 ∧ (l.length : Int) = r * c) && l.all okCell
theorem size_le {r c : Int} (h1 : 1 ≤ r) (h2 : r ≤ 10) (h3 : 1 ≤ c) (h4 : c ≤ 9) : 0 ≤ r * c ∧ r * c ≤ 90 :=
  ⟨Int.mul_nonneg (by omega) (by omega), Int.le_trans (Int.mul_le_mul h2 h4 (by omega) (by omega)) (by omega)⟩
theorem goodBoard_len {r c : Int} {l : List S71} (h : goodBoard r c l = true) : l.length ≤ 90 := by
  unfold goodBoard at h
  simp only [Bool.and_eq_true, decide_eq_true_eq] at h
  have := size_le h.1.1 h.1.2.1 h.1.2.2.1 h.1.2.2.2.1
  omega
theorem goodBoard_ok {r c : Int} {l : List S71} (h : goodBoard r c l = true) : ∀ x ∈ l, okCell x = true := by
  unfold goodBoard at h
  simp only [Bool.and_eq_true, List.all_eq_true] at h
  exact h.2
theorem okCell_kind {x : S71} (h : okCell x = true) : 0 ≤ x.f0 ∧ x.f0 ≤ 7 := by
  unfold okCell at h; simp only [decide_eq_true_eq] at h; omega
theorem paGood_eq (a b : Int) : spec_paGood.f a b = some (okCell ⟨a, b⟩) := by
  simp only [spec_paGood.f, spec_paTurning.f, okCell, l1In_eq, Option.bind_some]
  repeat' split
  all_goals
    simp only [Option.bind_some, Option.some.injEq]
    rw [Bool.eq_iff_iff]
    simp_all
    try omega
theorem IsCell_eq (a b : Int) : impl_IsCell.f a b = some (okCell ⟨a, b⟩) := by
  simp only [impl_IsCell.f, okCell]
  repeat' split
  all_goals
    simp only [Option.some.injEq]
    rw [Bool.eq_iff_iff]
    simp_all
    try omega
theorem impl_validCells_l0 : ∀ (q p : List S71), (p ++ q).length < 9223372036854775807 → Ev (fun k => impl_validCells.l0 k (p ++ q) ((p ++ q).length : Int) (p.length : Int)) (q.all okCell)
  | [], p, h => by
    refine ev_up ?_
    simp only [impl_validCells.l0, mid_end, ↓reduceIte]
    exact Ev.now _
  | x :: q, p, h => by
    have hp : p.length < 9223372036854775807 := by simp only [List.length_append, List.length_cons] at h; omega
    refine ev_up ?_
    simp only [impl_validCells.l0, IsCell_eq, Option.bind_some, rd_T71, mid_lt, mid_ge, getD_mid, wrap_mid p x hp, ↓reduceIte, List.all_cons]
    cases okCell x with
    | false => simpa using Ev.now _
    | true =>
      simp only [↓reduceIte, Bool.true_and]
      rw [step_mid p q x] at h ⊢
      exact impl_validCells_l0 q (p ++ [x]) h
theorem impl_validCells_ev (l : List S71) (h : l.length ≤ 90) : Ev (fun k => impl_validCells.f k l) (l.all okCell) := by
  have : ¬ ((l.length : Int) > 90) := by omega
  simp only [impl_validCells.f, this, ↓reduceIte]
  simpa using impl_validCells_l0 l [] (by simp; omega)
theorem impl_IsBoard_ev (r c : Int) (l : List S71) : Ev (fun k => impl_IsBoard.f k r c l) (goodBoard r c l) := by
  by_cases h : 1 ≤ r ∧ r ≤ 10 ∧ 1 ≤ c ∧ c ≤ 9
  · obtain ⟨h1, h2, h3, h4⟩ := h
    have hs := size_le h1 h2 h3 h4
    have hw : wrap64 (r * c) = r * c := wrap_id (by omega) (by omega)
    by_cases hl : (l.length : Int) = r * c
    · have hg : goodBoard r c l = l.all okCell := by simp [goodBoard, h1, h2, h3, h4, hl]
      simp only [impl_IsBoard.f, hw, hl, ge_iff_le, h1, h2, h3, h4, ↓reduceIte, hg]
      exact ev_bind (impl_validCells_ev l (by omega)) (Ev.now _)
    · have hg : goodBoard r c l = false := by simp [goodBoard, hl]
      simp only [impl_IsBoard.f, hw, hl, ge_iff_le, h1, h2, h3, h4, ↓reduceIte, hg]
      exact Ev.now _
  · have hg : goodBoard r c l = false := by
      unfold goodBoard
      have : ¬ (1 ≤ r ∧ r ≤ 10 ∧ 1 ≤ c ∧ c ≤ 9 ∧ (l.length : Int) = r * c) := fun h' => h ⟨h'.1, h'.2.1, h'.2.2.1, h'.2.2.2.1⟩
      simp [this]
    rw [hg]
    simp only [impl_IsBoard.f, ge_iff_le]
    by_cases h1 : 1 ≤ r
    · by_cases h2 : r ≤ 10
      · by_cases h3 : 1 ≤ c
        · have h4 : ¬ c ≤ 9 := fun h4 => h ⟨h1, h2, h3, h4⟩
          simp only [h1, h2, h3, h4, ↓reduceIte]; exact Ev.now _
        · simp only [h1, h2, h3, ↓reduceIte]; exact Ev.now _
      · simp only [h1, h2, ↓reduceIte]; exact Ev.now _
    · simp only [h1, ↓reduceIte]; exact Ev.now _
theorem spec_boGood_l0 : ∀ (q p : List S71), (p ++ q).length < 9223372036854775807 → Ev (fun k => spec_boGood.l0 k (p ++ q) ((p ++ q).length : Int) (p.length : Int)) (q.all okCell)
  | [], p, h => by
    refine ev_up ?_
    simp only [spec_boGood.l0, mid_end, ↓reduceIte]
    exact Ev.now _
  | x :: q, p, h => by
    have hp : p.length < 9223372036854775807 := by simp only [List.length_append, List.length_cons] at h; omega
    refine ev_up ?_
    simp only [spec_boGood.l0, paGood_eq, Option.bind_some, rd_T71, mid_lt, mid_ge, getD_mid, wrap_mid p x hp, ↓reduceIte, List.all_cons]
    cases okCell x with
    | false => simpa using Ev.now _
    | true =>
      simp only [↓reduceIte, Bool.true_and]
      rw [step_mid p q x] at h ⊢
      exact spec_boGood_l0 q (p ++ [x]) h
theorem spec_boGood_ev (r c : Int) (l : List S71) : Ev (fun k => spec_boGood.f k r c l) (goodBoard r c l) := by
  have fin : Ev (fun k => spec_boGood.j0 k true r c l) false := by
    refine ev_up ?_
    simp only [spec_boGood.j0, ↓reduceIte]
    exact Ev.now _
  simp only [spec_boGood.f, l1In_eq, Option.bind_some]
  by_cases hr : 1 ≤ r ∧ r ≤ 10
  · by_cases hc : 1 ≤ c ∧ c ≤ 9
    · have hs := size_le hr.1 hr.2 hc.1 hc.2
      have hw : wrap64 (r * c) = r * c := wrap_id (by omega) (by omega)
      by_cases hl : (l.length : Int) = r * c
      · have hg : goodBoard r c l = l.all okCell := by simp [goodBoard, hr, hc, hl]
        simp only [hr, hc, hw, hl, hg, and_self, decide_true, ↓reduceIte, bne_self_eq_false]
        refine ev_up ?_
        simp only [spec_boGood.j0, ↓reduceIte, Bool.false_eq_true]
        have := spec_boGood_l0 l [] (by simp; omega)
        simpa using this
      · have hg : goodBoard r c l = false := by simp [goodBoard, hl]
        have hb : ((l.length : Int) != r * c) = true := by simpa using hl
        simp only [hr, hc, hw, hb, hg, and_self, decide_true, ↓reduceIte]
        exact fin
    · have hg : goodBoard r c l = false := by
        unfold goodBoard
        have : ¬ (1 ≤ r ∧ r ≤ 10 ∧ 1 ≤ c ∧ c ≤ 9 ∧ (l.length : Int) = r * c) := fun h' => hc ⟨h'.2.2.1, h'.2.2.2.1⟩
        simp [this]
      simp only [hr, hc, hg, and_self, decide_true, decide_false, ↓reduceIte, Bool.false_eq_true]
      exact fin
  · have hg : goodBoard r c l = false := by
      unfold goodBoard
      have : ¬ (1 ≤ r ∧ r ≤ 10 ∧ 1 ≤ c ∧ c ≤ 9 ∧ (l.length : Int) = r * c) := fun h' => hr ⟨h'.1, h'.2.1⟩
      simp [this]
    simp only [hr, hg, decide_false, ↓reduceIte, Bool.false_eq_true]
    exact fin
/-- The cells of each kind. -/
def cnt (v : List Int) : List S71 → List Int
  | [] => v
  | x :: q => cnt (v.set x.f0.toNat (wrap64 (rd v x.f0 + 1))) q
theorem cnt_len : ∀ (q : List S71) (v : List Int), (cnt v q).length = v.length
  | [], v => rfl
  | x :: q, v => by rw [cnt, cnt_len q]; simp
def need (l : List S71) : List Int := (cnt (List.replicate 8 0) l).drop 1
theorem need_len (l : List S71) : (need l).length = 7 := by simp [need, cnt_len]
theorem spec_boParts_l0 : ∀ (q p : List S71) (v : List Int), (p ++ q).length < 9223372036854775807 → v.length = 8 → (∀ r ∈ q, okCell r = true) → Ev (fun k => spec_boParts.l0 k v (p ++ q) ((p ++ q).length : Int) (p.length : Int)) (cnt v q)
  | [], p, v, h, hv, ho => by
    refine ev_up ?_
    simp only [spec_boParts.l0, mid_end, ↓reduceIte, cnt]
    exact Ev.now _
  | x :: q, p, v, h, hv, ho => by
    have hp : p.length < 9223372036854775807 := by simp only [List.length_append, List.length_cons] at h; omega
    obtain ⟨k0, k7⟩ := okCell_kind (ho x List.mem_cons_self)
    have hk : (x.f0 < (v.length : Int)) = True := by apply eq_true; omega
    refine ev_up ?_
    simp only [spec_boParts.l0, rd_T71, mid_lt, mid_ge, getD_mid, wrap_mid p x hp, k0, hk, ↓reduceIte, cnt]
    rw [step_mid p q x] at h ⊢
    exact spec_boParts_l0 q (p ++ [x]) _ h (by simp [hv]) (fun r hr => ho r (List.mem_cons_of_mem _ hr))
theorem spec_boParts_ev (r c : Int) (l : List S71) (h : l.length ≤ 90) (ho : ∀ x ∈ l, okCell x = true) : Ev (fun k => spec_boParts.f k r c l) (cnt (List.replicate 8 0) l) := by
  simpa [spec_boParts.f] using spec_boParts_l0 l [] (List.replicate 8 0) (by simp; omega) (by simp) ho
theorem spec_kiOf_ev (r c : Int) (l : List S71) (h : goodBoard r c l = true) : Ev (fun k => spec_kiOf.f k r c l) (need l) := by
  simp only [spec_kiOf.f]
  refine ev_bind (spec_boParts_ev r c l (goodBoard_len h) (goodBoard_ok h)) ?_
  have : (1 ≤ ((cnt (List.replicate 8 0) l).length : Int)) = True := by apply eq_true; rw [cnt_len]; simp
  simp only [this, ↓reduceIte]
  exact Ev.now _
theorem impl_CountKinds_l0 : ∀ (q p : List S71) (v : List Int), (p ++ q).length < 9223372036854775807 → v.length = 8 → (∀ r ∈ q, okCell r = true) → Ev (fun k => impl_CountKinds.l0 k v (p ++ q) ((p ++ q).length : Int) (p.length : Int)) (cnt v q, true)
  | [], p, v, h, hv, ho => by
    refine ev_up ?_
    simp only [impl_CountKinds.l0, mid_end, ↓reduceIte, cnt]
    exact Ev.now _
  | x :: q, p, v, h, hv, ho => by
    have hp : p.length < 9223372036854775807 := by simp only [List.length_append, List.length_cons] at h; omega
    obtain ⟨k0, k7⟩ := okCell_kind (ho x List.mem_cons_self)
    have hk : (x.f0 < (v.length : Int)) = True := by apply eq_true; omega
    refine ev_up ?_
    simp only [impl_CountKinds.l0, rd_T71, mid_lt, mid_ge, getD_mid, wrap_mid p x hp, k0, hk, ↓reduceIte, cnt]
    rw [step_mid p q x] at h ⊢
    exact impl_CountKinds_l0 q (p ++ [x]) _ h (by simp [hv]) (fun r hr => ho r (List.mem_cons_of_mem _ hr))
theorem impl_CountKinds_ev (l : List S71) (h : l.length ≤ 90) (ho : ∀ x ∈ l, okCell x = true) : Ev (fun k => impl_CountKinds.f k l) (cnt (List.replicate 8 0) l, true) := by
  simp only [impl_CountKinds.f]
  have ha : l.all okCell = true := by rw [List.all_eq_true]; exact ho
  refine ev_bind (impl_validCells_ev l h) ?_
  rw [ha]
  simpa using impl_CountKinds_l0 l [] (List.replicate 8 0) (by simp; omega) (by simp) ho
theorem impl_neededParts_ev (r c : Int) (l : List S71) (h : goodBoard r c l = true) : Ev (fun k => impl_neededParts.f k r c l) (need l) := by
  simp only [impl_neededParts.f]
  refine ev_bind (impl_CountKinds_ev l (goodBoard_len h) (goodBoard_ok h)) ?_
  have h1 : (1 ≤ ((cnt (List.replicate 8 0) l).length : Int)) = True := by apply eq_true; rw [cnt_len]; simp
  have h2 : (([] : List Int).length + ((cnt (List.replicate 8 0) l).drop 1).length < 17592186044416) = True := by apply eq_true; simp [cnt_len]
  simp only [h1, h2, Option.bind_some, List.nil_append, ↓reduceIte]
  exact Ev.now _
theorem laws_toBoard_ev (a b : Int) (l : List S77) (h : l.length ≤ 1048576) : Ev (fun k => laws_toBoard.f k a b l) (a, b, l.map toCell) := by
  simp only [laws_toBoard.f]
  exact ev_bind (laws_toCellS_ev l h) (Ev.now _)
theorem laws_eqBoard_ev (a b : Int) (l : List S71) (h : l.length < 9223372036854775807) : Ev (fun k => laws_eqBoard.f k a b l a b l) true := by
  simp only [laws_eqBoard.f, ↓reduceIte]
  refine ev_bind (laws_eqCellS_ev l h) ?_
  simpa using Ev.now _
theorem szBoard_eq (a b : Int) (l : List S77) (n : Int) (h : l.length ≤ 9223372036854775807) (h0 : 0 ≤ n) (h1 : n ≤ 1048576) : laws_szBoard.f a b l n = some (if (l.length : Int) ≤ n then n - (l.length : Int) else -1) := by
  simp only [laws_szBoard.f, szCellS_eq l n h h0 h1, Option.bind_some]
  split
  · rw [if_neg (by omega)]
  · rw [if_pos (by omega)]
def totB : List S47 → Nat
  | [] => 0
  | x :: q => x.f2.length + totB q
theorem totB_mem : ∀ (l : List S47), ∀ x ∈ l, x.f2.length ≤ totB l
  | y :: q, x, h => by
    rcases List.mem_cons.1 h with rfl | h
    · simp only [totB]; omega
    · have := totB_mem q x h; simp only [totB]; omega
theorem laws_szBoardS_l0 : ∀ (q p : List S47) (n : Int), (p ++ q).length < 9223372036854775807 → 0 ≤ n → n ≤ 1048576 → (∀ x ∈ q, x.f2.length ≤ maxLen) → ((totB q : Int) ≤ n ∧ Ev (fun k => laws_szBoardS.l0 k (p ++ q) n (p.length : Int)) (n - totB q)) ∨ Ev (fun k => laws_szBoardS.l0 k (p ++ q) n (p.length : Int)) (-1)
  | [], p, n, h, h0, h1, hx => by
    refine .inl ⟨by simpa [totB] using h0, ev_up ?_⟩
    simp only [laws_szBoardS.l0, mid_end, ↓reduceIte]
    exact ev_eq (Ev.now _) (by simp [totB])
  | x :: q, p, n, h, h0, h1, hx => by
    have hp : p.length < 9223372036854775807 := by simp only [List.length_append, List.length_cons] at h; omega
    have hm := (show maxLen ≤ 9223372036854775807 by decide)
    have hz := szBoard_eq x.f0 x.f1 x.f2 n (by have := hx x List.mem_cons_self; omega) h0 h1
    by_cases hb : (x.f2.length : Int) ≤ n
    · rw [if_pos hb] at hz
      have hneg : (n - (x.f2.length : Int) < 0) = False := by apply eq_false; omega
      have e : p ++ x :: q = (p ++ [x]) ++ q := step_mid p q x
      rcases laws_szBoardS_l0 q (p ++ [x]) (n - x.f2.length) (by rw [← e]; exact h) (by omega) (by omega) (fun y hy => hx y (List.mem_cons_of_mem _ hy)) with ⟨ha, hE⟩ | hE
      · refine .inl ⟨by simp only [totB]; omega, ev_up ?_⟩
        simp only [laws_szBoardS.l0, rd_T47, mid_lt, mid_ge, getD_mid, hz, Option.bind_some, hneg, wrap_mid p x hp, ↓reduceIte]
        rw [step_mid p q x]
        exact ev_eq hE (by simp only [totB]; omega)
      · refine .inr (ev_up ?_)
        simp only [laws_szBoardS.l0, rd_T47, mid_lt, mid_ge, getD_mid, hz, Option.bind_some, hneg, wrap_mid p x hp, ↓reduceIte]
        rw [step_mid p q x]
        exact hE
    · rw [if_neg hb] at hz
      refine .inr (ev_up ?_)
      simp only [laws_szBoardS.l0, rd_T47, mid_lt, mid_ge, getD_mid, hz, Option.bind_some, ↓reduceIte, Int.reduceNeg, Int.reduceLT]
      exact Ev.now _
theorem laws_szBoardS_ev (l : List S47) (h : l.length ≤ maxLen) (hx : ∀ x ∈ l, x.f2.length ≤ maxLen) : (∃ r : Int, 0 ≤ r ∧ l.length ≤ 1048576 ∧ totB l ≤ 1048576 ∧ Ev (fun k => laws_szBoardS.f k l 1048576) r) ∨ Ev (fun k => laws_szBoardS.f k l 1048576) (-1) := by
  have hm := (show maxLen ≤ 9223372036854775807 by decide)
  have hw : wrap64 (1048576 - (l.length : Int)) = 1048576 - (l.length : Int) := wrap_id (by omega) (by omega)
  simp only [laws_szBoardS.f, hw]
  by_cases hl : l.length ≤ 1048576
  · have hn : (1048576 - (l.length : Int) < 0) = False := by apply eq_false; omega
    rcases laws_szBoardS_l0 l [] (1048576 - (l.length : Int)) (by simpa using (by omega : l.length < 9223372036854775807)) (by omega) (by omega) hx with ⟨ha, hE⟩ | hE
    · exact .inl ⟨1048576 - (l.length : Int) - totB l, by omega, hl, by omega, by simpa [hn] using hE⟩
    · exact .inr (by simpa [hn] using hE)
  · have hn : (1048576 - (l.length : Int) < 0) = True := by apply eq_true; omega
    exact .inr (by simp only [hn, ↓reduceIte]; exact Ev.now _)
def toBoard (x : S47) : S51 := ⟨x.f0, x.f1, x.f2.map toCell⟩
theorem laws_toBoardS_l0 : ∀ (q p : List S47), (p ++ q).length < 9223372036854775807 → (∀ x ∈ q, x.f2.length ≤ 1048576) → Ev (fun k => laws_toBoardS.l0 k (p ++ q) (p.map toBoard ++ List.replicate q.length z51) (p.length : Int)) ((p ++ q).map toBoard)
  | [], p, h, hx => by
    refine ev_up ?_
    simp only [laws_toBoardS.l0, mid_end, ↓reduceIte]
    exact ev_eq (Ev.now _) (by simp)
  | x :: q, p, h, hx => by
    have hp : p.length < 9223372036854775807 := by simp only [List.length_append, List.length_cons] at h; omega
    have hl : ((p.length : Int) < ((p.map toBoard ++ List.replicate (x :: q).length z51).length : Int)) = True := by apply eq_true; simp only [List.length_append, List.length_map, List.length_replicate, List.length_cons]; omega
    refine ev_up ?_
    simp only [laws_toBoardS.l0, rd_T47, mid_lt, mid_ge, getD_mid, hl, wrap_mid p x hp, ↓reduceIte]
    refine ev_bind (laws_toBoard_ev x.f0 x.f1 x.f2 (hx x List.mem_cons_self)) ?_
    have e : (p.map toBoard ++ List.replicate (x :: q).length z51).set ((p.length : Int)).toNat ⟨x.f0, x.f1, x.f2.map toCell⟩ = (p ++ [x]).map toBoard ++ List.replicate q.length z51 := by
      rw [List.length_cons, List.replicate_succ]
      rw [set_mid2 p (p.map toBoard) (List.replicate q.length z51) z51 _ (by simp)]
      simp [toBoard]
    simp only [e]
    rw [step_mid p q x] at h ⊢
    exact laws_toBoardS_l0 q (p ++ [x]) h (fun y hy => hx y (List.mem_cons_of_mem _ hy))
theorem laws_toBoardS_ev (l : List S47) (h : l.length ≤ 1048576) (hx : ∀ x ∈ l, x.f2.length ≤ 1048576) : Ev (fun k => laws_toBoardS.f k l) (l.map toBoard) := by
  have h1 : (0 ≤ (l.length : Int)) = True := by apply eq_true; omega
  have h2 : ((l.length : Int).toNat ≤ 7036874417766) = True := by apply eq_true; omega
  simp only [laws_toBoardS.f, h1, h2, ↓reduceIte]
  simpa using laws_toBoardS_l0 l [] (by simp; omega) hx
theorem laws_eqBoardS_l0 : ∀ (q p : List S51), (p ++ q).length < 9223372036854775807 → (∀ x ∈ q, x.f2.length < 9223372036854775807) → Ev (fun k => laws_eqBoardS.l0 k (p ++ q) (p ++ q) (p.length : Int)) true
  | [], p, h, hx => by
    refine ev_up ?_
    simp only [laws_eqBoardS.l0, mid_end, ↓reduceIte]
    exact Ev.now _
  | x :: q, p, h, hx => by
    have hp : p.length < 9223372036854775807 := by simp only [List.length_append, List.length_cons] at h; omega
    refine ev_up ?_
    simp only [laws_eqBoardS.l0, rd_T51, mid_lt, mid_ge, getD_mid, wrap_mid p x hp, ↓reduceIte]
    refine ev_bind (laws_eqBoard_ev x.f0 x.f1 x.f2 (hx x List.mem_cons_self)) ?_
    simp only [↓reduceIte]
    rw [step_mid p q x] at h ⊢
    exact laws_eqBoardS_l0 q (p ++ [x]) h (fun y hy => hx y (List.mem_cons_of_mem _ hy))
theorem laws_eqBoardS_ev (l : List S51) (h : l.length < 9223372036854775807) (hx : ∀ x ∈ l, x.f2.length < 9223372036854775807) : Ev (fun k => laws_eqBoardS.f k l l) true := by
  simp only [laws_eqBoardS.f, ↓reduceIte]
  simpa using laws_eqBoardS_l0 l [] (by simpa using h) hx
def totI : List S51 → Nat
  | [] => 0
  | x :: q => x.f2.length + totI q
theorem laws_markBoardS_l0 : ∀ (q p : List S51) (m : Int), (p ++ q).length < 9223372036854775807 → 0 ≤ m → m + 2 * q.length + 2 * totI q ≤ 100000000000000 → ∃ m', 0 ≤ m' ∧ Ev (fun k => laws_markBoardS.l0 k (p ++ q) m (p.length : Int)) m'
  | [], p, m, h, h0, h1 => by
    refine ⟨m, h0, ev_up ?_⟩
    simp only [laws_markBoardS.l0, mid_end, ↓reduceIte]
    exact Ev.now _
  | x :: q, p, m, h, h0, h1 => by
    have hp : p.length < 9223372036854775807 := by simp only [List.length_append, List.length_cons] at h; omega
    simp only [List.length_cons, totI] at h1
    have hm1 : wrap64 (m + 1) = m + 1 := wrap_id (by omega) (by omega)
    have hm2 : wrap64 (m + 1 + 1) = m + 1 + 1 := wrap_id (by omega) (by omega)
    obtain ⟨m2, l2, g0, g1, hE⟩ := laws_markCellS_only x.f2 (m + 1 + 1) (by omega) (by omega) (by omega)
    obtain ⟨m', hm', hF⟩ := laws_markBoardS_l0 q (p ++ [⟨m, m + 1, l2⟩]) m2 (by simp only [List.length_append, List.length_cons, List.length_nil] at h ⊢; omega) g0 (by omega)
    refine ⟨m', hm', ev_up ?_⟩
    simp only [laws_markBoardS.l0, rd_T51, mid_lt, mid_ge, getD_mid, hm1, hm2, ↓reduceIte]
    refine ev_bind hE ?_
    simp only [set_mid, wrap_mid p x hp]
    rw [step_mid p q]
    simpa using hF
theorem laws_markBoardS_ev (l : List S51) (h : l.length ≤ 1048576) (ht : totI l ≤ 1048576) : ∃ m', 0 ≤ m' ∧ Ev (fun k => laws_markBoardS.f k l 1) m' := by
  obtain ⟨m', h0, hE⟩ := laws_markBoardS_l0 l [] 1 (by simp; omega) (by omega) (by omega)
  exact ⟨m', h0, by simpa [laws_markBoardS.f] using hE⟩
theorem totI_map : ∀ l : List S47, totI (l.map toBoard) = totB l
  | [] => rfl
  | x :: q => by simp only [List.map_cons, totI, totB, totI_map q, toBoard, List.length_map]
def gB (b : S51) : Bool := goodBoard b.f0 b.f1 b.f2
def goodBoards (l : List S51) : Bool := l.all gB && decide (1 ≤ l.length ∧ l.length ≤ 6)
theorem spec_kiBoards_l0 : ∀ (q p : List S51), (p ++ q).length < 9223372036854775807 → Ev (fun k => spec_kiBoards.l0 k (p ++ q) (p ++ q) ((p ++ q).length : Int) (p.length : Int)) (q.all gB && decide (1 ≤ (p ++ q).length ∧ (p ++ q).length ≤ 6))
  | [], p, h => by
    refine ev_up ?_
    simp only [spec_kiBoards.l0, mid_end, l1In_eq, Option.bind_some, ↓reduceIte]
    refine ev_eq (Ev.now _) ?_
    simp only [List.all_nil, Bool.true_and, decide_eq_decide]
    omega
  | x :: q, p, h => by
    have hp : p.length < 9223372036854775807 := by simp only [List.length_append, List.length_cons] at h; omega
    refine ev_up ?_
    simp only [spec_kiBoards.l0, rd_T51, mid_lt, mid_ge, getD_mid, wrap_mid p x hp, ↓reduceIte]
    refine ev_bind (spec_boGood_ev x.f0 x.f1 x.f2) ?_
    cases hg : goodBoard x.f0 x.f1 x.f2 with
    | false => simpa [gB, hg] using Ev.now _
    | true =>
      simp only [↓reduceIte, List.all_cons, gB, hg, Bool.true_and]
      rw [step_mid p q x] at h ⊢
      exact spec_kiBoards_l0 q (p ++ [x]) h
theorem spec_kiBoards_ev (l : List S51) (h : l.length ≤ 1048576) : Ev (fun k => spec_kiBoards.f k l) (goodBoards l) := by
  simpa [spec_kiBoards.f, goodBoards] using spec_kiBoards_l0 l [] (by simp; omega)
theorem impl_areBoards_l0 : ∀ (q p : List S51), (p ++ q).length < 9223372036854775807 → Ev (fun k => impl_areBoards.l0 k (p ++ q) ((p ++ q).length : Int) (p.length : Int)) (q.all gB)
  | [], p, h => by
    refine ev_up ?_
    simp only [impl_areBoards.l0, mid_end, ↓reduceIte]
    exact Ev.now _
  | x :: q, p, h => by
    have hp : p.length < 9223372036854775807 := by simp only [List.length_append, List.length_cons] at h; omega
    refine ev_up ?_
    simp only [impl_areBoards.l0, rd_T51, mid_lt, mid_ge, getD_mid, wrap_mid p x hp, ↓reduceIte]
    refine ev_bind (impl_IsBoard_ev x.f0 x.f1 x.f2) ?_
    cases hg : goodBoard x.f0 x.f1 x.f2 with
    | false => simpa [gB, hg] using Ev.now _
    | true =>
      simp only [↓reduceIte, List.all_cons, gB, hg, Bool.true_and]
      rw [step_mid p q x] at h ⊢
      exact impl_areBoards_l0 q (p ++ [x]) h
theorem impl_areBoards_ev (l : List S51) (h : l.length ≤ 1048576) : Ev (fun k => impl_areBoards.f k l) (goodBoards l) := by
  simp only [impl_areBoards.f]
  by_cases h1 : (l.length : Int) < 1
  · have : goodBoards l = false := by unfold goodBoards; rw [decide_eq_false (by omega), Bool.and_false]
    simp only [h1, ↓reduceIte, this]
    refine ev_up ?_
    simp only [impl_areBoards.j0, ↓reduceIte]
    exact Ev.now _
  · simp only [h1, ↓reduceIte]
    refine ev_up ?_
    by_cases h6 : (l.length : Int) > 6
    · have : goodBoards l = false := by unfold goodBoards; rw [decide_eq_false (by omega), Bool.and_false]
      simp only [impl_areBoards.j0, h6, decide_true, ↓reduceIte, this]
      exact Ev.now _
    · have : goodBoards l = l.all gB := by unfold goodBoards; rw [decide_eq_true (by omega), Bool.and_true]
      simp only [impl_areBoards.j0, h6, decide_false, ↓reduceIte, this, Bool.false_eq_true]
      simpa using impl_areBoards_l0 l [] (by simp; omega)
def plusW (a b : Int) : Int := wrap64 (a + b)
def foldB (f : Int → Int → Int) (v : List Int) : List S51 → List Int
  | [] => v
  | x :: q => foldB f (List.zipWith f v (need x.f2)) q
theorem foldB_len (f : Int → Int → Int) : ∀ (l : List S51) (v : List Int), v.length = 7 → (foldB f v l).length = 7
  | [], v, h => h
  | x :: q, v, h => by
    rw [foldB]
    exact foldB_len f q _ (by simp [h, need_len])
def rFold (f : Int → Int → Int) (l : List S51) : List Int × Bool := if goodBoards l = true then (foldB f (List.replicate 7 0) l, true) else ([], false)
theorem rFold_len (f : Int → Int → Int) (l : List S51) : (rFold f l).1.length ≤ 7 := by
  unfold rFold
  split
  · rw [foldB_len f l _ (by simp)]; omega
  · simp
theorem goodBoards_all {l : List S51} (h : goodBoards l = true) : ∀ x ∈ l, goodBoard x.f0 x.f1 x.f2 = true := by
  unfold goodBoards at h
  simp only [Bool.and_eq_true] at h
  exact List.all_eq_true.1 h.1
theorem spec_SharedKit_l1 (X : List S51) (n i : Int) (r : List Int × Bool) : ∀ (q q' p d : List Int), p.length = d.length → q.length = q'.length → (p ++ q).length ≤ 7 → Ev (fun k => spec_SharedKit.l0 k (d ++ List.zipWith mx q' q) X n (wrap64 (i + 1))) r → Ev (fun k => spec_SharedKit.l1 k (d ++ q') X n i (p ++ q) ((p ++ q).length : Int) (p.length : Int)) r
  | [], [], p, d, h1, h2, h3, hE => by
    refine ev_up ?_
    simp only [spec_SharedKit.l1, mid_end, ↓reduceIte]
    simpa using hE
  | x :: q, x' :: q', p, d, h1, h2, h3, hE => by
    have hp : p.length < 9223372036854775807 := by simp only [List.length_append, List.length_cons] at h3; omega
    have hl : ((p.length : Int) < ((d ++ x' :: q').length : Int)) = True := mid_lt2 p d q' x' h1
    have e : p ++ x :: q = (p ++ [x]) ++ q := step_mid p q x
    refine ev_up ?_
    simp only [spec_SharedKit.l1, mid_lt, mid_ge, rd_mid, hl, rd_mid2 p d q' x' h1, wrap_mid p x hp, l1Most_eq, Option.bind_some, set_mid2 p d q' x' _ h1, ↓reduceIte]
    have hI := spec_SharedKit_l1 X n i r q q' (p ++ [x]) (d ++ [mx x' x]) (by simp [h1]) (by simpa using h2) (by rw [← e]; exact h3) (by simpa using hE)
    rw [← e] at hI
    simpa [plusW] using hI
theorem spec_SharedKit_l0 : ∀ (q p : List S51) (v : List Int), (p ++ q).length < 9223372036854775807 → v.length = 7 → (∀ x ∈ q, goodBoard x.f0 x.f1 x.f2 = true) → Ev (fun k => spec_SharedKit.l0 k v (p ++ q) ((p ++ q).length : Int) (p.length : Int)) (foldB mx v q, true)
  | [], p, v, h, hv, hg => by
    refine ev_up ?_
    simp only [spec_SharedKit.l0, mid_end, ↓reduceIte]
    exact Ev.now _
  | x :: q, p, v, h, hv, hg => by
    have hp : p.length < 9223372036854775807 := by simp only [List.length_append, List.length_cons] at h; omega
    refine ev_up ?_
    simp only [spec_SharedKit.l0, rd_T51, mid_lt, mid_ge, getD_mid, ↓reduceIte]
    refine ev_bind (spec_kiOf_ev x.f0 x.f1 x.f2 (hg x List.mem_cons_self)) ?_
    have hI := spec_SharedKit_l0 q (p ++ [x]) (List.zipWith mx v (need x.f2)) (by rw [← step_mid p q x]; exact h) (by simp [hv, need_len]) (fun y hy => hg y (List.mem_cons_of_mem _ hy))
    rw [← step_mid p q x, ← wrap_mid p x hp] at hI
    have := spec_SharedKit_l1 (p ++ x :: q) ((p ++ x :: q).length : Int) (p.length : Int) (foldB mx v (x :: q), true) (need x.f2) v [] [] rfl (by rw [hv, need_len]) (by simp [need_len]) (by simpa [foldB] using hI)
    simpa using this
theorem spec_SharedKit_ev (l : List S51) (h : l.length ≤ 1048576) : Ev (fun k => spec_SharedKit.f k l) (rFold mx l) := by
  simp only [spec_SharedKit.f]
  refine ev_bind (spec_kiBoards_ev l h) ?_
  unfold rFold
  cases hg : goodBoards l with
  | false => simpa using Ev.now _
  | true =>
    simp only [↓reduceIte, Nat.reduceLeDiff]
    simpa using spec_SharedKit_l0 l [] (List.replicate 7 0) (by simp; omega) (by simp) (goodBoards_all hg)
theorem impl_SharedKit_l1 (X : List S51) (n i : Int) (r : List Int × Bool) : ∀ (q q' p d : List Int), p.length = d.length → q.length = q'.length → (p ++ q).length ≤ 7 → Ev (fun k => impl_SharedKit.l0 k (d ++ List.zipWith mx q' q) X n (wrap64 (i + 1))) r → Ev (fun k => impl_SharedKit.l1 k (d ++ q') X n i (p ++ q) ((p ++ q).length : Int) (p.length : Int)) r
  | [], [], p, d, h1, h2, h3, hE => by
    refine ev_up ?_
    simp only [impl_SharedKit.l1, mid_end, ↓reduceIte]
    simpa using hE
  | x :: q, x' :: q', p, d, h1, h2, h3, hE => by
    have hp : p.length < 9223372036854775807 := by simp only [List.length_append, List.length_cons] at h3; omega
    have hl : ((p.length : Int) < ((d ++ x' :: q').length : Int)) = True := mid_lt2 p d q' x' h1
    have e : p ++ x :: q = (p ++ [x]) ++ q := step_mid p q x
    refine ev_up ?_
    simp only [impl_SharedKit.l1, mid_lt, mid_ge, rd_mid, hl, rd_mid2 p d q' x' h1, wrap_mid p x hp, Option.bind_some, set_mid2 p d q' x' _ h1, ↓reduceIte]
    have hI := impl_SharedKit_l1 X n i r q q' (p ++ [x]) (d ++ [mx x' x]) (by simp [h1]) (by simpa using h2) (by rw [← e]; exact h3) (by simpa using hE)
    rw [← e] at hI
    simpa [plusW] using hI
theorem impl_SharedKit_l0 : ∀ (q p : List S51) (v : List Int), (p ++ q).length < 9223372036854775807 → v.length = 7 → (∀ x ∈ q, goodBoard x.f0 x.f1 x.f2 = true) → Ev (fun k => impl_SharedKit.l0 k v (p ++ q) ((p ++ q).length : Int) (p.length : Int)) (foldB mx v q, true)
  | [], p, v, h, hv, hg => by
    refine ev_up ?_
    simp only [impl_SharedKit.l0, mid_end, ↓reduceIte]
    exact Ev.now _
  | x :: q, p, v, h, hv, hg => by
    have hp : p.length < 9223372036854775807 := by simp only [List.length_append, List.length_cons] at h; omega
    refine ev_up ?_
    simp only [impl_SharedKit.l0, rd_T51, mid_lt, mid_ge, getD_mid, ↓reduceIte]
    refine ev_bind (impl_neededParts_ev x.f0 x.f1 x.f2 (hg x List.mem_cons_self)) ?_
    have hI := impl_SharedKit_l0 q (p ++ [x]) (List.zipWith mx v (need x.f2)) (by rw [← step_mid p q x]; exact h) (by simp [hv, need_len]) (fun y hy => hg y (List.mem_cons_of_mem _ hy))
    rw [← step_mid p q x, ← wrap_mid p x hp] at hI
    have := impl_SharedKit_l1 (p ++ x :: q) ((p ++ x :: q).length : Int) (p.length : Int) (foldB mx v (x :: q), true) (need x.f2) v [] [] rfl (by rw [hv, need_len]) (by simp [need_len]) (by simpa [foldB] using hI)
    simpa using this
theorem impl_SharedKit_ev (l : List S51) (h : l.length ≤ 1048576) : Ev (fun k => impl_SharedKit.f k l) (rFold mx l) := by
  simp only [impl_SharedKit.f]
  refine ev_bind (impl_areBoards_ev l h) ?_
  unfold rFold
  cases hg : goodBoards l with
  | false => simpa using Ev.now _
  | true =>
    simp only [↓reduceIte, Nat.reduceLeDiff]
    simpa using impl_SharedKit_l0 l [] (List.replicate 7 0) (by simp; omega) (by simp) (goodBoards_all hg)
theorem FnExactSharedKit (l : List S47) (wl : l.length ≤ maxLen) (we : ∀ z ∈ l, (Lit.int .i64 z.f0).wf = true ∧ (Lit.int .i64 z.f1).wf = true ∧ z.f2.length ≤ maxLen ∧ ∀ x ∈ z.f2, (Lit.int .i64 x.f0).wf = true ∧ (Lit.int .i64 x.f1).wf = true) : ∃ k, laws_FnExactSharedKit.f k l = some true := by
  refine Ev.rounds (g := fun k => laws_FnExactSharedKit.f k l) ?_
  rcases laws_szBoardS_ev l wl (fun x hx => (we x hx).2.2.1) with ⟨r, hr, hl, ht, SZ⟩ | SZ
  · have hx : ∀ x ∈ l, x.f2.length ≤ 1048576 := fun x hx => by have := totB_mem l x hx; omega
    have hc1 : (r < 0) = False := by apply eq_false; omega
    have TB := laws_toBoardS_ev l hl hx
    have hL : (l.map toBoard).length = l.length := by simp
    have EB := laws_eqBoardS_ev (l.map toBoard) (by omega) (fun y hy => by obtain ⟨x, hxl, rfl⟩ := List.mem_map.1 hy; have := hx x hxl; simp only [toBoard, List.length_map]; omega)
    have S := spec_SharedKit_ev (l.map toBoard) (by omega)
    have I := impl_SharedKit_ev (l.map toBoard) (by omega)
    obtain ⟨m, hm, MB⟩ := laws_markBoardS_ev (l.map toBoard) (by omega) (by rw [totI_map]; exact ht)
    replace hm : (m < 0) = False := by apply eq_false; omega
    have hR := rFold_len mx (l.map toBoard)
    have E2 := laws_eqIntS_ev (rFold mx (l.map toBoard)).1 (by omega)
    obtain ⟨l2, -, M2, N2⟩ := laws_markIntS_ev (rFold mx (l.map toBoard)).1 1 (by omega) (by omega) (by omega)
    have h2 : (1 + ((rFold mx (l.map toBoard)).1.length : Int) < 0) = False := by apply eq_false; omega
    simp only [laws_FnExactSharedKit.f]
    repeat (first
      | exact Ev.now _
      | with_reducible refine ev_bind (by with_reducible assumption) ?_
      | simp only [*, Option.bind_some, bne_self_eq_false, ↓reduceIte, Bool.false_eq_true, gt_iff_lt]
      | (refine ev_up ?_; simp only [laws_FnExactSharedKit.j0, laws_FnExactSharedKit.j1, laws_FnExactSharedKit.j2]))
  · have hc1 : ((-1 : Int) < 0) = True := by apply eq_true; omega
    simp only [laws_FnExactSharedKit.f]
    repeat (first
      | exact Ev.now _
      | with_reducible refine ev_bind (by with_reducible assumption) ?_
      | simp only [hc1, Option.bind_some, ↓reduceIte])

end Go.Proofs.Ytmokdglmbjofeaa.Pure
