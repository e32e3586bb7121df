/- The law FnExactSessionText of plain lists and numbers: whatever the input, it answers true. Condition: the lengths are those of rows that fit a machine. -/
import Derived.Test.YtkkgjljcgnegpaaDoorMFnExactSessionText1
namespace Go.Proofs.YtkkgjljcgnegpaaDoor.Pure
open Go.RowKit Go.Proofs.YtkkgjljcgnegpaaDoor.Pall Go.Proofs.YtkkgjljcgnegpaaDoorW.PrintWords Go.Proofs.YtkkgjljcgnegpaaDoorW.PrintLast Go.Proofs.YtkkgjljcgnegpaaDoorW.PrintMore
set_option linter.unusedVariables false
set_option linter.unusedSimpArgs false

/-! ### Ground: rounds, and a row seen as what is behind and what is ahead -/
theorem ev_up {α : Type} {g : Nat → Option α} {r : α} (h : Ev (fun k => g (k + 1)) r) : Ev g r := by
  obtain ⟨K, hK⟩ := h
  refine ⟨K + 1, fun k hk => ?_⟩
  obtain ⟨m, rfl⟩ : ∃ m, k = m + 1 := ⟨k - 1, by omega⟩
  exact hK m (by omega)
theorem ev_eq {α : Type} {g : Nat → Option α} {r r' : α} (h : Ev g r) (e : r = r') : Ev g r' := e ▸ h
theorem ev_bind {α β : Type} {g : Nat → Option α} {f : Nat → α → Option β} {a : α} {r : β} (h : Ev g a) (k : Ev (fun n => f n a) r) : Ev (fun n => (g n).bind (f n)) r := Ev.bind h k
theorem mid_lt {α : Type} (p q : List α) (x : α) : ((p.length : Int) < ((p ++ x :: q).length : Int)) = True := by
  apply eq_true; simp only [List.length_append, List.length_cons]; omega
theorem mid_lt2 {α β : Type} (p : List α) (p' q : List β) (x : β) (h : p.length = p'.length) : ((p.length : Int) < ((p' ++ x :: q).length : Int)) = True := by
  apply eq_true; simp only [List.length_append, List.length_cons]; omega
theorem mid_ge {α : Type} (p : List α) : (0 ≤ (p.length : Int)) = True := by apply eq_true; omega
theorem mid_end {α : Type} (p : List α) : ((p.length : Int) < ((p ++ []).length : Int)) = False := by simp
theorem getD_mid {α : Type} (p q : List α) (x z : α) : (p ++ x :: q).getD ((p.length : Int)).toNat z = x := by simp
theorem set_mid2 {α β : Type} (p : List α) (p' q : List β) (x y : β) (h : p.length = p'.length) : (p' ++ x :: q).set ((p.length : Int)).toNat y = p' ++ y :: q := by simp [h]
theorem wrap_mid {α : Type} (p : List α) (x : α) (h : p.length < 9223372036854775807) : wrap64 ((p.length : Int) + 1) = ((p ++ [x]).length : Int) := by
  unfold wrap64; simp only [List.length_append, List.length_singleton]; omega
theorem step_mid {α : Type} (p q : List α) (x : α) : p ++ x :: q = (p ++ [x]) ++ q := by simp
theorem wrap_id {x : Int} (h0 : -9223372036854775808 ≤ x) (h1 : x ≤ 9223372036854775807) : wrap64 x = x := by unfold wrap64; omega
theorem l1In_eq (a lo hi : Int) : spec_l1In.f a lo hi = some (decide (lo ≤ a ∧ a ≤ hi)) := by
  by_cases h : lo ≤ a <;> simp [spec_l1In.f, h]
theorem eqCell_self (a0 a1 : Int) : laws_eqCell.f a0 a1 a0 a1 = some true := by simp [laws_eqCell.f]
theorem laws_eqCellS_l0 : ∀ (q p : List S45), (p ++ q).length < 9223372036854775807 → Ev (fun k => laws_eqCellS.l0 k (p ++ q) (p ++ q) (p.length : Int)) true
  | [], p, h => by
    refine ev_up ?_
    simp only [laws_eqCellS.l0, mid_end, ↓reduceIte]
    exact Ev.now _
  | x :: q, p, h => by
    have hp : p.length < 9223372036854775807 := by simp only [List.length_append, List.length_cons] at h; omega
    refine ev_up ?_
    simp only [laws_eqCellS.l0, eqCell_self, Option.bind_some, rd_T45, mid_lt, mid_ge, getD_mid, wrap_mid p x hp, ↓reduceIte]
    rw [step_mid p q x] at h ⊢
    exact laws_eqCellS_l0 q (p ++ [x]) h
theorem laws_eqCellS_ev (l : List S45) (h : l.length < 9223372036854775807) : Ev (fun k => laws_eqCellS.f k l l) true := by
  simp only [laws_eqCellS.f, ↓reduceIte]
  simpa using laws_eqCellS_l0 l [] (by simpa using h)
def toCell (x : S66) : S45 := ⟨x.f0, x.f1⟩
theorem laws_toCellS_l0 : ∀ (q p : List S66), (p ++ q).length < 9223372036854775807 → Ev (fun k => laws_toCellS.l0 k (p ++ q) (p.map toCell ++ List.replicate q.length z45) (p.length : Int)) ((p ++ q).map toCell)
  | [], p, h => by
    refine ev_up ?_
    simp only [laws_toCellS.l0, mid_end, ↓reduceIte]
    exact ev_eq (Ev.now _) (by simp)
  | x :: q, p, h => by
    have hp : p.length < 9223372036854775807 := by simp only [List.length_append, List.length_cons] at h; omega
    have hl : p.length = (p.map toCell).length := by simp
    refine ev_up ?_
    simp only [laws_toCellS.l0, laws_toCell.f, Option.bind_some, rd_T66, List.length_cons, List.replicate_succ, mid_lt, mid_lt2 p _ _ _ hl, mid_ge, getD_mid, set_mid2 p _ _ _ _ hl, wrap_mid p x hp, ↓reduceIte]
    rw [step_mid p q x] at h ⊢
    have e : p.map toCell ++ (⟨x.f0, x.f1⟩ : S45) :: List.replicate q.length z45 = (p ++ [x]).map toCell ++ List.replicate q.length z45 := by simp [toCell]
    rw [e]
    exact laws_toCellS_l0 q (p ++ [x]) h
theorem laws_toCellS_ev (l : List S66) (h : l.length ≤ 1048576) : Ev (fun k => laws_toCellS.f k l) (l.map toCell) := by
  have h0 : (0 ≤ (l.length : Int)) = True := by apply eq_true; omega
  have h1 : (((l.length : Int) : Int).toNat ≤ 17592186044416) = True := by apply eq_true; omega
  simp only [laws_toCellS.f, h0, h1, ↓reduceIte]
  simpa using laws_toCellS_l0 l [] (by simp; omega)
theorem szCellS_eq (l : List S66) (n : Int) (h : l.length ≤ 9223372036854775807) (h0 : 0 ≤ n) (h1 : n ≤ 1048576) : laws_szCellS.f l n = some (if (l.length : Int) ≤ n then n - (l.length : Int) else -1) := by
  have hw : wrap64 (n - (l.length : Int)) = n - (l.length : Int) := wrap_id (by omega) (by omega)
  unfold laws_szCellS.f
  rw [hw]
  by_cases hl : (l.length : Int) ≤ n
  · rw [if_neg (by omega), if_pos hl]
  · rw [if_pos (by omega), if_neg hl]
def okCell (c : S45) : Bool := decide (0 ≤ c.f0 ∧ c.f0 ≤ 7 ∧ (c.f1 = 0 ∨ (c.f1 = 1 ∧ (c.f0 = 3 ∨ c.f0 = 6))))
def goodBoard (r c : Int) (l : List S45) : Bool := decide (1 ≤ r ∧ r ≤ 10 ∧ 1 ≤ c ∧ c ≤ 9 ∧ (l.length : Int) = r * c) && l.all okCell
theorem size_le {r c : Int} (h1 : 1 ≤ r) (h2 : r ≤ 10) (h3 : 1 ≤ c) (h4 : c ≤ 9) : 0 ≤ r * c ∧ r * c ≤ 90 :=
  ⟨Int.mul_nonneg (by omega) (by omega), Int.le_trans (Int.mul_le_mul h2 h4 (by omega) (by omega)) (by omega)⟩
theorem goodBoard_len {r c : Int} {l : List S45} (h : goodBoard r c l = true) : l.length ≤ 90 := by
  unfold goodBoard at h
  simp only [Bool.and_eq_true, decide_eq_true_eq] at h
  have := size_le h.1.1 h.1.2.1 h.1.2.2.1 h.1.2.2.2.1
  omega
theorem goodBoard_ok {r c : Int} {l : List S45} (h : goodBoard r c l = true) : ∀ x ∈ l, okCell x = true := by
  unfold goodBoard at h
  simp only [Bool.and_eq_true, List.all_eq_true] at h
  exact h.2
theorem paGood_eq (a b : Int) : spec_paGood.f a b = some (okCell ⟨a, b⟩) := by
  simp only [spec_paGood.f, spec_paTurning.f, okCell, l1In_eq, Option.bind_some]
  repeat' split
  all_goals
    simp only [Option.bind_some, Option.some.injEq]
    rw [Bool.eq_iff_iff]
    simp_all
    try omega
theorem IsCell_eq (a b : Int) : impl_IsCell.f a b = some (okCell ⟨a, b⟩) := by
  simp only [impl_IsCell.f, okCell]
  repeat' split
  all_goals
    simp only [Option.some.injEq]
    rw [Bool.eq_iff_iff]
    simp_all
    try omega
theorem impl_validCells_l0 : ∀ (q p : List S45), (p ++ q).length < 9223372036854775807 → Ev (fun k => impl_validCells.l0 k (p ++ q) ((p ++ q).length : Int) (p.length : Int)) (q.all okCell)
  | [], p, h => by
    refine ev_up ?_
    simp only [impl_validCells.l0, mid_end, ↓reduceIte]
    exact Ev.now _
  | x :: q, p, h => by
    have hp : p.length < 9223372036854775807 := by simp only [List.length_append, List.length_cons] at h; omega
    refine ev_up ?_
    simp only [impl_validCells.l0, IsCell_eq, Option.bind_some, rd_T45, mid_lt, mid_ge, getD_mid, wrap_mid p x hp, ↓reduceIte, List.all_cons]
    cases okCell x with
    | false => simpa using Ev.now _
    | true =>
      simp only [↓reduceIte, Bool.true_and]
      rw [step_mid p q x] at h ⊢
      exact impl_validCells_l0 q (p ++ [x]) h
theorem impl_validCells_ev (l : List S45) (h : l.length ≤ 90) : Ev (fun k => impl_validCells.f k l) (l.all okCell) := by
  have : ¬ ((l.length : Int) > 90) := by omega
  simp only [impl_validCells.f, this, ↓reduceIte]
  simpa using impl_validCells_l0 l [] (by simp; omega)
theorem impl_IsBoard_ev (r c : Int) (l : List S45) : Ev (fun k => impl_IsBoard.f k r c l) (goodBoard r c l) := by
  by_cases h : 1 ≤ r ∧ r ≤ 10 ∧ 1 ≤ c ∧ c ≤ 9
  · obtain ⟨h1, h2, h3, h4⟩ := h
    have hs := size_le h1 h2 h3 h4
    have hw : wrap64 (r * c) = r * c := wrap_id (by omega) (by omega)
    by_cases hl : (l.length : Int) = r * c
    · have hg : goodBoard r c l = l.all okCell := by simp [goodBoard, h1, h2, h3, h4, hl]
      simp only [impl_IsBoard.f, hw, hl, ge_iff_le, h1, h2, h3, h4, ↓reduceIte, hg]
      exact ev_bind (impl_validCells_ev l (by omega)) (Ev.now _)
    · have hg : goodBoard r c l = false := by simp [goodBoard, hl]
      simp only [impl_IsBoard.f, hw, hl, ge_iff_le, h1, h2, h3, h4, ↓reduceIte, hg]
      exact Ev.now _
  · have hg : goodBoard r c l = false := by
      unfold goodBoard
      have : ¬ (1 ≤ r ∧ r ≤ 10 ∧ 1 ≤ c ∧ c ≤ 9 ∧ (l.length : Int) = r * c) := fun h' => h ⟨h'.1, h'.2.1, h'.2.2.1, h'.2.2.2.1⟩
      simp [this]
    rw [hg]
    simp only [impl_IsBoard.f, ge_iff_le]
    by_cases h1 : 1 ≤ r
    · by_cases h2 : r ≤ 10
      · by_cases h3 : 1 ≤ c
        · have h4 : ¬ c ≤ 9 := fun h4 => h ⟨h1, h2, h3, h4⟩
          simp only [h1, h2, h3, h4, ↓reduceIte]; exact Ev.now _
        · simp only [h1, h2, h3, ↓reduceIte]; exact Ev.now _
      · simp only [h1, h2, ↓reduceIte]; exact Ev.now _
    · simp only [h1, ↓reduceIte]; exact Ev.now _
theorem spec_boGood_l0 : ∀ (q p : List S45), (p ++ q).length < 9223372036854775807 → Ev (fun k => spec_boGood.l0 k (p ++ q) ((p ++ q).length : Int) (p.length : Int)) (q.all okCell)
  | [], p, h => by
    refine ev_up ?_
    simp only [spec_boGood.l0, mid_end, ↓reduceIte]
    exact Ev.now _
  | x :: q, p, h => by
    have hp : p.length < 9223372036854775807 := by simp only [List.length_append, List.length_cons] at h; omega
    refine ev_up ?_
    simp only [spec_boGood.l0, paGood_eq, Option.bind_some, rd_T45, mid_lt, mid_ge, getD_mid, wrap_mid p x hp, ↓reduceIte, List.all_cons]
    cases okCell x with
    | false => simpa using Ev.now _
    | true =>
      simp only [↓reduceIte, Bool.true_and]
      rw [step_mid p q x] at h ⊢
      exact spec_boGood_l0 q (p ++ [x]) h
theorem spec_boGood_ev (r c : Int) (l : List S45) : Ev (fun k => spec_boGood.f k r c l) (goodBoard r c l) := by
  have fin : Ev (fun k => spec_boGood.j0 k true r c l) false := by
    refine ev_up ?_
    simp only [spec_boGood.j0, ↓reduceIte]
    exact Ev.now _
  simp only [spec_boGood.f, l1In_eq, Option.bind_some]
  by_cases hr : 1 ≤ r ∧ r ≤ 10
  · by_cases hc : 1 ≤ c ∧ c ≤ 9
    · have hs := size_le hr.1 hr.2 hc.1 hc.2
      have hw : wrap64 (r * c) = r * c := wrap_id (by omega) (by omega)
      by_cases hl : (l.length : Int) = r * c
      · have hg : goodBoard r c l = l.all okCell := by simp [goodBoard, hr, hc, hl]
        simp only [hr, hc, hw, hl, hg, and_self, decide_true, ↓reduceIte, bne_self_eq_false]
        refine ev_up ?_
        simp only [spec_boGood.j0, ↓reduceIte, Bool.false_eq_true]
        have := spec_boGood_l0 l [] (by simp; omega)
        simpa using this
      · have hg : goodBoard r c l = false := by simp [goodBoard, hl]
        have hb : ((l.length : Int) != r * c) = true := by simpa using hl
        simp only [hr, hc, hw, hb, hg, and_self, decide_true, ↓reduceIte]
        exact fin
    · have hg : goodBoard r c l = false := by
        unfold goodBoard
        have : ¬ (1 ≤ r ∧ r ≤ 10 ∧ 1 ≤ c ∧ c ≤ 9 ∧ (l.length : Int) = r * c) := fun h' => hc ⟨h'.2.2.1, h'.2.2.2.1⟩
        simp [this]
      simp only [hr, hc, hg, and_self, decide_true, decide_false, ↓reduceIte, Bool.false_eq_true]
      exact fin
  · have hg : goodBoard r c l = false := by
      unfold goodBoard
      have : ¬ (1 ≤ r ∧ r ≤ 10 ∧ 1 ≤ c ∧ c ≤ 9 ∧ (l.length : Int) = r * c) := fun h' => hr ⟨h'.1, h'.2.1⟩
      simp [this]
    simp only [hr, hg, decide_false, ↓reduceIte, Bool.false_eq_true]
    exact fin
/-- The cells of each kind. -/
theorem laws_toBoard_ev (a b : Int) (l : List S66) (h : l.length ≤ 1048576) : Ev (fun k => laws_toBoard.f k a b l) (a, b, l.map toCell) := by
  simp only [laws_toBoard.f]
  exact ev_bind (laws_toCellS_ev l h) (Ev.now _)
theorem laws_eqBoard_ev (a b : Int) (l : List S45) (h : l.length < 9223372036854775807) : Ev (fun k => laws_eqBoard.f k a b l a b l) true := by
  simp only [laws_eqBoard.f, ↓reduceIte]
  refine ev_bind (laws_eqCellS_ev l h) ?_
  simpa using Ev.now _
theorem szBoard_eq (a b : Int) (l : List S66) (n : Int) (h : l.length ≤ 9223372036854775807) (h0 : 0 ≤ n) (h1 : n ≤ 1048576) : laws_szBoard.f a b l n = some (if (l.length : Int) ≤ n then n - (l.length : Int) else -1) := by
  simp only [laws_szBoard.f, szCellS_eq l n h h0 h1, Option.bind_some]
  split
  · rw [if_neg (by omega)]
  · rw [if_pos (by omega)]
def okAct (r c : Int) (a : S47) : Bool := decide (0 ≤ a.f1 ∧ a.f1 ≤ r - 1 ∧ 0 ≤ a.f2 ∧ a.f2 ≤ c - 1) && (if a.f0 = 1 then okCell a.f3 else if a.f0 = 2 then decide (a.f1 = 0) && (a.f3.f0 == 0 && a.f3.f1 == 0) else (a.f0 == 3 && (a.f1 == 0 && (a.f2 == 0 && (a.f3.f0 == 0 && a.f3.f1 == 0)))))
def goodSession (r c : Int) (l : List S45) (d u : List S47) : Bool := goodBoard r c l && (d.all (okAct r c) && (u.all (okAct r c) && decide (d.length + u.length ≤ 40)))
theorem goodBoard_size {r c : Int} {l : List S45} (h : goodBoard r c l = true) : 1 ≤ r ∧ r ≤ 10 ∧ 1 ≤ c ∧ c ≤ 9 := by
  unfold goodBoard at h
  simp only [Bool.and_eq_true, decide_eq_true_eq] at h
  exact ⟨h.1.1, h.1.2.1, h.1.2.2.1, h.1.2.2.2.1⟩
theorem spec_seAct_ev (r c : Int) (l : List S45) (a : S47) (hb : goodBoard r c l = true) : Ev (fun k => spec_seAct.f k r c l a.f0 a.f1 a.f2 a.f3.f0 a.f3.f1) (okAct r c a) := by
  obtain ⟨h1, h2, h3, h4⟩ := goodBoard_size hb
  have w1 : wrap64 (r - 1) = r - 1 := wrap_id (by omega) (by omega)
  have w2 : wrap64 (c - 1) = c - 1 := wrap_id (by omega) (by omega)
  have fin : Ev (fun k => spec_seAct.j0 k true a.f0 a.f1 a.f2 a.f3.f0 a.f3.f1) false := by
    refine ev_up ?_
    simp only [spec_seAct.j0, ↓reduceIte]
    exact Ev.now _
  simp only [spec_seAct.f, l1In_eq, Option.bind_some, w1, w2]
  unfold okAct
  by_cases hr : 0 ≤ a.f1 ∧ a.f1 ≤ r - 1
  · by_cases hc : 0 ≤ a.f2 ∧ a.f2 ≤ c - 1
    · simp only [hr, hc, and_self, decide_true, Bool.not_true, Bool.true_and, ↓reduceIte]
      refine ev_up ?_
      simp only [spec_seAct.j0, Bool.false_eq_true, paGood_eq, Option.bind_some, ↓reduceIte]
      by_cases k1 : a.f0 = 1
      · simp only [k1, ↓reduceIte]
        exact Ev.now _
      · by_cases k2 : a.f0 = 2
        · by_cases z : a.f1 = 0
          · simp only [k2, z, decide_true, Bool.true_and, Int.reduceEq, ↓reduceIte]
            exact Ev.now _
          · simp only [k2, z, decide_false, Bool.false_and, Int.reduceEq, ↓reduceIte]
            exact Ev.now _
        · simp only [k1, k2, ↓reduceIte]
          exact Ev.now _
    · have : ¬ (0 ≤ a.f1 ∧ a.f1 ≤ r - 1 ∧ 0 ≤ a.f2 ∧ a.f2 ≤ c - 1) := fun h => hc h.2.2
      simp only [hr, hc, this, and_self, decide_true, decide_false, Bool.not_false, Bool.false_and, ↓reduceIte]
      exact fin
  · have : ¬ (0 ≤ a.f1 ∧ a.f1 ≤ r - 1 ∧ 0 ≤ a.f2 ∧ a.f2 ≤ c - 1) := fun h => hr ⟨h.1, h.2.1⟩
    simp only [hr, this, decide_false, Bool.false_and, Bool.false_eq_true, ↓reduceIte]
    exact fin
theorem impl_isAct_ev (r c : Int) (l : List S45) (a : S47) (hb : goodBoard r c l = true) : Ev (fun k => impl_isAct.f k r c l a.f0 a.f1 a.f2 a.f3.f0 a.f3.f1) (okAct r c a) := by
  have hon : Ev (fun k => impl_onBoard.f k r c l a.f1 a.f2) (decide (0 ≤ a.f1 ∧ a.f1 ≤ r - 1 ∧ 0 ≤ a.f2 ∧ a.f2 ≤ c - 1)) := by
    simp only [impl_onBoard.f]
    refine ev_bind (impl_IsBoard_ev r c l) ?_
    simp only [hb, ge_iff_le, ↓reduceIte]
    by_cases g1 : 0 ≤ a.f1
    · by_cases g2 : a.f1 < r
      · by_cases g3 : 0 ≤ a.f2
        · rw [if_pos g1, if_pos g2, if_pos g3]
          refine ev_eq (Ev.now _) ?_
          rw [Bool.eq_iff_iff, decide_eq_true_iff, decide_eq_true_iff]
          omega
        · rw [if_pos g1, if_pos g2, if_neg g3]
          exact ev_eq (Ev.now _) (by symm; rw [decide_eq_false_iff_not]; omega)
      · rw [if_pos g1, if_neg g2]
        exact ev_eq (Ev.now _) (by symm; rw [decide_eq_false_iff_not]; omega)
    · rw [if_neg g1]
      exact ev_eq (Ev.now _) (by symm; rw [decide_eq_false_iff_not]; omega)
  simp only [impl_isAct.f]
  refine ev_bind hon ?_
  unfold okAct
  cases hd : decide (0 ≤ a.f1 ∧ a.f1 ≤ r - 1 ∧ 0 ≤ a.f2 ∧ a.f2 ≤ c - 1)
  · exact ev_eq (Ev.now _) (by simp)
  · simp only [IsCell_eq, Option.bind_some, Bool.true_and, ↓reduceIte]
    by_cases k1 : a.f0 = 1
    · simp only [k1, ↓reduceIte]
      exact Ev.now _
    · by_cases k2 : a.f0 = 2
      · by_cases z : a.f1 = 0
        · simp only [k2, z, decide_true, Bool.true_and, Int.reduceEq, ↓reduceIte]
          exact Ev.now _
        · simp only [k2, z, decide_false, Bool.false_and, Int.reduceEq, ↓reduceIte]
          exact Ev.now _
      · by_cases k3 : a.f0 = 3
        · by_cases z : a.f1 = 0
          · by_cases z2 : a.f2 = 0
            · simp only [k3, z, z2, Int.reduceEq, BEq.rfl, Bool.true_and, ↓reduceIte]
              exact Ev.now _
            · have z2' : (a.f2 == 0) = false := by simpa using z2
              simp only [k3, z, z2, z2', Int.reduceEq, BEq.rfl, Bool.true_and, Bool.false_and, ↓reduceIte]
              exact Ev.now _
          · have z' : (a.f1 == 0) = false := by simpa using z
            simp only [k3, z, z', Int.reduceEq, BEq.rfl, Bool.true_and, Bool.false_and, ↓reduceIte]
            exact Ev.now _
        · have k3' : (a.f0 == 3) = false := by simpa using k3
          simp only [k1, k2, k3, k3', Bool.false_and, ↓reduceIte]
          exact Ev.now _
theorem spec_seActs_l0 (r c : Int) (l : List S45) (hb : goodBoard r c l = true) : ∀ (q p : List S47), (p ++ q).length < 9223372036854775807 → Ev (fun k => spec_seActs.l0 k (p ++ q) ((p ++ q).length : Int) (p.length : Int) r c l) (q.all (okAct r c))
  | [], p, h => by
    refine ev_up ?_
    simp only [spec_seActs.l0, mid_end, ↓reduceIte]
    exact Ev.now _
  | x :: q, p, h => by
    have hp : p.length < 9223372036854775807 := by simp only [List.length_append, List.length_cons] at h; omega
    refine ev_up ?_
    simp only [spec_seActs.l0, rd_T47, mid_lt, mid_ge, getD_mid, wrap_mid p x hp, ↓reduceIte, List.all_cons]
    refine ev_bind (spec_seAct_ev r c l x hb) ?_
    cases okAct r c x with
    | false => simpa using Ev.now _
    | true =>
      simp only [↓reduceIte, Bool.true_and]
      rw [step_mid p q x] at h ⊢
      exact spec_seActs_l0 r c l hb q (p ++ [x]) h
theorem spec_seActs_ev (r c : Int) (l : List S45) (d : List S47) (hb : goodBoard r c l = true) (h : d.length ≤ 1048576) : Ev (fun k => spec_seActs.f k r c l d) (d.all (okAct r c)) := by
  simpa [spec_seActs.f] using spec_seActs_l0 r c l hb d [] (by simp; omega)
theorem spec_seGood_ev (r c : Int) (l : List S45) (d u : List S47) (hd : d.length ≤ 1048576) (hu : u.length ≤ 1048576) : Ev (fun k => spec_seGood.f k r c l d u) (goodSession r c l d u) := by
  unfold goodSession
  simp only [spec_seGood.f]
  refine ev_bind (spec_boGood_ev r c l) ?_
  cases hb : goodBoard r c l
  · exact ev_eq (Ev.now _) (by simp)
  · simp only [↓reduceIte, Bool.true_and]
    refine ev_bind (spec_seActs_ev r c l d hb hd) ?_
    cases d.all (okAct r c)
    · exact ev_eq (Ev.now _) (by simp)
    · simp only [↓reduceIte, Bool.true_and]
      refine ev_bind (spec_seActs_ev r c l u hb hu) ?_
      cases u.all (okAct r c)
      · exact ev_eq (Ev.now _) (by simp)
      · have hw : wrap64 ((d.length : Int) + (u.length : Int)) = (d.length : Int) + (u.length : Int) := wrap_id (by omega) (by omega)
        simp only [↓reduceIte, Bool.true_and, hw]
        refine ev_eq (Ev.now _) ?_
        rw [Bool.eq_iff_iff, decide_eq_true_iff, decide_eq_true_iff]
        omega
theorem impl_IsSession_l1 (y : List (List S47)) (n i r c : Int) (l : List S45) (d u : List S47) (hb : goodBoard r c l = true) (R : Bool) (hR : Ev (fun k => impl_IsSession.l0 k y n (wrap64 (i + 1)) r c l d u) R) : ∀ (q p : List S47), (p ++ q).length < 9223372036854775807 → Ev (fun k => impl_IsSession.l1 k y n i (p ++ q) ((p ++ q).length : Int) (p.length : Int) r c l d u) (q.all (okAct r c) && R)
  | [], p, h => by
    refine ev_up ?_
    simp only [impl_IsSession.l1, mid_end, ↓reduceIte, List.all_nil, Bool.true_and]
    exact hR
  | x :: q, p, h => by
    have hp : p.length < 9223372036854775807 := by simp only [List.length_append, List.length_cons] at h; omega
    refine ev_up ?_
    simp only [impl_IsSession.l1, rd_T47, mid_lt, mid_ge, getD_mid, wrap_mid p x hp, ↓reduceIte, List.all_cons]
    refine ev_bind (impl_isAct_ev r c l x hb) ?_
    cases okAct r c x with
    | false => simpa using Ev.now _
    | true =>
      simp only [↓reduceIte, Bool.true_and]
      rw [step_mid p q x] at h ⊢
      exact impl_IsSession_l1 y n i r c l d u hb R hR q (p ++ [x]) h
theorem impl_IsSession_ev (r c : Int) (l : List S45) (d u : List S47) (hd : d.length ≤ 1048576) (hu : u.length ≤ 1048576) : Ev (fun k => impl_IsSession.f k r c l d u) (goodSession r c l d u) := by
  have fin : Ev (fun k => impl_IsSession.j0 k true r c l d u) false := by
    refine ev_up ?_
    simp only [impl_IsSession.j0, ↓reduceIte]
    exact Ev.now _
  unfold goodSession
  simp only [impl_IsSession.f]
  refine ev_bind (impl_IsBoard_ev r c l) ?_
  have hw : wrap64 ((d.length : Int) + (u.length : Int)) = (d.length : Int) + (u.length : Int) := wrap_id (by omega) (by omega)
  cases hb : goodBoard r c l
  · simpa using fin
  · simp only [hw, ↓reduceIte, Bool.true_and]
    by_cases h40 : d.length + u.length ≤ 40
    · have g : decide ((d.length : Int) + (u.length : Int) > 40) = false := by rw [decide_eq_false_iff_not]; omega
      have e0 : Ev (fun k => impl_IsSession.l0 k [d, u] 2 2 r c l d u) true := by
        refine ev_up ?_
        simp only [impl_IsSession.l0, Int.reduceLT, ↓reduceIte]
        exact Ev.now _
      have w1 : wrap64 ((1 : Int) + 1) = 2 := by decide +kernel
      have w0 : wrap64 ((0 : Int) + 1) = 1 := by decide +kernel
      have e1 : Ev (fun k => impl_IsSession.l0 k [d, u] 2 1 r c l d u) (u.all (okAct r c) && true) := by
        refine ev_up ?_
        have a1 : ((1 : Int) < (([d, u] : List (List S47)).length : Int)) = True := by simp
        have a2 : rd_L6 [d, u] 1 = u := rfl
        simp only [impl_IsSession.l0, a1, a2, Int.reduceLT, Int.reduceLE, ↓reduceIte]
        simpa using impl_IsSession_l1 [d, u] 2 1 r c l d u hb true (by rw [w1]; exact e0) u [] (by simp; omega)
      have e2 : Ev (fun k => impl_IsSession.l0 k [d, u] 2 0 r c l d u) (d.all (okAct r c) && (u.all (okAct r c) && true)) := by
        refine ev_up ?_
        have a1 : ((0 : Int) < (([d, u] : List (List S47)).length : Int)) = True := by simp
        have a2 : rd_L6 [d, u] 0 = d := rfl
        simp only [impl_IsSession.l0, a1, a2, Int.reduceLT, Int.reduceLE, ↓reduceIte]
        simpa using impl_IsSession_l1 [d, u] 2 0 r c l d u hb (u.all (okAct r c) && true) (by rw [w0]; exact e1) d [] (by simp; omega)
      simp only [g, h40, decide_true]
      refine ev_up ?_
      simp only [impl_IsSession.j0, Option.bind_some, Bool.false_eq_true, ↓reduceIte]
      simpa using e2
    · have g : decide ((d.length : Int) + (u.length : Int) > 40) = true := by rw [decide_eq_true_iff]; omega
      simp only [g, h40, decide_false, Bool.and_false]
      exact fin
def toAct (x : S68) : S47 := ⟨x.f0, x.f1, x.f2, ⟨x.f3.f0, x.f3.f1⟩⟩
theorem laws_toSessionActS_l0 : ∀ (q p : List S68), (p ++ q).length < 9223372036854775807 → Ev (fun k => laws_toSessionActS.l0 k (p ++ q) (p.map toAct ++ List.replicate q.length z47) (p.length : Int)) ((p ++ q).map toAct)
  | [], p, h => by
    refine ev_up ?_
    simp only [laws_toSessionActS.l0, mid_end, ↓reduceIte]
    exact ev_eq (Ev.now _) (by simp)
  | x :: q, p, h => by
    have hp : p.length < 9223372036854775807 := by simp only [List.length_append, List.length_cons] at h; omega
    have hl : p.length = (p.map toAct).length := by simp
    refine ev_up ?_
    simp only [laws_toSessionActS.l0, laws_toSessionAct.f, laws_toCell.f, Option.bind_some, rd_T68, List.length_cons, List.replicate_succ, mid_lt, mid_lt2 p _ _ _ hl, mid_ge, getD_mid, set_mid2 p _ _ _ _ hl, wrap_mid p x hp, ↓reduceIte]
    rw [step_mid p q x] at h ⊢
    have e : p.map toAct ++ (⟨x.f0, x.f1, x.f2, ⟨x.f3.f0, x.f3.f1⟩⟩ : S47) :: List.replicate q.length z47 = (p ++ [x]).map toAct ++ List.replicate q.length z47 := by simp [toAct]
    rw [e]
    exact laws_toSessionActS_l0 q (p ++ [x]) h
theorem laws_toSessionActS_ev (l : List S68) (h : l.length ≤ 1048576) : Ev (fun k => laws_toSessionActS.f k l) (l.map toAct) := by
  have h0 : (0 ≤ (l.length : Int)) = True := by apply eq_true; omega
  have h1 : (((l.length : Int) : Int).toNat ≤ 7036874417766) = True := by apply eq_true; omega
  simp only [laws_toSessionActS.f, h0, h1, ↓reduceIte]
  simpa using laws_toSessionActS_l0 l [] (by simp; omega)
theorem laws_toSession_ev (r c : Int) (l : List S66) (d u : List S68) (hl : l.length ≤ 1048576) (hd : d.length ≤ 1048576) (hu : u.length ≤ 1048576) : Ev (fun k => laws_toSession.f k r c l d u) (r, c, l.map toCell, d.map toAct, u.map toAct) := by
  simp only [laws_toSession.f]
  exact ev_bind (laws_toBoard_ev r c l hl) (ev_bind (laws_toSessionActS_ev d hd) (ev_bind (laws_toSessionActS_ev u hu) (Ev.now _)))
theorem laws_eqSessionActS_l0 : ∀ (q p : List S47), (p ++ q).length < 9223372036854775807 → Ev (fun k => laws_eqSessionActS.l0 k (p ++ q) (p ++ q) (p.length : Int)) true
  | [], p, h => by
    refine ev_up ?_
    simp only [laws_eqSessionActS.l0, mid_end, ↓reduceIte]
    exact Ev.now _
  | x :: q, p, h => by
    have hp : p.length < 9223372036854775807 := by simp only [List.length_append, List.length_cons] at h; omega
    refine ev_up ?_
    simp only [laws_eqSessionActS.l0, laws_eqSessionAct.f, eqCell_self, Option.bind_some, rd_T47, mid_lt, mid_ge, getD_mid, wrap_mid p x hp, ↓reduceIte]
    rw [step_mid p q x] at h ⊢
    exact laws_eqSessionActS_l0 q (p ++ [x]) h
theorem laws_eqSessionActS_ev (l : List S47) (h : l.length < 9223372036854775807) : Ev (fun k => laws_eqSessionActS.f k l l) true := by
  simp only [laws_eqSessionActS.f, ↓reduceIte]
  simpa using laws_eqSessionActS_l0 l [] (by simpa using h)
theorem laws_eqSession_ev (r c : Int) (l : List S45) (d u : List S47) (hl : l.length < 9223372036854775807) (hd : d.length < 9223372036854775807) (hu : u.length < 9223372036854775807) : Ev (fun k => laws_eqSession.f k r c l d u r c l d u) true := by
  simp only [laws_eqSession.f]
  refine ev_bind (laws_eqBoard_ev r c l hl) ?_
  simp only [↓reduceIte]
  refine ev_bind (laws_eqSessionActS_ev d hd) ?_
  simp only [↓reduceIte]
  refine ev_bind (laws_eqSessionActS_ev u hu) ?_
  simpa using Ev.now _
theorem szSessionActS_eq (l : List S68) (n : Int) (h : l.length ≤ 9223372036854775807) (h0 : 0 ≤ n) (h1 : n ≤ 1048576) : laws_szSessionActS.f l n = some (if (l.length : Int) ≤ n then n - (l.length : Int) else -1) := by
  have hw : wrap64 (n - (l.length : Int)) = n - (l.length : Int) := wrap_id (by omega) (by omega)
  unfold laws_szSessionActS.f
  rw [hw]
  by_cases hl : (l.length : Int) ≤ n
  · rw [if_neg (by omega), if_pos hl]
  · rw [if_pos (by omega), if_neg hl]
theorem szSession_eq (r c : Int) (l : List S66) (d u : List S68) (hl : l.length ≤ 9223372036854775807) (hd : d.length ≤ 9223372036854775807) (hu : u.length ≤ 9223372036854775807) : laws_szSession.f r c l d u 1048576 = some (if l.length + d.length + u.length ≤ 1048576 then 1048576 - (l.length : Int) - (d.length : Int) - (u.length : Int) else -1) := by
  have m1 : ((-1 : Int) < 0) = True := by apply eq_true; omega
  simp only [laws_szSession.f, szBoard_eq r c l 1048576 hl (by omega) (by omega), Option.bind_some]
  by_cases h0 : (l.length : Int) ≤ 1048576
  · have g0 : ¬ (1048576 - (l.length : Int) < 0) := by omega
    simp only [h0, g0, ↓reduceIte, szSessionActS_eq d (1048576 - (l.length : Int)) hd (by omega) (by omega), Option.bind_some]
    by_cases h1 : (d.length : Int) ≤ 1048576 - (l.length : Int)
    · have g1 : ¬ (1048576 - (l.length : Int) - (d.length : Int) < 0) := by omega
      simp only [h1, g1, ↓reduceIte, szSessionActS_eq u (1048576 - (l.length : Int) - (d.length : Int)) hu (by omega) (by omega), Option.bind_some]
      by_cases h2 : (u.length : Int) ≤ 1048576 - (l.length : Int) - (d.length : Int)
      · have g2 : ¬ (1048576 - (l.length : Int) - (d.length : Int) - (u.length : Int) < 0) := by omega
        have g3 : l.length + d.length + u.length ≤ 1048576 := by omega
        simp only [h2, g2, g3, ↓reduceIte]
      · have g3 : ¬ l.length + d.length + u.length ≤ 1048576 := by omega
        simp only [h2, m1, g3, ↓reduceIte]
    · have g3 : ¬ l.length + d.length + u.length ≤ 1048576 := by omega
      simp only [h1, m1, g3, ↓reduceIte]
  · have g3 : ¬ l.length + d.length + u.length ≤ 1048576 := by omega
    simp only [h0, m1, g3, ↓reduceIte]
/-- The letter of a cell. -/
def ltr (a b : Int) : ByteArray := (spec_paLetter.f a b).getD ⟨#[]⟩
theorem ltr_all : ∀ p ∈ ([(0, 0), (1, 0), (2, 0), (3, 0), (4, 0), (5, 0), (6, 0), (7, 0), (3, 1), (6, 1)] : List (Int × Int)), spec_paLetter.f p.1 p.2 = some (ltr p.1 p.2) ∧ impl_CellLetter.f p.1 p.2 = some (ltr p.1 p.2, true) ∧ (ltr p.1 p.2).size = 1 := by decide +kernel
theorem ltr_ok {a b : Int} (h : okCell ⟨a, b⟩ = true) : spec_paLetter.f a b = some (ltr a b) ∧ impl_CellLetter.f a b = some (ltr a b, true) ∧ (ltr a b).size = 1 := by
  have hm : (a, b) ∈ ([(0, 0), (1, 0), (2, 0), (3, 0), (4, 0), (5, 0), (6, 0), (7, 0), (3, 1), (6, 1)] : List (Int × Int)) := by
    unfold okCell at h
    simp only [decide_eq_true_eq] at h
    simp only [List.mem_cons, Prod.mk.injEq, List.not_mem_nil, or_false]
    omega
  exact ltr_all (a, b) hm
def cat (s : ByteArray) (l : List S45) : ByteArray := l.foldl (fun s c => s ++ ltr c.f0 c.f1) s
theorem cat_size : ∀ (l : List S45) (s : ByteArray), (∀ x ∈ l, okCell x = true) → (cat s l).size = s.size + l.length
  | [], s, _ => rfl
  | x :: l, s, h => by
    show (cat (s ++ ltr x.f0 x.f1) l).size = _
    rw [cat_size l _ (fun y hy => h y (List.mem_cons_of_mem _ hy)), ByteArray.size_append, (ltr_ok (h x (List.mem_cons_self ..))).2.2, List.length_cons]
    omega
theorem spec_paText_l0 : ∀ (q p : List S45) (s : ByteArray), (p ++ q).length < 1000000000000000 → s.size + q.length ≤ 9223372036854775807 → (∀ x ∈ q, okCell x = true) → Ev (fun k => spec_paText.l0 k s (p ++ q) ((p ++ q).length : Int) (p.length : Int)) (cat s q)
  | [], p, s, h, h1, hq => by
    refine ev_up ?_
    simp only [spec_paText.l0, mid_end, ↓reduceIte]
    exact Ev.now _
  | x :: q, p, s, h, h1, hq => by
    have hp : p.length < 9223372036854775807 := by simp only [List.length_append, List.length_cons] at h; omega
    have hx := ltr_ok (hq x (List.mem_cons_self ..))
    have hs : (s.size + (ltr x.f0 x.f1).size ≤ 9223372036854775807) = True := by apply eq_true; rw [hx.2.2]; simp only [List.length_cons] at h1; omega
    refine ev_up ?_
    simp only [spec_paText.l0, rd_T45, mid_lt, mid_ge, getD_mid, wrap_mid p x hp, hx.1, hs, Option.bind_some, ↓reduceIte]
    rw [step_mid p q x] at h ⊢
    exact spec_paText_l0 q (p ++ [x]) (s ++ ltr x.f0 x.f1) h (by rw [ByteArray.size_append, hx.2.2]; simp only [List.length_cons] at h1; omega) (fun y hy => hq y (List.mem_cons_of_mem _ hy))
theorem spec_paText_ev (l : List S45) (h : l.length ≤ 90) (hq : ∀ x ∈ l, okCell x = true) : Ev (fun k => spec_paText.f k l) (cat ⟨#[]⟩ l) := by
  simpa [spec_paText.f] using spec_paText_l0 l [] ⟨#[]⟩ (by simp; omega) (by have e0 : ((⟨#[]⟩ : ByteArray)).size = 0 := rfl; rw [e0]; omega) hq
theorem strOf_bytesOf (s : ByteArray) : strOfNums (bytesOf s) = s := by
  have : (bytesOf s).map (fun n : Int => UInt8.ofNat n.toNat) = s.data.toList := by
    unfold bytesOf
    rw [List.map_map]
    conv => rhs; rw [← List.map_id s.data.toList]
    refine List.map_congr_left fun b _ => ?_
    simp
  unfold strOfNums
  rw [this]
theorem bytesOf_append (s t : ByteArray) : bytesOf (s ++ t) = bytesOf s ++ bytesOf t := by
  unfold bytesOf
  rw [← List.map_append, ByteArray.data_append, Array.toList_append]
theorem impl_CellsText_l0 : ∀ (q p : List S45) (s : ByteArray), (p ++ q).length < 1000000000000000 → s.size + q.length ≤ 100000000000 → (∀ x ∈ q, okCell x = true) → Ev (fun k => impl_CellsText.l0 k (bytesOf s) (p ++ q) ((p ++ q).length : Int) (p.length : Int)) (cat s q, true)
  | [], p, s, h, h1, hq => by
    refine ev_up ?_
    simp only [impl_CellsText.l0, mid_end, ↓reduceIte, strOf_bytesOf]
    exact Ev.now _
  | x :: q, p, s, h, h1, hq => by
    have hp : p.length < 9223372036854775807 := by simp only [List.length_append, List.length_cons] at h; omega
    have hx := ltr_ok (hq x (List.mem_cons_self ..))
    have hs : ((bytesOf s).length + (ltr x.f0 x.f1).size < 140737488355328) = True := by apply eq_true; rw [hx.2.2, bytesOf_length]; simp only [List.length_cons] at h1; omega
    refine ev_up ?_
    simp only [impl_CellsText.l0, rd_T45, mid_lt, mid_ge, getD_mid, wrap_mid p x hp, hx.2.1, hs, Option.bind_some, ↓reduceIte, ← bytesOf_append]
    rw [step_mid p q x] at h ⊢
    exact impl_CellsText_l0 q (p ++ [x]) (s ++ ltr x.f0 x.f1) h (by rw [ByteArray.size_append, hx.2.2]; simp only [List.length_cons] at h1; omega) (fun y hy => hq y (List.mem_cons_of_mem _ hy))
theorem impl_CellsText_ev (l : List S45) (h : l.length ≤ 90) (hq : ∀ x ∈ l, okCell x = true) : Ev (fun k => impl_CellsText.f k l) (cat ⟨#[]⟩ l, true) := by
  simp only [impl_CellsText.f]
  refine ev_bind (impl_validCells_ev l h) ?_
  rw [List.all_eq_true.2 hq]
  have eb : bytesOf ⟨#[]⟩ = [] := rfl
  simpa [eb] using impl_CellsText_l0 l [] ⟨#[]⟩ (by simp; omega) (by have e0 : ((⟨#[]⟩ : ByteArray)).size = 0 := rfl; rw [e0]; omega) hq
/-- The text of the rows i, i+1, .., n of them, behind s. -/
def rowsText (c : Int) (l : List S45) : Nat → ByteArray → Int → ByteArray
  | 0, s, _ => s
  | n + 1, s, i => rowsText c l n (s ++ (cat ⟨#[]⟩ ((l.take ((i + 1) * c).toNat).drop (i * c).toNat) ++ (⟨#[10]⟩ : ByteArray))) (i + 1)
theorem row_ok {c r i : Int} {l : List S45} (hb : goodBoard r c l = true) (h0 : 0 ≤ i) (h1 : i < r) : wrap64 (i * c) = i * c ∧ wrap64 (i + 1) = i + 1 ∧ wrap64 ((i + 1) * c) = (i + 1) * c ∧ 0 ≤ i * c ∧ i * c ≤ (i + 1) * c ∧ (i + 1) * c ≤ (l.length : Int) ∧ ((l.take ((i + 1) * c).toNat).drop (i * c).toNat).length ≤ 90 ∧ (∀ x ∈ (l.take ((i + 1) * c).toNat).drop (i * c).toNat, okCell x = true) := by
  obtain ⟨a1, a2, a3, a4⟩ := goodBoard_size hb
  have a5 : (l.length : Int) = r * c := by
    unfold goodBoard at hb
    simp only [Bool.and_eq_true, decide_eq_true_eq] at hb
    exact hb.1.2.2.2.2
  have a6 := goodBoard_len hb
  have b0 : 0 ≤ i * c := Int.mul_nonneg h0 (by omega)
  have b1 : (i + 1) * c = i * c + c := by rw [Int.add_mul, Int.one_mul]
  have b2 : (i + 1) * c ≤ r * c := Int.mul_le_mul_of_nonneg_right (by omega) (by omega)
  refine ⟨wrap_id (by omega) (by omega), wrap_id (by omega) (by omega), wrap_id (by omega) (by omega), b0, by omega, by omega, ?_, ?_⟩
  · rw [List.length_drop, List.length_take]; omega
  · intro x hx
    exact goodBoard_ok hb x (List.mem_of_mem_take (List.mem_of_mem_drop hx))
theorem rowsText_size {c r : Int} {l : List S45} (hb : goodBoard r c l = true) : ∀ (n : Nat) (s : ByteArray) (i : Int), 0 ≤ i → i + n = r → (rowsText c l n s i).size ≤ s.size + 91 * n
  | 0, s, i, _, _ => Nat.le_refl _
  | n + 1, s, i, h0, h1 => by
    have R := row_ok hb h0 (by omega)
    refine Nat.le_trans (rowsText_size hb n _ (i + 1) (by omega) (by omega)) ?_
    have e1 : ((⟨#[10]⟩ : ByteArray)).size = 1 := rfl
    have e0 : ((⟨#[]⟩ : ByteArray)).size = 0 := rfl
    rw [ByteArray.size_append, ByteArray.size_append, cat_size _ _ R.2.2.2.2.2.2.2, e1, e0]
    have := R.2.2.2.2.2.2.1
    omega
theorem spec_boText_l0 {c r : Int} {l : List S45} (hb : goodBoard r c l = true) : ∀ (n : Nat) (s : ByteArray) (i : Int), 0 ≤ i → i + n = r → s.size + 91 * n ≤ 100000000 → Ev (fun k => spec_boText.l0 k s i r c l) (rowsText c l n s i)
  | 0, s, i, h0, h1, h2 => by
    have g : (i < r) = False := by apply eq_false; omega
    refine ev_up ?_
    simp only [spec_boText.l0, g, ↓reduceIte]
    exact Ev.now _
  | n + 1, s, i, h0, h1, h2 => by
    have R := row_ok hb h0 (by omega)
    obtain ⟨w1, w2, w3, c1, c2, c3, c4, c5⟩ := R
    have g : (i < r) = True := by apply eq_true; omega
    have e1 : ((⟨#[10]⟩ : ByteArray)).size = 1 := rfl
    have e0 : ((⟨#[]⟩ : ByteArray)).size = 0 := rfl
    have z := cat_size _ ⟨#[]⟩ c5
    rw [e0] at z
    have z1 : ((cat ⟨#[]⟩ ((l.take ((i + 1) * c).toNat).drop (i * c).toNat)).size + 1 ≤ 9223372036854775807) = True := by apply eq_true; omega
    have z2 : (s.size + (cat ⟨#[]⟩ ((l.take ((i + 1) * c).toNat).drop (i * c).toNat) ++ (⟨#[10]⟩ : ByteArray)).size ≤ 9223372036854775807) = True := by apply eq_true; rw [ByteArray.size_append, e1]; omega
    refine ev_up ?_
    simp only [spec_boText.l0, g, w1, w2, w3, eq_true c1, eq_true c2, eq_true c3, ↓reduceIte]
    refine ev_bind (spec_paText_ev _ c4 c5) ?_
    simp only [z1, z2, ↓reduceIte]
    exact spec_boText_l0 hb n _ (i + 1) (by omega) (by omega) (by rw [ByteArray.size_append, ByteArray.size_append, e1]; omega)
theorem spec_boText_ev {c r : Int} {l : List S45} (hb : goodBoard r c l = true) : Ev (fun k => spec_boText.f k r c l) (rowsText c l r.toNat ⟨#[]⟩ 0) := by
  have := goodBoard_size hb
  exact spec_boText_l0 hb r.toNat ⟨#[]⟩ 0 (by omega) (by omega) (by have e0 : ((⟨#[]⟩ : ByteArray)).size = 0 := rfl; rw [e0]; omega)
theorem impl_BoardText_l0 {c r : Int} {l : List S45} (hb : goodBoard r c l = true) : ∀ (n : Nat) (s : ByteArray) (i : Int), 0 ≤ i → i + n = r → s.size + 91 * n ≤ 100000000 → Ev (fun k => impl_BoardText.l0 k s i r c l) (rowsText c l n s i, true)
  | 0, s, i, h0, h1, h2 => by
    have g : (i < r) = False := by apply eq_false; omega
    refine ev_up ?_
    simp only [impl_BoardText.l0, g, ↓reduceIte]
    exact Ev.now _
  | n + 1, s, i, h0, h1, h2 => by
    have R := row_ok hb h0 (by omega)
    obtain ⟨w1, w2, w3, c1, c2, c3, c4, c5⟩ := R
    have g : (i < r) = True := by apply eq_true; omega
    have e1 : ((⟨#[10]⟩ : ByteArray)).size = 1 := rfl
    have e0 : ((⟨#[]⟩ : ByteArray)).size = 0 := rfl
    have z := cat_size _ ⟨#[]⟩ c5
    rw [e0] at z
    have z1 : ((cat ⟨#[]⟩ ((l.take ((i + 1) * c).toNat).drop (i * c).toNat)).size + 1 ≤ 9223372036854775807) = True := by apply eq_true; omega
    have z2 : (s.size + (cat ⟨#[]⟩ ((l.take ((i + 1) * c).toNat).drop (i * c).toNat) ++ (⟨#[10]⟩ : ByteArray)).size ≤ 9223372036854775807) = True := by apply eq_true; rw [ByteArray.size_append, e1]; omega
    refine ev_up ?_
    simp only [impl_BoardText.l0, g, w1, w2, w3, eq_true c1, eq_true c2, eq_true c3, ↓reduceIte]
    refine ev_bind (impl_CellsText_ev _ c4 c5) ?_
    simp only [z1, z2, ↓reduceIte]
    exact impl_BoardText_l0 hb n _ (i + 1) (by omega) (by omega) (by rw [ByteArray.size_append, ByteArray.size_append, e1]; omega)
theorem impl_BoardText_ev {c r : Int} {l : List S45} (hb : goodBoard r c l = true) : Ev (fun k => impl_BoardText.f k r c l) (rowsText c l r.toNat ⟨#[]⟩ 0, true) := by
  have := goodBoard_size hb
  simp only [impl_BoardText.f]
  refine ev_bind (impl_IsBoard_ev r c l) ?_
  simp only [hb, ↓reduceIte]
  exact impl_BoardText_l0 hb r.toNat ⟨#[]⟩ 0 (by omega) (by omega) (by have e0 : ((⟨#[]⟩ : ByteArray)).size = 0 := rfl; rw [e0]; omega)
/-- One digit. -/
def dig (n : Int) : ByteArray := strOfNums [(wrap64 (48 + n)) % 256]
theorem dig_size (n : Int) : (dig n).size = 1 := rfl
theorem spec_l1Num_dig (n : Int) (h : n < 10) : Ev (fun k => spec_l1Num.f k n) (dig n) := by
  refine ev_up ?_
  simp only [spec_l1Num.f, h, ↓reduceIte]
  exact Ev.now _
theorem itoa_dig (n : Int) (h0 : 0 ≤ n) (h : n < 10) : strconv_Itoa_34.f n = some (dig n) := by
  have e : ∀ m : Nat, m < 10 → (⟨(Lib.decDigits m).toArray⟩ : ByteArray) = dig m := by
    intro m hm
    rw [Lib.decDigits, dif_pos hm]
    have : ∀ m < 10, (⟨#[UInt8.ofNat (48 + m)]⟩ : ByteArray) = dig (m : Int) := by decide +kernel
    exact this m hm
  unfold strconv_Itoa_34.f
  rw [if_pos ⟨h0, by omega⟩, e n.toNat (by omega), Int.toNat_of_nonneg h0]
theorem join_two (k : Nat) (x y : ByteArray) (hx : x.size = 1) (hy : y.size = 1) : strings_Join.f k [x, y] ⟨#[32]⟩ = some (x ++ (⟨#[32]⟩ : ByteArray) ++ y) := by
  have e : Lib.join ([x, y].map (·.data.toList)) (⟨#[32]⟩ : ByteArray).data.toList = (x ++ (⟨#[32]⟩ : ByteArray) ++ y).data.toList := by
    simp [Lib.join, ByteArray.data_append, List.intercalate]
  have l : (x ++ (⟨#[32]⟩ : ByteArray) ++ y).data.toList.length = 3 := by
    show (x ++ (⟨#[32]⟩ : ByteArray) ++ y).size = 3
    have e1 : ((⟨#[32]⟩ : ByteArray)).size = 1 := rfl
    rw [ByteArray.size_append, ByteArray.size_append, hx, hy, e1]
  unfold strings_Join.f
  rw [e, l, if_pos ⟨by simp, by decide⟩]
theorem join_one (k : Nat) (x : ByteArray) (hx : x.size = 1) : strings_Join.f k [x] ⟨#[32]⟩ = some x := by
  have e : Lib.join ([x].map (·.data.toList)) (⟨#[32]⟩ : ByteArray).data.toList = x.data.toList := by
    simp [Lib.join, List.intercalate]
  have l : x.data.toList.length = 1 := hx
  unfold strings_Join.f
  rw [e, l, if_pos ⟨by simp, by decide⟩]
theorem numbers_two (a b : Int) (a0 : 0 ≤ a) (a1 : a < 10) (b0 : 0 ≤ b) (b1 : b < 10) : Ev (fun k => impl_numbersText.f k [a, b]) (dig a ++ (⟨#[32]⟩ : ByteArray) ++ dig b) := by
  have w1 : wrap64 ((1 : Int) + 1) = 2 := by decide +kernel
  have w0 : wrap64 ((0 : Int) + 1) = 1 := by decide +kernel
  have r0 : rd [a, b] 0 = a := rfl
  have r1 : rd [a, b] 1 = b := rfl
  have n2 : (([a, b] : List Int).length : Int) = 2 := rfl
  simp only [impl_numbersText.f, n2]
  refine ev_up (ev_up (ev_up ?_))
  simp only [impl_numbersText.l0, n2, Int.reduceLT, Int.reduceLE, r0, r1, w0, w1, itoa_dig a a0 a1, itoa_dig b b0 b1, Option.bind_some, List.nil_append, List.cons_append, List.length_nil, List.length_cons, Nat.reduceLT, Nat.reduceAdd, ↓reduceIte, join_two _ _ _ (dig_size a) (dig_size b)]
  exact Ev.now _
theorem numbers_one (a : Int) (a0 : 0 ≤ a) (a1 : a < 10) : Ev (fun k => impl_numbersText.f k [a]) (dig a) := by
  have w0 : wrap64 ((0 : Int) + 1) = 1 := by decide +kernel
  have r0 : rd [a] 0 = a := rfl
  have n1 : (([a] : List Int).length : Int) = 1 := rfl
  simp only [impl_numbersText.f, n1]
  refine ev_up (ev_up ?_)
  simp only [impl_numbersText.l0, n1, Int.reduceLT, Int.reduceLE, r0, w0, itoa_dig a a0 a1, Option.bind_some, List.nil_append, List.length_nil, Nat.reduceLT, ↓reduceIte, join_one _ _ (dig_size a)]
  exact Ev.now _
/-- The line of an action. -/
def actLine (a : S47) : ByteArray := if a.f0 = 1 then ((((((⟨#[112, 117, 116, 32]⟩ : ByteArray) ++ dig a.f1) ++ (⟨#[32]⟩ : ByteArray)) ++ dig a.f2) ++ (⟨#[32]⟩ : ByteArray)) ++ ltr a.f3.f0 a.f3.f1) ++ (⟨#[10]⟩ : ByteArray) else if a.f0 = 2 then ((⟨#[109, 97, 114, 98, 108, 101, 32]⟩ : ByteArray) ++ dig a.f2) ++ (⟨#[10]⟩ : ByteArray) else (⟨#[114, 101, 115, 101, 116, 10]⟩ : ByteArray)
theorem okAct_is {r c : Int} {a : S47} (hr : r ≤ 10) (hc : c ≤ 9) (h : okAct r c a = true) : 0 ≤ a.f1 ∧ a.f1 < 10 ∧ 0 ≤ a.f2 ∧ a.f2 < 10 ∧ (a.f0 = 1 → okCell ⟨a.f3.f0, a.f3.f1⟩ = true) := by
  unfold okAct at h
  simp only [Bool.and_eq_true, decide_eq_true_eq] at h
  refine ⟨by omega, by omega, by omega, by omega, fun k => ?_⟩
  have := h.2
  rw [if_pos k] at this
  exact this
theorem lit_sizes : ((⟨#[112, 117, 116, 32]⟩ : ByteArray)).size = 4 ∧ ((⟨#[109, 97, 114, 98, 108, 101, 32]⟩ : ByteArray)).size = 7 ∧ ((⟨#[114, 101, 115, 101, 116, 10]⟩ : ByteArray)).size = 6 ∧ ((⟨#[10]⟩ : ByteArray)).size = 1 ∧ ((⟨#[32]⟩ : ByteArray)).size = 1 := ⟨rfl, rfl, rfl, rfl, rfl⟩
def actLines (s : ByteArray) (l : List S47) : ByteArray := l.foldl (fun s a => s ++ actLine a) s
theorem spec_SessionText_l0 (r c : Int) (hr : r ≤ 10) (hc : c ≤ 9) : ∀ (q p : List S47) (s : ByteArray), (p ++ q).length < 1000000000000000 → s.size + 20 * q.length ≤ 1000000000000000000 → (∀ x ∈ q, okAct r c x = true) → Ev (fun k => spec_SessionText.l0 k s (p ++ q) ((p ++ q).length : Int) (p.length : Int)) (actLines s q, true)
  | [], p, s, h, h1, hq => by
    refine ev_up ?_
    simp only [spec_SessionText.l0, mid_end, ↓reduceIte]
    exact Ev.now _
  | x :: q, p, s, h, h1, hq => by
    have hp : p.length < 9223372036854775807 := by simp only [List.length_append, List.length_cons] at h; omega
    obtain ⟨a0, a1, b0, b1, hk⟩ := okAct_is hr hc (hq x (List.mem_cons_self ..))
    obtain ⟨t1, t2, t3, t4, t5⟩ := lit_sizes
    simp only [List.length_cons] at h1
    refine ev_up ?_
    simp only [spec_SessionText.l0, rd_T47, mid_lt, mid_ge, getD_mid, wrap_mid p x hp, ↓reduceIte]
    show Ev _ (actLines (s ++ actLine x) q, true)
    have next : (s ++ actLine x).size + 20 * q.length ≤ 1000000000000000000 → Ev (fun k => spec_SessionText.l0 k (s ++ actLine x) (p ++ x :: q) ((p ++ x :: q).length : Int) ((p ++ [x]).length : Int)) (actLines (s ++ actLine x) q, true) := by
      intro hs
      rw [step_mid p q x] at h ⊢
      exact spec_SessionText_l0 r c hr hc q (p ++ [x]) _ h hs (fun y hy => hq y (List.mem_cons_of_mem _ hy))
    by_cases k1 : x.f0 = 1
    · have hx := ltr_ok (hk k1)
      have e : actLine x = ((((((⟨#[112, 117, 116, 32]⟩ : ByteArray) ++ dig x.f1) ++ (⟨#[32]⟩ : ByteArray)) ++ dig x.f2) ++ (⟨#[32]⟩ : ByteArray)) ++ ltr x.f3.f0 x.f3.f1) ++ (⟨#[10]⟩ : ByteArray) := by unfold actLine; rw [if_pos k1]
      have es : (actLine x).size = 10 := by rw [e]; simp only [ByteArray.size_append, t1, t4, t5, dig_size, hx.2.2]
      have hz : (s.size + 10 ≤ 9223372036854775807) = True := by apply eq_true; omega
      have nx := next (by rw [ByteArray.size_append, es]; omega)
      simp only [k1, ↓reduceIte]
      refine ev_bind (spec_l1Num_dig _ a1) ?_
      simp only [ByteArray.size_append, t1, t2, t3, t4, t5, dig_size, hx.2.2, Nat.reduceAdd, Nat.reduceLeDiff, hz, ↓reduceIte]
      refine ev_bind (spec_l1Num_dig _ b1) ?_
      simp only [ByteArray.size_append, t1, t2, t3, t4, t5, dig_size, hx.2.2, Nat.reduceAdd, Nat.reduceLeDiff, hz, ↓reduceIte]
      simp only [hx.1, Option.bind_some]
      simp only [ByteArray.size_append, t1, t2, t3, t4, t5, dig_size, hx.2.2, Nat.reduceAdd, Nat.reduceLeDiff, hz, ↓reduceIte]
      rw [← e]
      exact nx
    · by_cases k2 : x.f0 = 2
      · have e : actLine x = ((⟨#[109, 97, 114, 98, 108, 101, 32]⟩ : ByteArray) ++ dig x.f2) ++ (⟨#[10]⟩ : ByteArray) := by unfold actLine; rw [if_neg k1, if_pos k2]
        have es : (actLine x).size = 9 := by rw [e]; simp only [ByteArray.size_append, t2, t4, dig_size]
        have hz : (s.size + 9 ≤ 9223372036854775807) = True := by apply eq_true; omega
        have nx := next (by rw [ByteArray.size_append, es]; omega)
        simp only [k2, Int.reduceEq, ↓reduceIte]
        refine ev_bind (spec_l1Num_dig _ b1) ?_
        simp only [ByteArray.size_append, t1, t2, t3, t4, t5, dig_size, Nat.reduceAdd, Nat.reduceLeDiff, hz, ↓reduceIte]
        rw [← e]
        exact nx
      · have e : actLine x = (⟨#[114, 101, 115, 101, 116, 10]⟩ : ByteArray) := by unfold actLine; rw [if_neg k1, if_neg k2]
        have es : (actLine x).size = 6 := by rw [e, t3]
        have hz : (s.size + 6 ≤ 9223372036854775807) = True := by apply eq_true; omega
        have nx := next (by rw [ByteArray.size_append, es]; omega)
        simp only [k1, k2, ↓reduceIte]
        simp only [hz, ↓reduceIte]
        rw [← e]
        exact nx
theorem impl_SessionText_l0 (r c : Int) (hr : r ≤ 10) (hc : c ≤ 9) : ∀ (q p : List S47) (s : ByteArray), (p ++ q).length < 1000000000000000 → s.size + 20 * q.length ≤ 1000000000000000000 → (∀ x ∈ q, okAct r c x = true) → Ev (fun k => impl_SessionText.l0 k s (p ++ q) ((p ++ q).length : Int) (p.length : Int)) (actLines s q, true)
  | [], p, s, h, h1, hq => by
    refine ev_up ?_
    simp only [impl_SessionText.l0, mid_end, ↓reduceIte]
    exact Ev.now _
  | x :: q, p, s, h, h1, hq => by
    have hp : p.length < 9223372036854775807 := by simp only [List.length_append, List.length_cons] at h; omega
    obtain ⟨a0, a1, b0, b1, hk⟩ := okAct_is hr hc (hq x (List.mem_cons_self ..))
    obtain ⟨t1, t2, t3, t4, t5⟩ := lit_sizes
    simp only [List.length_cons] at h1
    refine ev_up ?_
    simp only [impl_SessionText.l0, rd_T47, mid_lt, mid_ge, getD_mid, wrap_mid p x hp, ↓reduceIte]
    show Ev _ (actLines (s ++ actLine x) q, true)
    have next : (s ++ actLine x).size + 20 * q.length ≤ 1000000000000000000 → Ev (fun k => impl_SessionText.l0 k (s ++ actLine x) (p ++ x :: q) ((p ++ x :: q).length : Int) ((p ++ [x]).length : Int)) (actLines (s ++ actLine x) q, true) := by
      intro hs
      rw [step_mid p q x] at h ⊢
      exact impl_SessionText_l0 r c hr hc q (p ++ [x]) _ h hs (fun y hy => hq y (List.mem_cons_of_mem _ hy))
    by_cases k1 : x.f0 = 1
    · have hx := ltr_ok (hk k1)
      have e : actLine x = ((((⟨#[112, 117, 116, 32]⟩ : ByteArray) ++ (dig x.f1 ++ (⟨#[32]⟩ : ByteArray) ++ dig x.f2)) ++ (⟨#[32]⟩ : ByteArray)) ++ ltr x.f3.f0 x.f3.f1) ++ (⟨#[10]⟩ : ByteArray) := by unfold actLine; rw [if_pos k1]; simp only [ByteArray.append_assoc]
      have es : (actLine x).size = 10 := by rw [e]; simp only [ByteArray.size_append, t1, t4, t5, dig_size, hx.2.2]
      have hz : (s.size + 10 ≤ 9223372036854775807) = True := by apply eq_true; omega
      have nx := next (by rw [ByteArray.size_append, es]; omega)
      simp only [k1, hx.2.1, Option.bind_some, ↓reduceIte]
      refine ev_bind (numbers_two _ _ a0 a1 b0 b1) ?_
      simp only [ByteArray.size_append, t1, t2, t3, t4, t5, dig_size, hx.2.2, Nat.reduceAdd, Nat.reduceLeDiff, hz, ↓reduceIte]
      rw [← e]
      exact nx
    · by_cases k2 : x.f0 = 2
      · have e : actLine x = ((⟨#[109, 97, 114, 98, 108, 101, 32]⟩ : ByteArray) ++ dig x.f2) ++ (⟨#[10]⟩ : ByteArray) := by unfold actLine; rw [if_neg k1, if_pos k2]
        have es : (actLine x).size = 9 := by rw [e]; simp only [ByteArray.size_append, t2, t4, dig_size]
        have hz : (s.size + 9 ≤ 9223372036854775807) = True := by apply eq_true; omega
        have nx := next (by rw [ByteArray.size_append, es]; omega)
        simp only [k2, Int.reduceEq, ↓reduceIte]
        refine ev_bind (numbers_one _ b0 b1) ?_
        simp only [ByteArray.size_append, t1, t2, t3, t4, t5, dig_size, Nat.reduceAdd, Nat.reduceLeDiff, hz, ↓reduceIte]
        rw [← e]
        exact nx
      · have e : actLine x = (⟨#[114, 101, 115, 101, 116, 10]⟩ : ByteArray) := by unfold actLine; rw [if_neg k1, if_neg k2]
        have es : (actLine x).size = 6 := by rw [e, t3]
        have hz : (s.size + 6 ≤ 9223372036854775807) = True := by apply eq_true; omega
        have nx := next (by rw [ByteArray.size_append, es]; omega)
        simp only [k1, k2, ↓reduceIte]
        simp only [hz, ↓reduceIte]
        rw [← e]
        exact nx
def rSessionText (r c : Int) (l : List S45) (d u : List S47) : ByteArray × Bool := if goodSession r c l d u = true then (actLines (rowsText c l r.toNat ⟨#[]⟩ 0) d, true) else (⟨#[]⟩, false)
theorem goodSession_is {r c : Int} {l : List S45} {d u : List S47} (h : goodSession r c l d u = true) : goodBoard r c l = true ∧ (∀ x ∈ d, okAct r c x = true) ∧ d.length ≤ 40 := by
  unfold goodSession at h
  simp only [Bool.and_eq_true, List.all_eq_true, decide_eq_true_eq] at h
  exact ⟨h.1, h.2.1, by omega⟩
theorem text_start {r c : Int} {l : List S45} (hb : goodBoard r c l = true) : (rowsText c l r.toNat ⟨#[]⟩ 0).size ≤ 910 := by
  have h := goodBoard_size hb
  have e0 : ((⟨#[]⟩ : ByteArray)).size = 0 := rfl
  have := rowsText_size hb r.toNat ⟨#[]⟩ 0 (by omega) (by omega)
  rw [e0] at this
  omega
theorem spec_SessionText_ev (r c : Int) (l : List S45) (d u : List S47) (hd : d.length ≤ 1048576) (hu : u.length ≤ 1048576) : Ev (fun k => spec_SessionText.f k r c l d u) (rSessionText r c l d u) := by
  simp only [spec_SessionText.f]
  refine ev_bind (spec_seGood_ev r c l d u hd hu) ?_
  unfold rSessionText
  cases hg : goodSession r c l d u
  · simpa using Ev.now _
  · obtain ⟨hb, ha, h4⟩ := goodSession_is hg
    have hz := goodBoard_size hb
    have ht := text_start hb
    simp only [↓reduceIte]
    refine ev_bind (spec_boText_ev hb) ?_
    simpa using spec_SessionText_l0 r c hz.2.1 hz.2.2.2 d [] (rowsText c l r.toNat ⟨#[]⟩ 0) (by simp; omega) (by omega) ha
theorem impl_SessionText_ev (r c : Int) (l : List S45) (d u : List S47) (hd : d.length ≤ 1048576) (hu : u.length ≤ 1048576) : Ev (fun k => impl_SessionText.f k r c l d u) (rSessionText r c l d u) := by
  simp only [impl_SessionText.f]
  refine ev_bind (impl_IsSession_ev r c l d u hd hu) ?_
  unfold rSessionText
  cases hg : goodSession r c l d u
  · simpa using Ev.now _
  · obtain ⟨hb, ha, h4⟩ := goodSession_is hg
    have hz := goodBoard_size hb
    have ht := text_start hb
    simp only [↓reduceIte]
    refine ev_bind (impl_BoardText_ev hb) ?_
    simpa using impl_SessionText_l0 r c hz.2.1 hz.2.2.2 d [] (rowsText c l r.toNat ⟨#[]⟩ 0) (by simp; omega) (by omega) ha
theorem FnExactSessionText (r : Int) (c : Int) (l : List S66) (d : List S68) (u : List S68) (wr : (Lit.int .i64 r).wf = true) (wc : (Lit.int .i64 c).wf = true) (wl : l.length ≤ maxLen) (we : ∀ z ∈ l, (Lit.int .i64 z.f0).wf = true ∧ (Lit.int .i64 z.f1).wf = true) (wd : d.length ≤ maxLen) (ed : ∀ z ∈ d, (Lit.int .i64 z.f0).wf = true ∧ (Lit.int .i64 z.f1).wf = true ∧ (Lit.int .i64 z.f2).wf = true ∧ (Lit.int .i64 z.f3.f0).wf = true ∧ (Lit.int .i64 z.f3.f1).wf = true) (wu : u.length ≤ maxLen) (eu : ∀ z ∈ u, (Lit.int .i64 z.f0).wf = true ∧ (Lit.int .i64 z.f1).wf = true ∧ (Lit.int .i64 z.f2).wf = true ∧ (Lit.int .i64 z.f3.f0).wf = true ∧ (Lit.int .i64 z.f3.f1).wf = true) : ∃ k, laws_FnExactSessionText.f k r c l d u = some true := by
  refine Ev.rounds (g := fun k => laws_FnExactSessionText.f k r c l d u) ?_
  by_cases hb : l.length + d.length + u.length ≤ 1048576
  · have hm := (show maxLen ≤ 9223372036854775807 by decide); have SZ := szSession_eq r c l d u (by omega) (by omega) (by omega)
    have hs1 : l.length ≤ 1048576 := by omega
    have hs2 : d.length ≤ 1048576 := by omega
    have hs3 : u.length ≤ 1048576 := by omega
    have hc1 : (1048576 - (l.length : Int) - (d.length : Int) - (u.length : Int) < 0) = False := by apply eq_false; omega
    have hL : (l.map toCell).length = l.length := by simp
    have hD : (d.map toAct).length = d.length := by simp
    have hU : (u.map toAct).length = u.length := by simp
    have TS := laws_toSession_ev r c l d u hs1 hs2 hs3
    have ES := laws_eqSession_ev r c (l.map toCell) (d.map toAct) (u.map toAct) (by omega) (by omega) (by omega)
    have S := spec_SessionText_ev r c (l.map toCell) (d.map toAct) (u.map toAct) (by omega) (by omega)
    have I := impl_SessionText_ev r c (l.map toCell) (d.map toAct) (u.map toAct) (by omega) (by omega)
    simp only [laws_FnExactSessionText.f]
    repeat (first
      | exact Ev.now _
      | with_reducible refine ev_bind (by with_reducible assumption) ?_
      | simp only [*, Option.bind_some, bne_self_eq_false, ↓reduceIte, Bool.false_eq_true, gt_iff_lt]
      | (refine ev_up ?_; simp only [laws_FnExactSessionText.j0]))
  · have hm := (show maxLen ≤ 9223372036854775807 by decide); have SZ := szSession_eq r c l d u (by omega) (by omega) (by omega)
    have hc1 : ((-1 : Int) < 0) = True := by apply eq_true; omega
    simp only [laws_FnExactSessionText.f]
    repeat (first
      | exact Ev.now _
      | with_reducible refine ev_bind (by with_reducible assumption) ?_
      | simp only [*, Option.bind_some, bne_self_eq_false, ↓reduceIte, Bool.false_eq_true, gt_iff_lt])

end Go.Proofs.YtkkgjljcgnegpaaDoor.Pure
