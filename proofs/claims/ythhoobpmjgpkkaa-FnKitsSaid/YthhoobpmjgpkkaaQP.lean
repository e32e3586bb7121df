/- The law FnKits of plain lists and numbers: whatever the input, it answers true. Condition: the lengths are those of rows that fit a machine. -/
import Derived.Test.YthhoobpmjgpkkaaQ3
namespace Go.Proofs.Ythhoobpmjgpkkaa.Pure
open Go.RowKit Go.Proofs.Ythhoobpmjgpkkaa.E Go.Proofs.YthhoobpmjgpkkaaW.PrintWords Go.Proofs.YthhoobpmjgpkkaaW.PrintLast Go.Proofs.YthhoobpmjgpkkaaW.PrintMore
set_option linter.unusedVariables false
set_option linter.unusedSimpArgs false

/-! ### Ground: rounds, and a row seen as what is behind and what is ahead -/
theorem ev_up {α : Type} {g : Nat → Option α} {r : α} (h : Ev (fun k => g (k + 1)) r) : Ev g r := by
  obtain ⟨K, hK⟩ := h
  refine ⟨K + 1, fun k hk => ?_⟩
  obtain ⟨m, rfl⟩ : ∃ m, k = m + 1 := ⟨k - 1, by omega⟩
  exact hK m (by omega)
theorem ev_eq {α : Type} {g : Nat → Option α} {r r' : α} (h : Ev g r) (e : r = r') : Ev g r' := e ▸ h
theorem ev_bind {α β : Type} {g : Nat → Option α} {f : Nat → α → Option β} {a : α} {r : β} (h : Ev g a) (k : Ev (fun n => f n a) r) : Ev (fun n => (g n).bind (f n)) r := Ev.bind h k
theorem mid_lt {α : Type} (p q : List α) (x : α) : ((p.length : Int) < ((p ++ x :: q).length : Int)) = True := by
  apply eq_true; simp only [List.length_append, List.length_cons]; omega
theorem mid_lt2 {α β : Type} (p : List α) (p' q : List β) (x : β) (h : p.length = p'.length) : ((p.length : Int) < ((p' ++ x :: q).length : Int)) = True := by
  apply eq_true; simp only [List.length_append, List.length_cons]; omega
theorem mid_ge {α : Type} (p : List α) : (0 ≤ (p.length : Int)) = True := by apply eq_true; omega
theorem mid_end {α : Type} (p : List α) : ((p.length : Int) < ((p ++ []).length : Int)) = False := by simp
theorem mid_lt_l {α : Type} (p : List α) (x : α) (q : List α) : ((p.length : Int) < (p.length : Int) + ((x :: q).length : Int)) = True := by
  apply eq_true; simp only [List.length_cons]; omega
theorem rd_mid (p q : List Int) (x : Int) : rd (p ++ x :: q) (p.length : Int) = x := by simp [rd]
theorem rd_mid2 {α : Type} (p : List α) (p' q : List Int) (x : Int) (h : p.length = p'.length) : rd (p' ++ x :: q) (p.length : Int) = x := by simp [rd, h]
theorem getD_mid {α : Type} (p q : List α) (x z : α) : (p ++ x :: q).getD ((p.length : Int)).toNat z = x := by simp
theorem getD_mid2 {α β : Type} (p : List α) (p' q : List β) (x z : β) (h : p.length = p'.length) : (p' ++ x :: q).getD ((p.length : Int)).toNat z = x := by simp [h]
theorem set_mid {α : Type} (p q : List α) (x y : α) : (p ++ x :: q).set ((p.length : Int)).toNat y = p ++ y :: q := by simp
theorem set_mid2 {α β : Type} (p : List α) (p' q : List β) (x y : β) (h : p.length = p'.length) : (p' ++ x :: q).set ((p.length : Int)).toNat y = p' ++ y :: q := by simp [h]
theorem wrap_mid {α : Type} (p : List α) (x : α) (h : p.length < 9223372036854775807) : wrap64 ((p.length : Int) + 1) = ((p ++ [x]).length : Int) := by
  unfold wrap64; simp only [List.length_append, List.length_singleton]; omega
theorem step_mid {α : Type} (p q : List α) (x : α) : p ++ x :: q = (p ++ [x]) ++ q := by simp
theorem wrap_id {x : Int} (h0 : -9223372036854775808 ≤ x) (h1 : x ≤ 9223372036854775807) : wrap64 x = x := by unfold wrap64; omega
theorem wf_i64 {x : Int} (h : (Lit.int .i64 x).wf = true) : -9223372036854775808 ≤ x ∧ x ≤ 9223372036854775807 := by
  have h1 : IntKind.i64.min = -9223372036854775808 := by decide +kernel
  have h2 : IntKind.i64.max = 9223372036854775807 := by decide +kernel
  simp only [Lit.wf, h1, h2, Bool.and_eq_true, decide_eq_true_eq] at h
  omega
theorem l1In_eq (a lo hi : Int) : spec_l1In.f a lo hi = some (decide (lo ≤ a ∧ a ≤ hi)) := by
  by_cases h : lo ≤ a <;> simp [spec_l1In.f, h]
theorem spec_l1All_l0 (lo hi : Int) : ∀ (q p : List Int), (p ++ q).length < 9223372036854775807 → Ev (fun k => spec_l1All.l0 k lo hi (p ++ q) ((p ++ q).length : Int) (p.length : Int)) (q.all fun x => decide (lo ≤ x ∧ x ≤ hi))
  | [], p, h => by
    refine ev_up ?_
    simp only [spec_l1All.l0, mid_end, ↓reduceIte]
    exact Ev.now _
  | x :: q, p, h => by
    have hp : p.length < 9223372036854775807 := by simp only [List.length_append, List.length_cons] at h; omega
    refine ev_up ?_
    simp only [spec_l1All.l0, l1In_eq, Option.bind_some, mid_lt, mid_ge, rd_mid, wrap_mid p x hp, ↓reduceIte, List.all_cons]
    cases decide (lo ≤ x ∧ x ≤ hi) with
    | false => simpa using Ev.now _
    | true =>
      simp only [↓reduceIte, Bool.true_and]
      rw [step_mid p q x] at h ⊢
      exact spec_l1All_l0 lo hi q (p ++ [x]) h
theorem spec_l1All_ev (l : List Int) (lo hi : Int) (h : l.length < 9223372036854775807) : Ev (fun k => spec_l1All.f k l lo hi) (l.all fun x => decide (lo ≤ x ∧ x ≤ hi)) := by
  simpa [spec_l1All.f] using spec_l1All_l0 lo hi l [] (by simpa using h)
theorem l1Least_eq (a b : Int) : spec_l1Least.f a b = some (mn a b) := by
  unfold spec_l1Least.f mn; split <;> split <;> first | rfl | (congr 1; omega)
theorem l1Most_eq (a b : Int) : spec_l1Most.f a b = some (mx a b) := by
  unfold spec_l1Most.f mx; split <;> split <;> first | rfl | (congr 1; omega)
def okCell (c : S116) : Bool := decide (0 ≤ c.f0 ∧ c.f0 ≤ 7 ∧ (c.f1 = 0 ∨ (c.f1 = 1 ∧ (c.f0 = 3 ∨ c.f0 = 6))))
def goodBoard (r c : Int) (l : List S116) : Bool := decide (1 ≤ r ∧ r ≤ 10 ∧ 1 ≤ c ∧ c ≤ 9 ∧ (l.length : Int) = r * c) && l.all okCell
theorem size_le {r c : Int} (h1 : 1 ≤ r) (h2 : r ≤ 10) (h3 : 1 ≤ c) (h4 : c ≤ 9) : 0 ≤ r * c ∧ r * c ≤ 90 :=
  ⟨Int.mul_nonneg (by omega) (by omega), Int.le_trans (Int.mul_le_mul h2 h4 (by omega) (by omega)) (by omega)⟩
theorem goodBoard_len {r c : Int} {l : List S116} (h : goodBoard r c l = true) : l.length ≤ 90 := by
  unfold goodBoard at h
  simp only [Bool.and_eq_true, decide_eq_true_eq] at h
  have := size_le h.1.1 h.1.2.1 h.1.2.2.1 h.1.2.2.2.1
  omega
theorem goodBoard_ok {r c : Int} {l : List S116} (h : goodBoard r c l = true) : ∀ x ∈ l, okCell x = true := by
  unfold goodBoard at h
  simp only [Bool.and_eq_true, List.all_eq_true] at h
  exact h.2
theorem okCell_kind {x : S116} (h : okCell x = true) : 0 ≤ x.f0 ∧ x.f0 ≤ 7 := by
  unfold okCell at h; simp only [decide_eq_true_eq] at h; omega
theorem paGood_eq (a b : Int) : spec_paGood.f a b = some (okCell ⟨a, b⟩) := by
  simp only [spec_paGood.f, spec_paTurning.f, okCell, l1In_eq, Option.bind_some]
  repeat' split
  all_goals
    simp only [Option.bind_some, Option.some.injEq]
    rw [Bool.eq_iff_iff]
    simp_all
    try omega
theorem IsCell_eq (a b : Int) : impl_IsCell.f a b = some (okCell ⟨a, b⟩) := by
  simp only [impl_IsCell.f, okCell]
  repeat' split
  all_goals
    simp only [Option.some.injEq]
    rw [Bool.eq_iff_iff]
    simp_all
    try omega
theorem impl_validCells_l0 : ∀ (q p : List S116), (p ++ q).length < 9223372036854775807 → Ev (fun k => impl_validCells.l0 k (p ++ q) ((p ++ q).length : Int) (p.length : Int)) (q.all okCell)
  | [], p, h => by
    refine ev_up ?_
    simp only [impl_validCells.l0, mid_end, ↓reduceIte]
    exact Ev.now _
  | x :: q, p, h => by
    have hp : p.length < 9223372036854775807 := by simp only [List.length_append, List.length_cons] at h; omega
    refine ev_up ?_
    simp only [impl_validCells.l0, IsCell_eq, Option.bind_some, rd_T116, mid_lt, mid_ge, getD_mid, wrap_mid p x hp, ↓reduceIte, List.all_cons]
    cases okCell x with
    | false => simpa using Ev.now _
    | true =>
      simp only [↓reduceIte, Bool.true_and]
      rw [step_mid p q x] at h ⊢
      exact impl_validCells_l0 q (p ++ [x]) h
theorem impl_validCells_ev (l : List S116) (h : l.length ≤ 90) : Ev (fun k => impl_validCells.f k l) (l.all okCell) := by
  have : ¬ ((l.length : Int) > 90) := by omega
  simp only [impl_validCells.f, this, ↓reduceIte]
  simpa using impl_validCells_l0 l [] (by simp; omega)
theorem impl_IsBoard_ev (r c : Int) (l : List S116) : Ev (fun k => impl_IsBoard.f k r c l) (goodBoard r c l) := by
  by_cases h : 1 ≤ r ∧ r ≤ 10 ∧ 1 ≤ c ∧ c ≤ 9
  · obtain ⟨h1, h2, h3, h4⟩ := h
    have hs := size_le h1 h2 h3 h4
    have hw : wrap64 (r * c) = r * c := wrap_id (by omega) (by omega)
    by_cases hl : (l.length : Int) = r * c
    · have hg : goodBoard r c l = l.all okCell := by simp [goodBoard, h1, h2, h3, h4, hl]
      simp only [impl_IsBoard.f, hw, hl, ge_iff_le, h1, h2, h3, h4, ↓reduceIte, hg]
      exact ev_bind (impl_validCells_ev l (by omega)) (Ev.now _)
    · have hg : goodBoard r c l = false := by simp [goodBoard, hl]
      simp only [impl_IsBoard.f, hw, hl, ge_iff_le, h1, h2, h3, h4, ↓reduceIte, hg]
      exact Ev.now _
  · have hg : goodBoard r c l = false := by
      unfold goodBoard
      have : ¬ (1 ≤ r ∧ r ≤ 10 ∧ 1 ≤ c ∧ c ≤ 9 ∧ (l.length : Int) = r * c) := fun h' => h ⟨h'.1, h'.2.1, h'.2.2.1, h'.2.2.2.1⟩
      simp [this]
    rw [hg]
    simp only [impl_IsBoard.f, ge_iff_le]
    by_cases h1 : 1 ≤ r
    · by_cases h2 : r ≤ 10
      · by_cases h3 : 1 ≤ c
        · have h4 : ¬ c ≤ 9 := fun h4 => h ⟨h1, h2, h3, h4⟩
          simp only [h1, h2, h3, h4, ↓reduceIte]; exact Ev.now _
        · simp only [h1, h2, h3, ↓reduceIte]; exact Ev.now _
      · simp only [h1, h2, ↓reduceIte]; exact Ev.now _
    · simp only [h1, ↓reduceIte]; exact Ev.now _
theorem spec_boGood_l0 : ∀ (q p : List S116), (p ++ q).length < 9223372036854775807 → Ev (fun k => spec_boGood.l0 k (p ++ q) ((p ++ q).length : Int) (p.length : Int)) (q.all okCell)
  | [], p, h => by
    refine ev_up ?_
    simp only [spec_boGood.l0, mid_end, ↓reduceIte]
    exact Ev.now _
  | x :: q, p, h => by
    have hp : p.length < 9223372036854775807 := by simp only [List.length_append, List.length_cons] at h; omega
    refine ev_up ?_
    simp only [spec_boGood.l0, paGood_eq, Option.bind_some, rd_T116, mid_lt, mid_ge, getD_mid, wrap_mid p x hp, ↓reduceIte, List.all_cons]
    cases okCell x with
    | false => simpa using Ev.now _
    | true =>
      simp only [↓reduceIte, Bool.true_and]
      rw [step_mid p q x] at h ⊢
      exact spec_boGood_l0 q (p ++ [x]) h
theorem spec_boGood_ev (r c : Int) (l : List S116) : Ev (fun k => spec_boGood.f k r c l) (goodBoard r c l) := by
  have fin : Ev (fun k => spec_boGood.j0 k true r c l) false := by
    refine ev_up ?_
    simp only [spec_boGood.j0, ↓reduceIte]
    exact Ev.now _
  simp only [spec_boGood.f, l1In_eq, Option.bind_some]
  by_cases hr : 1 ≤ r ∧ r ≤ 10
  · by_cases hc : 1 ≤ c ∧ c ≤ 9
    · have hs := size_le hr.1 hr.2 hc.1 hc.2
      have hw : wrap64 (r * c) = r * c := wrap_id (by omega) (by omega)
      by_cases hl : (l.length : Int) = r * c
      · have hg : goodBoard r c l = l.all okCell := by simp [goodBoard, hr, hc, hl]
        simp only [hr, hc, hw, hl, hg, and_self, decide_true, ↓reduceIte, bne_self_eq_false]
        refine ev_up ?_
        simp only [spec_boGood.j0, ↓reduceIte, Bool.false_eq_true]
        have := spec_boGood_l0 l [] (by simp; omega)
        simpa using this
      · have hg : goodBoard r c l = false := by simp [goodBoard, hl]
        have hb : ((l.length : Int) != r * c) = true := by simpa using hl
        simp only [hr, hc, hw, hb, hg, and_self, decide_true, ↓reduceIte]
        exact fin
    · have hg : goodBoard r c l = false := by
        unfold goodBoard
        have : ¬ (1 ≤ r ∧ r ≤ 10 ∧ 1 ≤ c ∧ c ≤ 9 ∧ (l.length : Int) = r * c) := fun h' => hc ⟨h'.2.2.1, h'.2.2.2.1⟩
        simp [this]
      simp only [hr, hc, hg, and_self, decide_true, decide_false, ↓reduceIte, Bool.false_eq_true]
      exact fin
  · have hg : goodBoard r c l = false := by
      unfold goodBoard
      have : ¬ (1 ≤ r ∧ r ≤ 10 ∧ 1 ≤ c ∧ c ≤ 9 ∧ (l.length : Int) = r * c) := fun h' => hr ⟨h'.1, h'.2.1⟩
      simp [this]
    simp only [hr, hg, decide_false, ↓reduceIte, Bool.false_eq_true]
    exact fin
/-- The cells of each kind. -/
def cnt (v : List Int) : List S116 → List Int
  | [] => v
  | x :: q => cnt (v.set x.f0.toNat (wrap64 (rd v x.f0 + 1))) q
theorem cnt_len : ∀ (q : List S116) (v : List Int), (cnt v q).length = v.length
  | [], v => rfl
  | x :: q, v => by rw [cnt, cnt_len q]; simp
def need (l : List S116) : List Int := (cnt (List.replicate 8 0) l).drop 1
theorem need_len (l : List S116) : (need l).length = 7 := by simp [need, cnt_len]
theorem spec_boParts_l0 : ∀ (q p : List S116) (v : List Int), (p ++ q).length < 9223372036854775807 → v.length = 8 → (∀ r ∈ q, okCell r = true) → Ev (fun k => spec_boParts.l0 k v (p ++ q) ((p ++ q).length : Int) (p.length : Int)) (cnt v q)
  | [], p, v, h, hv, ho => by
    refine ev_up ?_
    simp only [spec_boParts.l0, mid_end, ↓reduceIte, cnt]
    exact Ev.now _
  | x :: q, p, v, h, hv, ho => by
    have hp : p.length < 9223372036854775807 := by simp only [List.length_append, List.length_cons] at h; omega
    obtain ⟨k0, k7⟩ := okCell_kind (ho x List.mem_cons_self)
    have hk : (x.f0 < (v.length : Int)) = True := by apply eq_true; omega
    refine ev_up ?_
    simp only [spec_boParts.l0, rd_T116, mid_lt, mid_ge, getD_mid, wrap_mid p x hp, k0, hk, ↓reduceIte, cnt]
    rw [step_mid p q x] at h ⊢
    exact spec_boParts_l0 q (p ++ [x]) _ h (by simp [hv]) (fun r hr => ho r (List.mem_cons_of_mem _ hr))
theorem spec_boParts_ev (r c : Int) (l : List S116) (h : l.length ≤ 90) (ho : ∀ x ∈ l, okCell x = true) : Ev (fun k => spec_boParts.f k r c l) (cnt (List.replicate 8 0) l) := by
  simpa [spec_boParts.f] using spec_boParts_l0 l [] (List.replicate 8 0) (by simp; omega) (by simp) ho
theorem spec_kiOf_ev (r c : Int) (l : List S116) (h : goodBoard r c l = true) : Ev (fun k => spec_kiOf.f k r c l) (need l) := by
  simp only [spec_kiOf.f]
  refine ev_bind (spec_boParts_ev r c l (goodBoard_len h) (goodBoard_ok h)) ?_
  have : (1 ≤ ((cnt (List.replicate 8 0) l).length : Int)) = True := by apply eq_true; rw [cnt_len]; simp
  simp only [this, ↓reduceIte]
  exact Ev.now _
theorem impl_CountKinds_l0 : ∀ (q p : List S116) (v : List Int), (p ++ q).length < 9223372036854775807 → v.length = 8 → (∀ r ∈ q, okCell r = true) → Ev (fun k => impl_CountKinds.l0 k v (p ++ q) ((p ++ q).length : Int) (p.length : Int)) (cnt v q, true)
  | [], p, v, h, hv, ho => by
    refine ev_up ?_
    simp only [impl_CountKinds.l0, mid_end, ↓reduceIte, cnt]
    exact Ev.now _
  | x :: q, p, v, h, hv, ho => by
    have hp : p.length < 9223372036854775807 := by simp only [List.length_append, List.length_cons] at h; omega
    obtain ⟨k0, k7⟩ := okCell_kind (ho x List.mem_cons_self)
    have hk : (x.f0 < (v.length : Int)) = True := by apply eq_true; omega
    refine ev_up ?_
    simp only [impl_CountKinds.l0, rd_T116, mid_lt, mid_ge, getD_mid, wrap_mid p x hp, k0, hk, ↓reduceIte, cnt]
    rw [step_mid p q x] at h ⊢
    exact impl_CountKinds_l0 q (p ++ [x]) _ h (by simp [hv]) (fun r hr => ho r (List.mem_cons_of_mem _ hr))
theorem impl_CountKinds_ev (l : List S116) (h : l.length ≤ 90) (ho : ∀ x ∈ l, okCell x = true) : Ev (fun k => impl_CountKinds.f k l) (cnt (List.replicate 8 0) l, true) := by
  simp only [impl_CountKinds.f]
  have ha : l.all okCell = true := by rw [List.all_eq_true]; exact ho
  refine ev_bind (impl_validCells_ev l h) ?_
  rw [ha]
  simpa using impl_CountKinds_l0 l [] (List.replicate 8 0) (by simp; omega) (by simp) ho
theorem impl_neededParts_ev (r c : Int) (l : List S116) (h : goodBoard r c l = true) : Ev (fun k => impl_neededParts.f k r c l) (need l) := by
  simp only [impl_neededParts.f]
  refine ev_bind (impl_CountKinds_ev l (goodBoard_len h) (goodBoard_ok h)) ?_
  have h1 : (1 ≤ ((cnt (List.replicate 8 0) l).length : Int)) = True := by apply eq_true; rw [cnt_len]; simp
  have h2 : (([] : List Int).length + ((cnt (List.replicate 8 0) l).drop 1).length < 17592186044416) = True := by apply eq_true; simp [cnt_len]
  simp only [h1, h2, Option.bind_some, List.nil_append, ↓reduceIte]
  exact Ev.now _
def goodKit (l : List Int) : Bool := decide (l.length = 7) && l.all fun x => decide (0 ≤ x ∧ x ≤ 600)
theorem goodKit_len {l : List Int} (h : goodKit l = true) : l.length = 7 := by
  unfold goodKit at h; simp only [Bool.and_eq_true, decide_eq_true_eq] at h; exact h.1
theorem spec_kiParts_ev (l : List Int) (h : l.length ≤ 1048576) : Ev (fun k => spec_kiParts.f k l) (goodKit l) := by
  unfold goodKit
  by_cases hl : l.length = 7
  · have : ((l.length : Int) = 7) = True := by apply eq_true; omega
    simp only [spec_kiParts.f, this, hl, decide_true, Bool.true_and, ↓reduceIte]
    exact ev_bind (spec_l1All_ev l 0 600 (by omega)) (Ev.now _)
  · have : ((l.length : Int) = 7) = False := by apply eq_false; omega
    simp only [spec_kiParts.f, this, hl, decide_false, Bool.false_and, ↓reduceIte]
    exact Ev.now _
theorem impl_isKit_l0 : ∀ (q p : List Int), (p ++ q).length < 9223372036854775807 → Ev (fun k => impl_isKit.l0 k (p ++ q) ((p ++ q).length : Int) (p.length : Int)) (q.all fun x => decide (0 ≤ x ∧ x ≤ 600))
  | [], p, h => by
    refine ev_up ?_
    simp only [impl_isKit.l0, mid_end, ↓reduceIte]
    exact ev_eq (Ev.now _) (by simp)
  | x :: q, p, h => by
    have hp : p.length < 9223372036854775807 := by simp only [List.length_append, List.length_cons] at h; omega
    refine ev_up ?_
    simp only [impl_isKit.l0, mid_lt, mid_ge, rd_mid, wrap_mid p x hp, ↓reduceIte, List.all_cons]
    by_cases h0 : x < 0
    · simp only [h0, ↓reduceIte]
      exact ev_eq (Ev.now _) (by have : ¬ 0 ≤ x := by omega
                                 simp [this])
    · by_cases h1 : x > 600
      · simp only [h0, h1, ↓reduceIte]
        exact ev_eq (Ev.now _) (by have : ¬ x ≤ 600 := by omega
                                   simp [this])
      · simp only [h0, h1, ↓reduceIte]
        have e : decide (0 ≤ x ∧ x ≤ 600) = true := by rw [decide_eq_true_iff]; omega
        rw [e, Bool.true_and]
        rw [step_mid p q x] at h ⊢
        exact impl_isKit_l0 q (p ++ [x]) h
theorem impl_isKit_ev (l : List Int) : Ev (fun k => impl_isKit.f k l) (goodKit l) := by
  unfold goodKit
  by_cases hl : l.length = 7
  · have : ((l.length : Int) = 7) = True := by apply eq_true; omega
    simp only [impl_isKit.f, this, hl, decide_true, Bool.true_and, ↓reduceIte]
    simpa [hl] using impl_isKit_l0 l [] (by simp; omega)
  · have : ((l.length : Int) = 7) = False := by apply eq_false; omega
    simp only [impl_isKit.f, this, hl, decide_false, Bool.false_and, ↓reduceIte]
    exact Ev.now _
def enoughV : List Int → List Int → Bool
  | a :: q', b :: q => if a < b then false else enoughV q' q
  | _, _ => true
def mostV (m : Int) : List Int → List Int → Int
  | a :: q', b :: q => mostV (if b > 0 then mn m (wrap64 (Int.tdiv a b)) else m) q' q
  | _, _ => m
def missV : List Int → List Int → List Int
  | a :: q', b :: q => mx 0 (wrap64 (b - a)) :: missV q' q
  | _, _ => []
def restV : List Int → List Int → List Int
  | a :: q', b :: q => wrap64 (a - b) :: restV q' q
  | _, _ => []
theorem missV_len : ∀ a b : List Int, (missV a b).length ≤ a.length
  | a :: q', b :: q => by simp only [missV, List.length_cons]; have := missV_len q' q; omega
  | [], _ => by simp [missV]
  | _ :: _, [] => by simp [missV]
theorem restV_len : ∀ a b : List Int, (restV a b).length ≤ a.length
  | a :: q', b :: q => by simp only [restV, List.length_cons]; have := restV_len q' q; omega
  | [], _ => by simp [restV]
  | _ :: _, [] => by simp [restV]
theorem spec_kiEnough_l0 : ∀ (q q' p p' : List Int), p.length = p'.length → q.length = q'.length → (p ++ q).length ≤ 7 → Ev (fun k => spec_kiEnough.l0 k (p' ++ q') (p ++ q) ((p ++ q).length : Int) (p.length : Int)) (enoughV q' q)
  | [], q', p, p', hl, hq, h => by
    obtain rfl : q' = [] := List.eq_nil_of_length_eq_zero hq.symm
    refine ev_up ?_
    simp only [spec_kiEnough.l0, mid_end, ↓reduceIte]
    exact ev_eq (Ev.now _) (by simp [enoughV])
  | x :: q, [], p, p', hl, hq, h => by simp at hq
  | x :: q, y :: q', p, p', hl, hq, h => by
    have hp : p.length < 7 := by simp only [List.length_append, List.length_cons] at h; omega
    refine ev_up ?_
    simp only [spec_kiEnough.l0, mid_lt, mid_ge, mid_lt2 p p' q' y hl, rd_mid, rd_mid2 p p' q' y hl, wrap_mid p x (by omega), ↓reduceIte, enoughV]
    rw [step_mid p q x, step_mid p' q' y]
    rw [step_mid p q x] at h
    by_cases e : y < x
    · simp only [e, ↓reduceIte]
      exact Ev.now _
    · simp only [e, ↓reduceIte]
      exact spec_kiEnough_l0 q q' (p ++ [x]) (p' ++ [y]) (by simp [hl]) (by simpa using hq) h
theorem spec_kiEnough_ev (a b : List Int) (ha : a.length = 7) (hb : b.length = 7) : Ev (fun k => spec_kiEnough.f k a b) (enoughV a b) := by
  simpa [spec_kiEnough.f] using spec_kiEnough_l0 b a [] [] rfl (by omega) (by simp; omega)
theorem impl_isEnough_l0 : ∀ (q q' p p' : List Int), p.length = p'.length → q.length = q'.length → (p ++ q).length ≤ 7 → Ev (fun k => impl_isEnough.l0 k (p' ++ q') (p ++ q) ((p ++ q).length : Int) (p.length : Int)) (enoughV q' q)
  | [], q', p, p', hl, hq, h => by
    obtain rfl : q' = [] := List.eq_nil_of_length_eq_zero hq.symm
    refine ev_up ?_
    simp only [impl_isEnough.l0, mid_end, ↓reduceIte]
    exact ev_eq (Ev.now _) (by simp [enoughV])
  | x :: q, [], p, p', hl, hq, h => by simp at hq
  | x :: q, y :: q', p, p', hl, hq, h => by
    have hp : p.length < 7 := by simp only [List.length_append, List.length_cons] at h; omega
    refine ev_up ?_
    simp only [impl_isEnough.l0, mid_lt, mid_ge, mid_lt2 p p' q' y hl, rd_mid, rd_mid2 p p' q' y hl, wrap_mid p x (by omega), ↓reduceIte, enoughV]
    rw [step_mid p q x, step_mid p' q' y]
    rw [step_mid p q x] at h
    by_cases e : y < x
    · simp only [e, ↓reduceIte]
      exact Ev.now _
    · simp only [e, ↓reduceIte]
      exact impl_isEnough_l0 q q' (p ++ [x]) (p' ++ [y]) (by simp [hl]) (by simpa using hq) h
theorem impl_isEnough_ev (a b : List Int) (ha : a.length = 7) (hb : b.length = 7) : Ev (fun k => impl_isEnough.f k a b) (enoughV a b) := by
  simpa [impl_isEnough.f] using impl_isEnough_l0 b a [] [] rfl (by omega) (by simp; omega)
theorem spec_MostCopies_l0 : ∀ (q q' p p' : List Int) (m : Int), p.length = p'.length → q.length = q'.length → (p ++ q).length ≤ 7 → Ev (fun k => spec_MostCopies.l0 k (p' ++ q') m (p ++ q) ((p ++ q).length : Int) (p.length : Int)) (mostV m q' q, true)
  | [], q', p, p', m, hl, hq, h => by
    obtain rfl : q' = [] := List.eq_nil_of_length_eq_zero hq.symm
    refine ev_up ?_
    simp only [spec_MostCopies.l0, mid_end, ↓reduceIte]
    exact ev_eq (Ev.now _) (by simp [mostV])
  | x :: q, [], p, p', m, hl, hq, h => by simp at hq
  | x :: q, y :: q', p, p', m, hl, hq, h => by
    have hp : p.length < 7 := by simp only [List.length_append, List.length_cons] at h; omega
    refine ev_up ?_
    simp only [spec_MostCopies.l0, mid_lt, mid_ge, mid_lt2 p p' q' y hl, rd_mid, rd_mid2 p p' q' y hl, wrap_mid p x (by omega), l1Least_eq, Option.bind_some, ↓reduceIte, mostV]
    rw [step_mid p q x, step_mid p' q' y]
    rw [step_mid p q x] at h
    by_cases e : x > 0
    · have e2 : (x = 0) = False := by apply eq_false; omega
      simp only [e, e2, ↓reduceIte]
      exact spec_MostCopies_l0 q q' (p ++ [x]) (p' ++ [y]) _ (by simp [hl]) (by simpa using hq) h
    · simp only [e, ↓reduceIte]
      exact spec_MostCopies_l0 q q' (p ++ [x]) (p' ++ [y]) m (by simp [hl]) (by simpa using hq) h
theorem impl_MostCopies_l0 : ∀ (q q' p p' : List Int) (m : Int), p.length = p'.length → q.length = q'.length → (p ++ q).length ≤ 7 → Ev (fun k => impl_MostCopies.l0 k (p' ++ q') m (p ++ q) ((p ++ q).length : Int) (p.length : Int)) (mostV m q' q, true)
  | [], q', p, p', m, hl, hq, h => by
    obtain rfl : q' = [] := List.eq_nil_of_length_eq_zero hq.symm
    refine ev_up ?_
    simp only [impl_MostCopies.l0, mid_end, ↓reduceIte]
    exact ev_eq (Ev.now _) (by simp [mostV])
  | x :: q, [], p, p', m, hl, hq, h => by simp at hq
  | x :: q, y :: q', p, p', m, hl, hq, h => by
    have hp : p.length < 7 := by simp only [List.length_append, List.length_cons] at h; omega
    refine ev_up ?_
    simp only [impl_MostCopies.l0, mid_lt, mid_ge, mid_lt2 p p' q' y hl, rd_mid, rd_mid2 p p' q' y hl, wrap_mid p x (by omega), ↓reduceIte, mostV]
    rw [step_mid p q x, step_mid p' q' y]
    rw [step_mid p q x] at h
    by_cases e : x > 0
    · have e2 : (x = 0) = False := by apply eq_false; omega
      simp only [e, e2, ↓reduceIte]
      exact impl_MostCopies_l0 q q' (p ++ [x]) (p' ++ [y]) _ (by simp [hl]) (by simpa using hq) h
    · simp only [e, ↓reduceIte]
      exact impl_MostCopies_l0 q q' (p ++ [x]) (p' ++ [y]) m (by simp [hl]) (by simpa using hq) h
theorem spec_MissingParts_l0 : ∀ (q q' p p' acc : List Int), p.length = p'.length → q.length = q'.length → (p ++ q).length ≤ 7 → acc.length = p.length → Ev (fun k => spec_MissingParts.l0 k (p' ++ q') acc (p ++ q) ((p ++ q).length : Int) (p.length : Int)) (acc ++ missV q' q, true)
  | [], q', p, p', acc, hl, hq, h, ha => by
    obtain rfl : q' = [] := List.eq_nil_of_length_eq_zero hq.symm
    refine ev_up ?_
    simp only [spec_MissingParts.l0, mid_end, ↓reduceIte]
    exact ev_eq (Ev.now _) (by simp [missV])
  | x :: q, [], p, p', acc, hl, hq, h, ha => by simp at hq
  | x :: q, y :: q', p, p', acc, hl, hq, h, ha => by
    have hp : p.length < 7 := by simp only [List.length_append, List.length_cons] at h; omega
    have h1 : (acc.length < 17592186044416) = True := by apply eq_true; omega
    refine ev_up ?_
    simp only [spec_MissingParts.l0, l1Most_eq, Option.bind_some, h1, mid_lt, mid_ge, mid_lt2 p p' q' y hl, rd_mid, rd_mid2 p p' q' y hl, wrap_mid p x (by omega), ↓reduceIte, missV]
    rw [step_mid p q x, step_mid p' q' y, step_mid acc (missV q' q)]
    rw [step_mid p q x] at h
    exact spec_MissingParts_l0 q q' (p ++ [x]) (p' ++ [y]) _ (by simp [hl]) (by simpa using hq) h (by simp [ha])
theorem impl_MissingParts_l0 (n : Nat) (hn : n ≤ 7) : ∀ (q q' p p' : List Int), p.length = p'.length → q.length = q'.length → p.length + q.length = n → Ev (fun k => impl_MissingParts.l0 k (p' ++ q') (p ++ q) (n : Int) (p.length : Int)) (p ++ missV q' q, true)
  | [], q', p, p', hl, hq, h => by
    obtain rfl : q' = [] := List.eq_nil_of_length_eq_zero hq.symm
    have h1 : ((p.length : Int) < (n : Int)) = False := by apply eq_false; simp at h; omega
    refine ev_up ?_
    simp only [impl_MissingParts.l0, h1, ↓reduceIte]
    exact ev_eq (Ev.now _) (by simp [missV])
  | x :: q, [], p, p', hl, hq, h => by simp at hq
  | x :: q, y :: q', p, p', hl, hq, h => by
    simp only [List.length_cons] at h
    have h1 : ((p.length : Int) < (n : Int)) = True := by apply eq_true; omega
    refine ev_up ?_
    simp only [impl_MissingParts.l0, h1, mid_lt, mid_ge, mid_lt2 p p' q' y hl, rd_mid, rd_mid2 p p' q' y hl, set_mid, wrap_mid p (mx 0 (wrap64 (x - y))) (by omega), ↓reduceIte, missV]
    rw [step_mid p q, step_mid p' q' y, step_mid p (missV q' q)]
    exact impl_MissingParts_l0 n hn q q' (p ++ [mx 0 (wrap64 (x - y))]) (p' ++ [y]) (by simp [hl]) (by simpa using hq) (by simp; omega)
theorem spec_RestOfKit_l0 : ∀ (q q' p p' acc : List Int), p.length = p'.length → q.length = q'.length → (p ++ q).length ≤ 7 → acc.length = p.length → Ev (fun k => spec_RestOfKit.l0 k (p' ++ q') acc (p ++ q) ((p ++ q).length : Int) (p.length : Int)) (acc ++ restV q' q, true)
  | [], q', p, p', acc, hl, hq, h, ha => by
    obtain rfl : q' = [] := List.eq_nil_of_length_eq_zero hq.symm
    refine ev_up ?_
    simp only [spec_RestOfKit.l0, mid_end, ↓reduceIte]
    exact ev_eq (Ev.now _) (by simp [restV])
  | x :: q, [], p, p', acc, hl, hq, h, ha => by simp at hq
  | x :: q, y :: q', p, p', acc, hl, hq, h, ha => by
    have hp : p.length < 7 := by simp only [List.length_append, List.length_cons] at h; omega
    have h1 : (acc.length < 17592186044416) = True := by apply eq_true; omega
    refine ev_up ?_
    simp only [spec_RestOfKit.l0, h1, mid_lt, mid_ge, mid_lt2 p p' q' y hl, rd_mid, rd_mid2 p p' q' y hl, wrap_mid p x (by omega), ↓reduceIte, restV]
    rw [step_mid p q x, step_mid p' q' y, step_mid acc (restV q' q)]
    rw [step_mid p q x] at h
    exact spec_RestOfKit_l0 q q' (p ++ [x]) (p' ++ [y]) _ (by simp [hl]) (by simpa using hq) h (by simp [ha])
theorem impl_RestOfKit_l0 : ∀ (q q' p d : List Int), p.length = d.length → q.length = q'.length → (p ++ q).length ≤ 7 → Ev (fun k => impl_RestOfKit.l0 k (d ++ q') (p ++ q) ((p ++ q).length : Int) (p.length : Int)) (d ++ restV q' q, true)
  | [], q', p, d, hl, hq, h => by
    obtain rfl : q' = [] := List.eq_nil_of_length_eq_zero hq.symm
    refine ev_up ?_
    simp only [impl_RestOfKit.l0, mid_end, ↓reduceIte]
    exact ev_eq (Ev.now _) (by simp [restV])
  | x :: q, [], p, d, hl, hq, h => by simp at hq
  | x :: q, y :: q', p, d, hl, hq, h => by
    have hp : p.length < 7 := by simp only [List.length_append, List.length_cons] at h; omega
    refine ev_up ?_
    simp only [impl_RestOfKit.l0, mid_lt, mid_ge, mid_lt2 p d q' y hl, rd_mid, rd_mid2 p d q' y hl, set_mid2 p d q' y _ hl, wrap_mid p x (by omega), ↓reduceIte, restV]
    rw [step_mid p q x, step_mid d q', step_mid d (restV q' q)]
    rw [step_mid p q x] at h
    exact impl_RestOfKit_l0 q q' (p ++ [x]) _ (by simp [hl]) (by simpa using hq) h
def rNeededParts (r c : Int) (l : List S116) : List Int × Bool := if goodBoard r c l = true then (need l, true) else ([], false)
theorem rNeededParts_len (r c : Int) (l : List S116) : (rNeededParts r c l).1.length ≤ 7 := by
  unfold rNeededParts; split <;> simp [need_len]
theorem spec_NeededParts_ev (r c : Int) (l : List S116) : Ev (fun k => spec_NeededParts.f k r c l) (rNeededParts r c l) := by
  unfold rNeededParts
  simp only [spec_NeededParts.f]
  refine ev_bind (spec_boGood_ev r c l) ?_
  cases hb : goodBoard r c l
  · exact ev_eq (Ev.now _) (by simp)
  · simp only [↓reduceIte]
    exact ev_bind (spec_kiOf_ev r c l hb) (Ev.now _)
theorem impl_NeededParts_ev (r c : Int) (l : List S116) : Ev (fun k => impl_NeededParts.f k r c l) (rNeededParts r c l) := by
  unfold rNeededParts
  simp only [impl_NeededParts.f]
  refine ev_bind (impl_IsBoard_ev r c l) ?_
  cases hb : goodBoard r c l
  · exact ev_eq (Ev.now _) (by simp)
  · simp only [↓reduceIte]
    exact ev_bind (impl_neededParts_ev r c l hb) (Ev.now _)
def rCanMake (kit : List Int) (r c : Int) (l : List S116) : Bool × Bool := if goodKit kit = true ∧ goodBoard r c l = true then (enoughV kit (need l), true) else (false, false)
theorem spec_CanMake_ev (kit : List Int) (r c : Int) (l : List S116) (h : kit.length ≤ 1048576) : Ev (fun k => spec_CanMake.f k kit r c l) (rCanMake kit r c l) := by
  unfold rCanMake
  have fin : Ev (fun k => spec_CanMake.j0 k kit true r c l) (false, false) := by
    refine ev_up ?_
    simp only [spec_CanMake.j0, ↓reduceIte]
    exact Ev.now _
  simp only [spec_CanMake.f]
  refine ev_bind (spec_kiParts_ev kit h) ?_
  cases hk : goodKit kit
  · simpa using fin
  · simp only [↓reduceIte]
    have hkl := goodKit_len hk
    have hnl := need_len l
    refine ev_bind (spec_boGood_ev r c l) ?_
    cases hb : goodBoard r c l
    · simpa using fin
    · simp only [Bool.not_true, and_self, ↓reduceIte]
      refine ev_up ?_
      simp only [spec_CanMake.j0, Bool.false_eq_true, ↓reduceIte]
      refine ev_bind (spec_kiOf_ev r c l hb) ?_
      exact ev_bind (spec_kiEnough_ev kit (need l) hkl hnl) (Ev.now _)
theorem impl_CanMake_ev (kit : List Int) (r c : Int) (l : List S116) (h : kit.length ≤ 1048576) : Ev (fun k => impl_CanMake.f k kit r c l) (rCanMake kit r c l) := by
  unfold rCanMake
  have fin : Ev (fun k => impl_CanMake.j0 k kit true r c l) (false, false) := by
    refine ev_up ?_
    simp only [impl_CanMake.j0, ↓reduceIte]
    exact Ev.now _
  simp only [impl_CanMake.f]
  refine ev_bind (impl_isKit_ev kit) ?_
  cases hk : goodKit kit
  · simpa using fin
  · simp only [↓reduceIte]
    have hkl := goodKit_len hk
    have hnl := need_len l
    refine ev_bind (impl_IsBoard_ev r c l) ?_
    cases hb : goodBoard r c l
    · simpa using fin
    · simp only [Bool.not_true, and_self, ↓reduceIte]
      refine ev_up ?_
      simp only [impl_CanMake.j0, Bool.false_eq_true, ↓reduceIte]
      refine ev_bind (impl_neededParts_ev r c l hb) ?_
      exact ev_bind (impl_isEnough_ev kit (need l) hkl hnl) (Ev.now _)
def rMostCopies (kit : List Int) (r c : Int) (l : List S116) : Int × Bool := if goodKit kit = true ∧ goodBoard r c l = true then (mostV 500 kit (need l), true) else (0, false)
theorem spec_MostCopies_ev (kit : List Int) (r c : Int) (l : List S116) (h : kit.length ≤ 1048576) : Ev (fun k => spec_MostCopies.f k kit r c l) (rMostCopies kit r c l) := by
  unfold rMostCopies
  have fin : Ev (fun k => spec_MostCopies.j0 k kit true r c l) ((0 : Int), false) := by
    refine ev_up ?_
    simp only [spec_MostCopies.j0, ↓reduceIte]
    exact Ev.now _
  simp only [spec_MostCopies.f]
  refine ev_bind (spec_kiParts_ev kit h) ?_
  cases hk : goodKit kit
  · simpa using fin
  · simp only [↓reduceIte]
    have hkl := goodKit_len hk
    have hnl := need_len l
    refine ev_bind (spec_boGood_ev r c l) ?_
    cases hb : goodBoard r c l
    · simpa using fin
    · simp only [Bool.not_true, and_self, ↓reduceIte]
      refine ev_up ?_
      simp only [spec_MostCopies.j0, Bool.false_eq_true, ↓reduceIte]
      refine ev_bind (spec_kiOf_ev r c l hb) ?_
      simpa using spec_MostCopies_l0 (need l) kit [] [] 500 rfl (by omega) (by simp; omega)
theorem impl_MostCopies_ev (kit : List Int) (r c : Int) (l : List S116) (h : kit.length ≤ 1048576) : Ev (fun k => impl_MostCopies.f k kit r c l) (rMostCopies kit r c l) := by
  unfold rMostCopies
  have fin : Ev (fun k => impl_MostCopies.j0 k kit true r c l) ((0 : Int), false) := by
    refine ev_up ?_
    simp only [impl_MostCopies.j0, ↓reduceIte]
    exact Ev.now _
  simp only [impl_MostCopies.f]
  refine ev_bind (impl_isKit_ev kit) ?_
  cases hk : goodKit kit
  · simpa using fin
  · simp only [↓reduceIte]
    have hkl := goodKit_len hk
    have hnl := need_len l
    refine ev_bind (impl_IsBoard_ev r c l) ?_
    cases hb : goodBoard r c l
    · simpa using fin
    · simp only [Bool.not_true, and_self, ↓reduceIte]
      refine ev_up ?_
      simp only [impl_MostCopies.j0, Bool.false_eq_true, ↓reduceIte]
      refine ev_bind (impl_neededParts_ev r c l hb) ?_
      simpa using impl_MostCopies_l0 (need l) kit [] [] 500 rfl (by omega) (by simp; omega)
def rMissingParts (kit : List Int) (r c : Int) (l : List S116) : List Int × Bool := if goodKit kit = true ∧ goodBoard r c l = true then (missV kit (need l), true) else ([], false)
theorem rMissingParts_len (kit : List Int) (r c : Int) (l : List S116) (h : kit.length ≤ 1048576) : (rMissingParts kit r c l).1.length ≤ 10000000 := by
  unfold rMissingParts; have := missV_len kit (need l); split <;> simp; omega
theorem spec_MissingParts_ev (kit : List Int) (r c : Int) (l : List S116) (h : kit.length ≤ 1048576) : Ev (fun k => spec_MissingParts.f k kit r c l) (rMissingParts kit r c l) := by
  unfold rMissingParts
  have fin : Ev (fun k => spec_MissingParts.j0 k kit true r c l) (([] : List Int), false) := by
    refine ev_up ?_
    simp only [spec_MissingParts.j0, ↓reduceIte]
    exact Ev.now _
  simp only [spec_MissingParts.f]
  refine ev_bind (spec_kiParts_ev kit h) ?_
  cases hk : goodKit kit
  · simpa using fin
  · simp only [↓reduceIte]
    have hkl := goodKit_len hk
    have hnl := need_len l
    refine ev_bind (spec_boGood_ev r c l) ?_
    cases hb : goodBoard r c l
    · simpa using fin
    · simp only [Bool.not_true, and_self, ↓reduceIte]
      refine ev_up ?_
      simp only [spec_MissingParts.j0, Bool.false_eq_true, ↓reduceIte]
      refine ev_bind (spec_kiOf_ev r c l hb) ?_
      simpa using spec_MissingParts_l0 (need l) kit [] [] [] rfl (by omega) (by simp; omega) rfl
theorem impl_MissingParts_ev (kit : List Int) (r c : Int) (l : List S116) (h : kit.length ≤ 1048576) : Ev (fun k => impl_MissingParts.f k kit r c l) (rMissingParts kit r c l) := by
  unfold rMissingParts
  have fin : Ev (fun k => impl_MissingParts.j0 k kit true r c l) (([] : List Int), false) := by
    refine ev_up ?_
    simp only [impl_MissingParts.j0, ↓reduceIte]
    exact Ev.now _
  simp only [impl_MissingParts.f]
  refine ev_bind (impl_isKit_ev kit) ?_
  cases hk : goodKit kit
  · simpa using fin
  · simp only [↓reduceIte]
    have hkl := goodKit_len hk
    have hnl := need_len l
    refine ev_bind (impl_IsBoard_ev r c l) ?_
    cases hb : goodBoard r c l
    · simpa using fin
    · simp only [Bool.not_true, and_self, ↓reduceIte]
      refine ev_up ?_
      simp only [impl_MissingParts.j0, Bool.false_eq_true, ↓reduceIte]
      refine ev_bind (impl_neededParts_ev r c l hb) ?_
      have := impl_MissingParts_l0 7 (by omega) (need l) kit [] [] rfl (by omega) (by simp; omega)
      rw [hnl]
      simpa using this
def rRestOfKit (kit : List Int) (r c : Int) (l : List S116) : List Int × Bool := if goodKit kit = true ∧ goodBoard r c l = true ∧ enoughV kit (need l) = true then (restV kit (need l), true) else ([], false)
theorem rRestOfKit_len (kit : List Int) (r c : Int) (l : List S116) (h : kit.length ≤ 1048576) : (rRestOfKit kit r c l).1.length ≤ 10000000 := by
  unfold rRestOfKit; have := restV_len kit (need l); split <;> simp; omega
theorem spec_RestOfKit_ev (kit : List Int) (r c : Int) (l : List S116) (h : kit.length ≤ 1048576) : Ev (fun k => spec_RestOfKit.f k kit r c l) (rRestOfKit kit r c l) := by
  unfold rRestOfKit
  have fin : Ev (fun k => spec_RestOfKit.j0 k kit true r c l) (([] : List Int), false) := by
    refine ev_up ?_
    simp only [spec_RestOfKit.j0, ↓reduceIte]
    exact Ev.now _
  simp only [spec_RestOfKit.f]
  refine ev_bind (spec_kiParts_ev kit h) ?_
  cases hk : goodKit kit
  · simpa using fin
  · simp only [↓reduceIte]
    have hkl := goodKit_len hk
    have hnl := need_len l
    refine ev_bind (spec_boGood_ev r c l) ?_
    cases hb : goodBoard r c l
    · simpa using fin
    · simp only [Bool.not_true, and_self, ↓reduceIte]
      refine ev_bind (spec_kiOf_ev r c l hb) ?_
      refine ev_bind (spec_kiEnough_ev kit (need l) hkl hnl) ?_
      cases he : enoughV kit (need l)
      · simpa using fin
      · simp only [Bool.not_true, and_self, ↓reduceIte]
        refine ev_up ?_
        simp only [spec_RestOfKit.j0, Bool.false_eq_true, ↓reduceIte]
        refine ev_bind (spec_kiOf_ev r c l hb) ?_
        simpa using spec_RestOfKit_l0 (need l) kit [] [] [] rfl (by omega) (by simp; omega) rfl
theorem impl_RestOfKit_ev (kit : List Int) (r c : Int) (l : List S116) (h : kit.length ≤ 1048576) : Ev (fun k => impl_RestOfKit.f k kit r c l) (rRestOfKit kit r c l) := by
  unfold rRestOfKit
  have fin : Ev (fun k => impl_RestOfKit.j0 k kit true r c l) (([] : List Int), false) := by
    refine ev_up ?_
    simp only [impl_RestOfKit.j0, ↓reduceIte]
    exact Ev.now _
  simp only [impl_RestOfKit.f]
  refine ev_bind (impl_isKit_ev kit) ?_
  cases hk : goodKit kit
  · simpa using fin
  · simp only [↓reduceIte]
    have hkl := goodKit_len hk
    have hnl := need_len l
    refine ev_bind (impl_IsBoard_ev r c l) ?_
    cases hb : goodBoard r c l
    · simpa using fin
    · simp only [Bool.not_true, and_self, ↓reduceIte]
      refine ev_bind (impl_neededParts_ev r c l hb) ?_
      refine ev_bind (impl_isEnough_ev kit (need l) hkl hnl) ?_
      cases he : enoughV kit (need l)
      · simpa using fin
      · simp only [Bool.not_true, and_self, ↓reduceIte]
        refine ev_up ?_
        have h9 : (([] : List Int).length + kit.length < 17592186044416) = True := by apply eq_true; simp; omega
        simp only [impl_RestOfKit.j0, h9, Option.bind_some, List.nil_append, Bool.false_eq_true, ↓reduceIte]
        refine ev_bind (impl_neededParts_ev r c l hb) ?_
        simpa using impl_RestOfKit_l0 (need l) kit [] [] rfl (by omega) (by simp; omega)
def goodPrices (l : List Int) : Bool := decide (l.length = 7) && l.all fun x => decide (0 ≤ x ∧ x ≤ 100)
def priceV (s : Int) : List Int → List Int → Int
  | a :: q', b :: q => priceV (wrap64 (s + wrap64 (a * b))) q' q
  | _, _ => s
def rKitPrice (kit prices : List Int) : Int × Bool := if goodKit kit = true ∧ goodPrices prices = true then (priceV 0 kit prices, true) else (0, false)
def gB (b : S81) : Bool := goodBoard b.f0 b.f1 b.f2
def goodBoards (l : List S81) : Bool := l.all gB && decide (1 ≤ l.length ∧ l.length ≤ 6)
theorem spec_kiBoards_l0 : ∀ (q p : List S81), (p ++ q).length < 9223372036854775807 → Ev (fun k => spec_kiBoards.l0 k (p ++ q) (p ++ q) ((p ++ q).length : Int) (p.length : Int)) (q.all gB && decide (1 ≤ (p ++ q).length ∧ (p ++ q).length ≤ 6))
  | [], p, h => by
    refine ev_up ?_
    simp only [spec_kiBoards.l0, mid_end, l1In_eq, Option.bind_some, ↓reduceIte]
    refine ev_eq (Ev.now _) ?_
    simp only [List.all_nil, Bool.true_and, decide_eq_decide]
    omega
  | x :: q, p, h => by
    have hp : p.length < 9223372036854775807 := by simp only [List.length_append, List.length_cons] at h; omega
    refine ev_up ?_
    simp only [spec_kiBoards.l0, rd_T81, mid_lt, mid_ge, getD_mid, wrap_mid p x hp, ↓reduceIte]
    refine ev_bind (spec_boGood_ev x.f0 x.f1 x.f2) ?_
    cases hg : goodBoard x.f0 x.f1 x.f2 with
    | false => simpa [gB, hg] using Ev.now _
    | true =>
      simp only [↓reduceIte, List.all_cons, gB, hg, Bool.true_and]
      rw [step_mid p q x] at h ⊢
      exact spec_kiBoards_l0 q (p ++ [x]) h
theorem spec_kiBoards_ev (l : List S81) (h : l.length ≤ 1048576) : Ev (fun k => spec_kiBoards.f k l) (goodBoards l) := by
  simpa [spec_kiBoards.f, goodBoards] using spec_kiBoards_l0 l [] (by simp; omega)
theorem impl_areBoards_l0 : ∀ (q p : List S81), (p ++ q).length < 9223372036854775807 → Ev (fun k => impl_areBoards.l0 k (p ++ q) ((p ++ q).length : Int) (p.length : Int)) (q.all gB)
  | [], p, h => by
    refine ev_up ?_
    simp only [impl_areBoards.l0, mid_end, ↓reduceIte]
    exact Ev.now _
  | x :: q, p, h => by
    have hp : p.length < 9223372036854775807 := by simp only [List.length_append, List.length_cons] at h; omega
    refine ev_up ?_
    simp only [impl_areBoards.l0, rd_T81, mid_lt, mid_ge, getD_mid, wrap_mid p x hp, ↓reduceIte]
    refine ev_bind (impl_IsBoard_ev x.f0 x.f1 x.f2) ?_
    cases hg : goodBoard x.f0 x.f1 x.f2 with
    | false => simpa [gB, hg] using Ev.now _
    | true =>
      simp only [↓reduceIte, List.all_cons, gB, hg, Bool.true_and]
      rw [step_mid p q x] at h ⊢
      exact impl_areBoards_l0 q (p ++ [x]) h
theorem impl_areBoards_ev (l : List S81) (h : l.length ≤ 1048576) : Ev (fun k => impl_areBoards.f k l) (goodBoards l) := by
  simp only [impl_areBoards.f]
  by_cases h1 : (l.length : Int) < 1
  · have : goodBoards l = false := by unfold goodBoards; rw [decide_eq_false (by omega), Bool.and_false]
    simp only [h1, ↓reduceIte, this]
    refine ev_up ?_
    simp only [impl_areBoards.j0, ↓reduceIte]
    exact Ev.now _
  · simp only [h1, ↓reduceIte]
    refine ev_up ?_
    by_cases h6 : (l.length : Int) > 6
    · have : goodBoards l = false := by unfold goodBoards; rw [decide_eq_false (by omega), Bool.and_false]
      simp only [impl_areBoards.j0, h6, decide_true, ↓reduceIte, this]
      exact Ev.now _
    · have : goodBoards l = l.all gB := by unfold goodBoards; rw [decide_eq_true (by omega), Bool.and_true]
      simp only [impl_areBoards.j0, h6, decide_false, ↓reduceIte, this, Bool.false_eq_true]
      simpa using impl_areBoards_l0 l [] (by simp; omega)
def plusW (a b : Int) : Int := wrap64 (a + b)
def foldB (f : Int → Int → Int) (v : List Int) : List S81 → List Int
  | [] => v
  | x :: q => foldB f (List.zipWith f v (need x.f2)) q
theorem foldB_len (f : Int → Int → Int) : ∀ (l : List S81) (v : List Int), v.length = 7 → (foldB f v l).length = 7
  | [], v, h => h
  | x :: q, v, h => by
    rw [foldB]
    exact foldB_len f q _ (by simp [h, need_len])
def rFold (f : Int → Int → Int) (l : List S81) : List Int × Bool := if goodBoards l = true then (foldB f (List.replicate 7 0) l, true) else ([], false)
theorem rFold_len (f : Int → Int → Int) (l : List S81) : (rFold f l).1.length ≤ 7 := by
  unfold rFold
  split
  · rw [foldB_len f l _ (by simp)]; omega
  · simp
theorem goodBoards_all {l : List S81} (h : goodBoards l = true) : ∀ x ∈ l, goodBoard x.f0 x.f1 x.f2 = true := by
  unfold goodBoards at h
  simp only [Bool.and_eq_true] at h
  exact List.all_eq_true.1 h.1
theorem spec_SumKit_l1 (X : List S81) (n i : Int) (r : List Int × Bool) : ∀ (q q' p d : List Int), p.length = d.length → q.length = q'.length → (p ++ q).length ≤ 7 → Ev (fun k => spec_SumKit.l0 k (d ++ List.zipWith plusW q' q) X n (wrap64 (i + 1))) r → Ev (fun k => spec_SumKit.l1 k (d ++ q') X n i (p ++ q) ((p ++ q).length : Int) (p.length : Int)) r
  | [], [], p, d, h1, h2, h3, hE => by
    refine ev_up ?_
    simp only [spec_SumKit.l1, mid_end, ↓reduceIte]
    simpa using hE
  | x :: q, x' :: q', p, d, h1, h2, h3, hE => by
    have hp : p.length < 9223372036854775807 := by simp only [List.length_append, List.length_cons] at h3; omega
    have hl : ((p.length : Int) < ((d ++ x' :: q').length : Int)) = True := mid_lt2 p d q' x' h1
    have e : p ++ x :: q = (p ++ [x]) ++ q := step_mid p q x
    refine ev_up ?_
    simp only [spec_SumKit.l1, mid_lt, mid_ge, rd_mid, hl, rd_mid2 p d q' x' h1, wrap_mid p x hp, plusW, set_mid2 p d q' x' _ h1, ↓reduceIte]
    have hI := spec_SumKit_l1 X n i r q q' (p ++ [x]) (d ++ [plusW x' x]) (by simp [h1]) (by simpa using h2) (by rw [← e]; exact h3) (by simpa using hE)
    rw [← e] at hI
    simpa [plusW] using hI
theorem spec_SumKit_l0 : ∀ (q p : List S81) (v : List Int), (p ++ q).length < 9223372036854775807 → v.length = 7 → (∀ x ∈ q, goodBoard x.f0 x.f1 x.f2 = true) → Ev (fun k => spec_SumKit.l0 k v (p ++ q) ((p ++ q).length : Int) (p.length : Int)) (foldB plusW v q, true)
  | [], p, v, h, hv, hg => by
    refine ev_up ?_
    simp only [spec_SumKit.l0, mid_end, ↓reduceIte]
    exact Ev.now _
  | x :: q, p, v, h, hv, hg => by
    have hp : p.length < 9223372036854775807 := by simp only [List.length_append, List.length_cons] at h; omega
    refine ev_up ?_
    simp only [spec_SumKit.l0, rd_T81, mid_lt, mid_ge, getD_mid, ↓reduceIte]
    refine ev_bind (spec_kiOf_ev x.f0 x.f1 x.f2 (hg x List.mem_cons_self)) ?_
    have hI := spec_SumKit_l0 q (p ++ [x]) (List.zipWith plusW v (need x.f2)) (by rw [← step_mid p q x]; exact h) (by simp [hv, need_len]) (fun y hy => hg y (List.mem_cons_of_mem _ hy))
    rw [← step_mid p q x, ← wrap_mid p x hp] at hI
    have := spec_SumKit_l1 (p ++ x :: q) ((p ++ x :: q).length : Int) (p.length : Int) (foldB plusW v (x :: q), true) (need x.f2) v [] [] rfl (by rw [hv, need_len]) (by simp [need_len]) (by simpa [foldB] using hI)
    simpa using this
theorem spec_SumKit_ev (l : List S81) (h : l.length ≤ 1048576) : Ev (fun k => spec_SumKit.f k l) (rFold plusW l) := by
  simp only [spec_SumKit.f]
  refine ev_bind (spec_kiBoards_ev l h) ?_
  unfold rFold
  cases hg : goodBoards l with
  | false => simpa using Ev.now _
  | true =>
    simp only [↓reduceIte, Nat.reduceLeDiff]
    simpa using spec_SumKit_l0 l [] (List.replicate 7 0) (by simp; omega) (by simp) (goodBoards_all hg)
theorem impl_SumKit_l1 (X : List S81) (n i : Int) (r : List Int × Bool) : ∀ (q q' p d : List Int), p.length = d.length → q.length = q'.length → (p ++ q).length ≤ 7 → Ev (fun k => impl_SumKit.l0 k (d ++ List.zipWith plusW q' q) X n (wrap64 (i + 1))) r → Ev (fun k => impl_SumKit.l1 k (d ++ q') X n i (p ++ q) ((p ++ q).length : Int) (p.length : Int)) r
  | [], [], p, d, h1, h2, h3, hE => by
    refine ev_up ?_
    simp only [impl_SumKit.l1, mid_end, ↓reduceIte]
    simpa using hE
  | x :: q, x' :: q', p, d, h1, h2, h3, hE => by
    have hp : p.length < 9223372036854775807 := by simp only [List.length_append, List.length_cons] at h3; omega
    have hl : ((p.length : Int) < ((d ++ x' :: q').length : Int)) = True := mid_lt2 p d q' x' h1
    have e : p ++ x :: q = (p ++ [x]) ++ q := step_mid p q x
    refine ev_up ?_
    simp only [impl_SumKit.l1, mid_lt, mid_ge, rd_mid, hl, rd_mid2 p d q' x' h1, wrap_mid p x hp, plusW, set_mid2 p d q' x' _ h1, ↓reduceIte]
    have hI := impl_SumKit_l1 X n i r q q' (p ++ [x]) (d ++ [plusW x' x]) (by simp [h1]) (by simpa using h2) (by rw [← e]; exact h3) (by simpa using hE)
    rw [← e] at hI
    simpa [plusW] using hI
theorem impl_SumKit_l0 : ∀ (q p : List S81) (v : List Int), (p ++ q).length < 9223372036854775807 → v.length = 7 → (∀ x ∈ q, goodBoard x.f0 x.f1 x.f2 = true) → Ev (fun k => impl_SumKit.l0 k v (p ++ q) ((p ++ q).length : Int) (p.length : Int)) (foldB plusW v q, true)
  | [], p, v, h, hv, hg => by
    refine ev_up ?_
    simp only [impl_SumKit.l0, mid_end, ↓reduceIte]
    exact Ev.now _
  | x :: q, p, v, h, hv, hg => by
    have hp : p.length < 9223372036854775807 := by simp only [List.length_append, List.length_cons] at h; omega
    refine ev_up ?_
    simp only [impl_SumKit.l0, rd_T81, mid_lt, mid_ge, getD_mid, ↓reduceIte]
    refine ev_bind (impl_neededParts_ev x.f0 x.f1 x.f2 (hg x List.mem_cons_self)) ?_
    have hI := impl_SumKit_l0 q (p ++ [x]) (List.zipWith plusW v (need x.f2)) (by rw [← step_mid p q x]; exact h) (by simp [hv, need_len]) (fun y hy => hg y (List.mem_cons_of_mem _ hy))
    rw [← step_mid p q x, ← wrap_mid p x hp] at hI
    have := impl_SumKit_l1 (p ++ x :: q) ((p ++ x :: q).length : Int) (p.length : Int) (foldB plusW v (x :: q), true) (need x.f2) v [] [] rfl (by rw [hv, need_len]) (by simp [need_len]) (by simpa [foldB] using hI)
    simpa using this
theorem impl_SumKit_ev (l : List S81) (h : l.length ≤ 1048576) : Ev (fun k => impl_SumKit.f k l) (rFold plusW l) := by
  simp only [impl_SumKit.f]
  refine ev_bind (impl_areBoards_ev l h) ?_
  unfold rFold
  cases hg : goodBoards l with
  | false => simpa using Ev.now _
  | true =>
    simp only [↓reduceIte, Nat.reduceLeDiff]
    simpa using impl_SumKit_l0 l [] (List.replicate 7 0) (by simp; omega) (by simp) (goodBoards_all hg)
theorem spec_SharedKit_l1 (X : List S81) (n i : Int) (r : List Int × Bool) : ∀ (q q' p d : List Int), p.length = d.length → q.length = q'.length → (p ++ q).length ≤ 7 → Ev (fun k => spec_SharedKit.l0 k (d ++ List.zipWith mx q' q) X n (wrap64 (i + 1))) r → Ev (fun k => spec_SharedKit.l1 k (d ++ q') X n i (p ++ q) ((p ++ q).length : Int) (p.length : Int)) r
  | [], [], p, d, h1, h2, h3, hE => by
    refine ev_up ?_
    simp only [spec_SharedKit.l1, mid_end, ↓reduceIte]
    simpa using hE
  | x :: q, x' :: q', p, d, h1, h2, h3, hE => by
    have hp : p.length < 9223372036854775807 := by simp only [List.length_append, List.length_cons] at h3; omega
    have hl : ((p.length : Int) < ((d ++ x' :: q').length : Int)) = True := mid_lt2 p d q' x' h1
    have e : p ++ x :: q = (p ++ [x]) ++ q := step_mid p q x
    refine ev_up ?_
    simp only [spec_SharedKit.l1, mid_lt, mid_ge, rd_mid, hl, rd_mid2 p d q' x' h1, wrap_mid p x hp, l1Most_eq, Option.bind_some, set_mid2 p d q' x' _ h1, ↓reduceIte]
    have hI := spec_SharedKit_l1 X n i r q q' (p ++ [x]) (d ++ [mx x' x]) (by simp [h1]) (by simpa using h2) (by rw [← e]; exact h3) (by simpa using hE)
    rw [← e] at hI
    simpa [plusW] using hI
theorem spec_SharedKit_l0 : ∀ (q p : List S81) (v : List Int), (p ++ q).length < 9223372036854775807 → v.length = 7 → (∀ x ∈ q, goodBoard x.f0 x.f1 x.f2 = true) → Ev (fun k => spec_SharedKit.l0 k v (p ++ q) ((p ++ q).length : Int) (p.length : Int)) (foldB mx v q, true)
  | [], p, v, h, hv, hg => by
    refine ev_up ?_
    simp only [spec_SharedKit.l0, mid_end, ↓reduceIte]
    exact Ev.now _
  | x :: q, p, v, h, hv, hg => by
    have hp : p.length < 9223372036854775807 := by simp only [List.length_append, List.length_cons] at h; omega
    refine ev_up ?_
    simp only [spec_SharedKit.l0, rd_T81, mid_lt, mid_ge, getD_mid, ↓reduceIte]
    refine ev_bind (spec_kiOf_ev x.f0 x.f1 x.f2 (hg x List.mem_cons_self)) ?_
    have hI := spec_SharedKit_l0 q (p ++ [x]) (List.zipWith mx v (need x.f2)) (by rw [← step_mid p q x]; exact h) (by simp [hv, need_len]) (fun y hy => hg y (List.mem_cons_of_mem _ hy))
    rw [← step_mid p q x, ← wrap_mid p x hp] at hI
    have := spec_SharedKit_l1 (p ++ x :: q) ((p ++ x :: q).length : Int) (p.length : Int) (foldB mx v (x :: q), true) (need x.f2) v [] [] rfl (by rw [hv, need_len]) (by simp [need_len]) (by simpa [foldB] using hI)
    simpa using this
theorem spec_SharedKit_ev (l : List S81) (h : l.length ≤ 1048576) : Ev (fun k => spec_SharedKit.f k l) (rFold mx l) := by
  simp only [spec_SharedKit.f]
  refine ev_bind (spec_kiBoards_ev l h) ?_
  unfold rFold
  cases hg : goodBoards l with
  | false => simpa using Ev.now _
  | true =>
    simp only [↓reduceIte, Nat.reduceLeDiff]
    simpa using spec_SharedKit_l0 l [] (List.replicate 7 0) (by simp; omega) (by simp) (goodBoards_all hg)
theorem impl_SharedKit_l1 (X : List S81) (n i : Int) (r : List Int × Bool) : ∀ (q q' p d : List Int), p.length = d.length → q.length = q'.length → (p ++ q).length ≤ 7 → Ev (fun k => impl_SharedKit.l0 k (d ++ List.zipWith mx q' q) X n (wrap64 (i + 1))) r → Ev (fun k => impl_SharedKit.l1 k (d ++ q') X n i (p ++ q) ((p ++ q).length : Int) (p.length : Int)) r
  | [], [], p, d, h1, h2, h3, hE => by
    refine ev_up ?_
    simp only [impl_SharedKit.l1, mid_end, ↓reduceIte]
    simpa using hE
  | x :: q, x' :: q', p, d, h1, h2, h3, hE => by
    have hp : p.length < 9223372036854775807 := by simp only [List.length_append, List.length_cons] at h3; omega
    have hl : ((p.length : Int) < ((d ++ x' :: q').length : Int)) = True := mid_lt2 p d q' x' h1
    have e : p ++ x :: q = (p ++ [x]) ++ q := step_mid p q x
    refine ev_up ?_
    simp only [impl_SharedKit.l1, mid_lt, mid_ge, rd_mid, hl, rd_mid2 p d q' x' h1, wrap_mid p x hp, Option.bind_some, set_mid2 p d q' x' _ h1, ↓reduceIte]
    have hI := impl_SharedKit_l1 X n i r q q' (p ++ [x]) (d ++ [mx x' x]) (by simp [h1]) (by simpa using h2) (by rw [← e]; exact h3) (by simpa using hE)
    rw [← e] at hI
    simpa [plusW] using hI
theorem impl_SharedKit_l0 : ∀ (q p : List S81) (v : List Int), (p ++ q).length < 9223372036854775807 → v.length = 7 → (∀ x ∈ q, goodBoard x.f0 x.f1 x.f2 = true) → Ev (fun k => impl_SharedKit.l0 k v (p ++ q) ((p ++ q).length : Int) (p.length : Int)) (foldB mx v q, true)
  | [], p, v, h, hv, hg => by
    refine ev_up ?_
    simp only [impl_SharedKit.l0, mid_end, ↓reduceIte]
    exact Ev.now _
  | x :: q, p, v, h, hv, hg => by
    have hp : p.length < 9223372036854775807 := by simp only [List.length_append, List.length_cons] at h; omega
    refine ev_up ?_
    simp only [impl_SharedKit.l0, rd_T81, mid_lt, mid_ge, getD_mid, ↓reduceIte]
    refine ev_bind (impl_neededParts_ev x.f0 x.f1 x.f2 (hg x List.mem_cons_self)) ?_
    have hI := impl_SharedKit_l0 q (p ++ [x]) (List.zipWith mx v (need x.f2)) (by rw [← step_mid p q x]; exact h) (by simp [hv, need_len]) (fun y hy => hg y (List.mem_cons_of_mem _ hy))
    rw [← step_mid p q x, ← wrap_mid p x hp] at hI
    have := impl_SharedKit_l1 (p ++ x :: q) ((p ++ x :: q).length : Int) (p.length : Int) (foldB mx v (x :: q), true) (need x.f2) v [] [] rfl (by rw [hv, need_len]) (by simp [need_len]) (by simpa [foldB] using hI)
    simpa using this
theorem impl_SharedKit_ev (l : List S81) (h : l.length ≤ 1048576) : Ev (fun k => impl_SharedKit.f k l) (rFold mx l) := by
  simp only [impl_SharedKit.f]
  refine ev_bind (impl_areBoards_ev l h) ?_
  unfold rFold
  cases hg : goodBoards l with
  | false => simpa using Ev.now _
  | true =>
    simp only [↓reduceIte, Nat.reduceLeDiff]
    simpa using impl_SharedKit_l0 l [] (List.replicate 7 0) (by simp; omega) (by simp) (goodBoards_all hg)
theorem bits_255 (y : Int) : 0 ≤ wrap64 (Go.bits .and .u64 y 255) ∧ wrap64 (Go.bits .and .u64 y 255) ≤ 255 := by
  have h : ∃ n : Nat, n ≤ 255 ∧ Go.bits .and .u64 y 255 = (n : Int) := by
    refine ⟨(BitVec.ofInt 64 y &&& BitVec.ofInt 64 255).toNat, ?_, ?_⟩
    · rw [BitVec.toNat_and]
      exact Nat.le_trans Nat.and_le_right (by decide)
    · have hle : (BitVec.ofInt 64 y &&& BitVec.ofInt 64 255).toNat ≤ 255 := by
        rw [BitVec.toNat_and]
        exact Nat.le_trans Nat.and_le_right (by decide)
      show IntKind.u64.wrap (((BitVec.ofInt 64 y &&& BitVec.ofInt 64 255).toNat : Nat) : Int) = _
      generalize (BitVec.ofInt 64 y &&& BitVec.ofInt 64 255).toNat = n at hle
      show ((n : Int) % (2 ^ 64 : Int)) = n
      omega
  obtain ⟨n, hn, e⟩ := h
  rw [e]
  unfold wrap64
  omega
theorem next_tot (c : List Int) (hc : ∀ x ∈ c, 0 ≤ x ∧ x ≤ 255) (a s : Int) (h0 : 0 ≤ a) (h1 : a ≤ 4611686018427387904) : ∃ r s', spec_l1Cur_next.f c a s = some (r, a + 1, s') ∧ 0 ≤ r ∧ r ≤ 255 := by
  have wa : wrap64 (a + 1) = a + 1 := wrap_id (by omega) (by omega)
  unfold spec_l1Cur_next.f
  rw [wa]
  by_cases hl : a < (c.length : Int)
  · have hm : rd c a ∈ c := by
      unfold rd
      rw [List.getD_eq_getElem?_getD, List.getElem?_eq_getElem (show a.toNat < c.length by omega)]
      exact List.getElem_mem _
    obtain ⟨g0, g1⟩ := hc _ hm
    have wr : wrap64 (rd c a) = rd c a := wrap_id (by omega) (by omega)
    rw [if_pos hl, if_pos h0, wr]
    split
    · exact ⟨_, _, rfl, g0, g1⟩
    · exact ⟨_, _, rfl, bits_255 _⟩
  · rw [if_neg hl]
    split
    · exact ⟨_, _, rfl, by omega, by omega⟩
    · exact ⟨_, _, rfl, bits_255 _⟩
theorem pick_tot (c : List Int) (hc : ∀ x ∈ c, 0 ≤ x ∧ x ≤ 255) (a s n : Int) (h0 : 0 ≤ a) (h1 : a ≤ 4611686018427387000) (hn : 1 ≤ n) (hn2 : n ≤ 100000) : ∃ r a' s', spec_l1Cur_pick.f c a s n = some (r, a', s') ∧ 0 ≤ r ∧ r < n ∧ a ≤ a' ∧ a' ≤ a + 2 := by
  unfold spec_l1Cur_pick.f
  split
  · exact ⟨_, _, _, rfl, by omega, by omega, by omega, by omega⟩
  · obtain ⟨r, s1, e1, g0, g1⟩ := next_tot c hc a s h0 (by omega)
    rw [e1]
    simp only [Option.bind_some]
    have mod : ∀ x : Int, 0 ≤ x → 0 ≤ Int.tmod x n ∧ Int.tmod x n < n := fun x hx => ⟨Int.tmod_nonneg n hx, Int.tmod_lt_of_pos x (by omega)⟩
    split
    · obtain ⟨r2, s2, e2, k0, k1⟩ := next_tot c hc (a + 1) s1 (by omega) (by omega)
      rw [e2]
      simp only [Option.bind_some]
      rw [if_neg (by omega)]
      have w1 : wrap64 (r * 256) = r * 256 := wrap_id (by omega) (by omega)
      rw [w1, wrap_id (x := r * 256 + r2) (by omega) (by omega)]
      obtain ⟨m1, m2⟩ := mod (r * 256 + r2) (by omega)
      exact ⟨_, _, _, rfl, m1, m2, by omega, by omega⟩
    · rw [if_neg (by omega)]
      obtain ⟨m1, m2⟩ := mod r g0
      exact ⟨_, _, _, rfl, m1, m2, by omega, by omega⟩
theorem one_tot (c : List Int) (hc : ∀ x ∈ c, 0 ≤ x ∧ x ≤ 255) (a s n : Int) (h0 : 0 ≤ a) (h1 : a ≤ 4611686018427387000) (hn : 1 ≤ n) (hn2 : n ≤ 100000) : ∃ r a' s', spec_l1Cur_one.f c a s n = some (r, a', s') ∧ a ≤ a' ∧ a' ≤ a + 2 := by
  obtain ⟨r, a', s', e, _, _, g1, g2⟩ := pick_tot c hc a s n h0 h1 hn hn2
  unfold spec_l1Cur_one.f
  rw [e]
  exact ⟨_, _, _, rfl, g1, g2⟩
theorem among_tot (c : List Int) (hc : ∀ x ∈ c, 0 ≤ x ∧ x ≤ 255) (a s : Int) (l : List Int) (h0 : 0 ≤ a) (h1 : a ≤ 4611686018427387000) (hl : 1 ≤ l.length) (hl2 : l.length ≤ 100000) : ∃ r a' s', spec_l1Cur_among.f c a s l = some (r, a', s') ∧ r ∈ l ∧ a ≤ a' ∧ a' ≤ a + 2 := by
  obtain ⟨r, a', s', e, g0, g3, g1, g2⟩ := pick_tot c hc a s l.length h0 h1 (by omega) (by omega)
  unfold spec_l1Cur_among.f
  rw [e]
  simp only [Option.bind_some]
  rw [if_pos g0, if_pos g3]
  refine ⟨_, _, _, rfl, ?_, g1, g2⟩
  unfold rd
  rw [List.getD_eq_getElem?_getD, List.getElem?_eq_getElem (show r.toNat < l.length by omega)]
  exact List.getElem_mem _
theorem paAll_ev : ∃ L : List S116, 1 ≤ L.length ∧ L.length ≤ 100 ∧ Ev (fun k => spec_paAll.f k) L := by
  refine ⟨[⟨0, 0⟩, ⟨1, 0⟩, ⟨2, 0⟩, ⟨3, 0⟩, ⟨3, 1⟩, ⟨4, 0⟩, ⟨5, 0⟩, ⟨6, 0⟩, ⟨6, 1⟩, ⟨7, 0⟩], by decide, by decide, ?_⟩
  unfold spec_paAll.f
  repeat (refine ev_up ?_; simp (config := { decide := true }) only [spec_paAll.l0, spec_paTurning.f, wrap64, List.nil_append, List.cons_append, List.length_nil, List.length_cons, Option.bind_some, if_true, if_false, reduceIte, Nat.zero_add, Nat.reduceAdd, Nat.reduceLT, Int.reduceLE, Int.reduceAdd, Int.reduceSub, Int.reduceMod, Int.reduceEq, Int.reduceBEq, Bool.false_eq_true])
  exact Ev.now _
theorem cell_tot (c : List Int) (hc : ∀ x ∈ c, 0 ≤ x ∧ x ≤ 255) (a s : Int) (h0 : 0 ≤ a) (h1 : a ≤ 4611686018427387000) : ∃ x y a' s', Ev (fun k => spec_l1Cur_cell.f k c a s) (x, y, a', s') ∧ a ≤ a' ∧ a' ≤ a + 2 := by
  obtain ⟨L, hL1, hL2, hL⟩ := paAll_ev
  obtain ⟨r, a', s', e, g0, g3, g1, g2⟩ := pick_tot c hc a s L.length h0 h1 (by omega) (by omega)
  refine ⟨(rd_T116 L r).f0, (rd_T116 L r).f1, a', s', ?_, g1, g2⟩
  unfold spec_l1Cur_cell.f
  refine ev_bind hL ?_
  simp only [e, Option.bind_some, if_pos g0, if_pos g3]
  exact Ev.now _
theorem anyCell_tot (c : List Int) (hc : ∀ x ∈ c, 0 ≤ x ∧ x ≤ 255) (a s : Int) (h0 : 0 ≤ a) (h1 : a ≤ 4611686018427380000) : ∃ x y a' s', Ev (fun k => spec_l1Cur_anyCell.f k c a s) (x, y, a', s') ∧ a ≤ a' ∧ a' ≤ a + 6 := by
  obtain ⟨x, y, a1, s1, e1, g1, g2⟩ := cell_tot c hc a s h0 (by omega)
  obtain ⟨r, a2, s2, e2, k0, k1, k2, k3⟩ := pick_tot c hc a1 s1 20 (by omega) (by omega) (by decide) (by decide)
  by_cases hr : r = 0
  · obtain ⟨z, a3, s3, e3, _, m1, m2⟩ := among_tot c hc a2 s2 [(-1), 8] (by omega) (by omega) (by decide) (by decide)
    refine ⟨z, y, a3, s3, ?_, by omega, by omega⟩
    unfold spec_l1Cur_anyCell.f
    refine ev_bind e1 ?_
    simp only [e2, Option.bind_some, hr, if_true, e3]
    exact Ev.now _
  · by_cases hr1 : r = 1
    · obtain ⟨z, a3, s3, e3, _, m1, m2⟩ := among_tot c hc a2 s2 [(-1), 1, 2] (by omega) (by omega) (by decide) (by decide)
      refine ⟨x, z, a3, s3, ?_, by omega, by omega⟩
      unfold spec_l1Cur_anyCell.f
      refine ev_bind e1 ?_
      simp only [e2, Option.bind_some, if_neg hr, hr1, if_true, e3]
      simp only [show ¬ (1 : Int) = 0 by decide, if_false]
      exact Ev.now _
    · refine ⟨x, y, a2, s2, ?_, by omega, by omega⟩
      unfold spec_l1Cur_anyCell.f
      refine ev_bind e1 ?_
      simp only [e2, Option.bind_some, if_neg hr, if_neg hr1]
      exact Ev.now _
theorem kit_l0 (c : List Int) (hc : ∀ x ∈ c, 0 ≤ x ∧ x ≤ 255) (N : Int) (hN : 1 ≤ N) (hN7 : N ≤ 7) : ∀ (m : Nat) (l : List Int) (a s : Int), 0 ≤ a → a + 4 * m ≤ 4611686018427380000 → (l.length : Int) + m = N → ∃ r a' s', Ev (fun k => spec_l1Cur_kit.l0 k l N c a s) (r, a', s') ∧ r.length ≤ 7 ∧ a ≤ a' ∧ a' ≤ a + 4 * m + 6
  | 0, l, a, s, h0, h1, hl => by
    obtain ⟨b, a1, s1, e1, g1, g2⟩ := one_tot c hc a s 24 h0 (by omega) (by decide) (by decide)
    have hlN : ¬ ((l.length : Int) < N) := by omega
    cases b with
    | false =>
      refine ⟨l, a1, s1, ?_, by omega, by omega, by omega⟩
      refine ev_up ?_
      simp only [spec_l1Cur_kit.l0, if_neg hlN, e1, Option.bind_some, Bool.false_eq_true, if_false]
      exact Ev.now _
    | true =>
      obtain ⟨i, a2, s2, e2, k0, k1, k2, k3⟩ := pick_tot c hc a1 s1 l.length (by omega) (by omega) (by omega) (by omega)
      obtain ⟨z, a3, s3, e3, _, m1, m2⟩ := among_tot c hc a2 s2 [(-1), 601] (by omega) (by omega) (by decide) (by decide)
      refine ⟨l.set i.toNat z, a3, s3, ?_, by rw [List.length_set]; omega, by omega, by omega⟩
      refine ev_up ?_
      simp only [spec_l1Cur_kit.l0, if_neg hlN, e1, Option.bind_some, if_true, e2, e3, if_pos k0, if_pos k1]
      exact Ev.now _
  | m + 1, l, a, s, h0, h1, hl => by
    have hlN : (l.length : Int) < N := by omega
    obtain ⟨i, a1, s1, e1, k0, k1, k2, k3⟩ := pick_tot c hc a s 20 h0 (by omega) (by decide) (by decide)
    obtain ⟨z, a2, s2, e2, _, m1, m2⟩ := among_tot c hc a1 s1 [0, 1, 2, 3, 5, i, 600] (by omega) (by omega) (by simp) (by simp)
    obtain ⟨r, a3, s3, e3, q1, q2, q3⟩ := kit_l0 c hc N hN hN7 m (l ++ [z]) a2 s2 (by omega) (by omega) (by simp; omega)
    refine ⟨r, a3, s3, ?_, q1, by omega, by omega⟩
    refine ev_up ?_
    simp only [spec_l1Cur_kit.l0, if_pos hlN, e1, Option.bind_some, e2, if_pos (show l.length < 17592186044416 by omega)]
    exact e3
theorem kit_tot (c : List Int) (hc : ∀ x ∈ c, 0 ≤ x ∧ x ≤ 255) (a s : Int) (h0 : 0 ≤ a) (h1 : a ≤ 4611686018427370000) : ∃ r a' s', Ev (fun k => spec_l1Cur_kit.f k c a s) (r, a', s') ∧ r.length ≤ 7 ∧ a ≤ a' ∧ a' ≤ a + 40 := by
  obtain ⟨i, a1, s1, e1, k0, k1, k2, k3⟩ := pick_tot c hc a s 24 h0 (by omega) (by decide) (by decide)
  have hd : 0 ≤ Int.tdiv i 23 ∧ Int.tdiv i 23 ≤ 1 := by
    rw [Int.tdiv_eq_ediv_of_nonneg k0]; omega
  generalize hq : Int.tdiv i 23 = q at hd
  have w1 : wrap64 q = q := wrap_id (by omega) (by omega)
  have w2 : wrap64 (7 - q) = 7 - q := wrap_id (by omega) (by omega)
  obtain ⟨r, a2, s2, e2, q1, q2, q3⟩ := kit_l0 c hc (7 - q) (by omega) (by omega) (7 - q).toNat [] a1 s1 (by omega) (by omega) (by simp; omega)
  refine ⟨r, a2, s2, ?_, q1, by omega, by omega⟩
  unfold spec_l1Cur_kit.f
  simp only [e1, Option.bind_some, hq, w1, w2]
  exact e2
theorem boardOf_l0 (c : List Int) (hc : ∀ x ∈ c, 0 ≤ x ∧ x ≤ 255) (R C n8 b0 b1 : Int) (hw : wrap64 (R * C) = R * C) (hRC : R * C ≤ 90) (h8 : 1 ≤ n8) (h82 : n8 ≤ 100) :
    ∀ (m : Nat) (l : List S116) (a s : Int), 0 ≤ a → a + 12 * m ≤ 4611686018427380000 → (l.length : Int) + m = R * C → ∃ r a' s', Ev (fun k => spec_l1Cur_boardOf.l0 k R C n8 c a s b0 b1 l) (b0, b1, r, a', s') ∧ (r.length : Int) = R * C ∧ a ≤ a' ∧ a' ≤ a + 12 * m
  | 0, l, a, s, h0, h1, hl => by
    refine ⟨l, a, s, ?_, by omega, by omega, by omega⟩
    refine ev_up ?_
    simp only [spec_l1Cur_boardOf.l0, hw, if_neg (show ¬ ((l.length : Int) < R * C) by omega)]
    exact Ev.now _
  | m + 1, l, a, s, h0, h1, hl => by
    have hlt : (l.length : Int) < R * C := by omega
    have hlen : l.length < 8796093022208 := by omega
    -- one cell more, then the next round
    have fin : ∀ (x : S116) (a1 s1 : Int), a ≤ a1 → a1 ≤ a + 12 → ∃ r a' s', Ev (fun k => spec_l1Cur_boardOf.l0 k R C n8 c a1 s1 b0 b1 (l ++ [x])) (b0, b1, r, a', s') ∧ (r.length : Int) = R * C ∧ a ≤ a' ∧ a' ≤ a + 12 * (m + 1 : Nat) := by
      intro x a1 s1 g1 g2
      obtain ⟨r, a', s', e, q1, q2, q3⟩ := boardOf_l0 c hc R C n8 b0 b1 hw hRC h8 h82 m (l ++ [x]) a1 s1 (by omega) (by omega) (by simp; omega)
      exact ⟨r, a', s', e, q1, by omega, by omega⟩
    have j2 : ∀ (x y a1 s1 : Int), a ≤ a1 → a1 ≤ a + 8 → ∃ r a' s', Ev (fun k => spec_l1Cur_boardOf.j2 k R C n8 c a1 s1 b0 b1 l x y) (b0, b1, r, a', s') ∧ (r.length : Int) = R * C ∧ a ≤ a' ∧ a' ≤ a + 12 * (m + 1 : Nat) := by
      intro x y a1 s1 g1 g2
      by_cases hx : x = 5
      · obtain ⟨t, a2, s2, e2, k2, k3⟩ := one_tot c hc a1 s1 3 (by omega) (by omega) (by decide) (by decide)
        cases t with
        | true =>
          obtain ⟨r, a', s', e, q⟩ := fin ⟨x, y⟩ a2 s2 (by omega) (by omega)
          refine ⟨r, a', s', ?_, q⟩
          refine ev_up ?_
          simp only [spec_l1Cur_boardOf.j2, if_pos hx, e2, Option.bind_some, if_true, if_pos hlen]
          exact e
        | false =>
          obtain ⟨z, a3, s3, e3, _, _, m2, m3⟩ := pick_tot c hc a2 s2 2 (by omega) (by omega) (by decide) (by decide)
          obtain ⟨r, a', s', e, q⟩ := fin ⟨3, z⟩ a3 s3 (by omega) (by omega)
          refine ⟨r, a', s', ?_, q⟩
          refine ev_up ?_
          simp only [spec_l1Cur_boardOf.j2, if_pos hx, e2, Option.bind_some, Bool.false_eq_true, if_false, e3, if_pos hlen]
          exact e
      · obtain ⟨r, a', s', e, q⟩ := fin ⟨x, y⟩ a1 s1 (by omega) (by omega)
        refine ⟨r, a', s', ?_, q⟩
        refine ev_up ?_
        simp only [spec_l1Cur_boardOf.j2, if_neg hx, if_pos hlen]
        exact e
    have j1 : ∀ (t : Bool) (a1 s1 : Int), a ≤ a1 → a1 ≤ a + 4 → ∃ r a' s', Ev (fun k => spec_l1Cur_boardOf.j1 k R C n8 t c a1 s1 b0 b1 l 0 0) (b0, b1, r, a', s') ∧ (r.length : Int) = R * C ∧ a ≤ a' ∧ a' ≤ a + 12 * (m + 1 : Nat) := by
      intro t a1 s1 g1 g2
      cases t with
      | true =>
        obtain ⟨x, y, a2, s2, e2, k2, k3⟩ := cell_tot c hc a1 s1 (by omega) (by omega)
        obtain ⟨r, a', s', e, q⟩ := j2 x y a2 s2 (by omega) (by omega)
        refine ⟨r, a', s', ?_, q⟩
        refine ev_up ?_
        simp only [spec_l1Cur_boardOf.j1, if_true]
        exact ev_bind e2 e
      | false =>
        obtain ⟨r, a', s', e, q⟩ := j2 0 0 a1 s1 (by omega) (by omega)
        refine ⟨r, a', s', ?_, q⟩
        refine ev_up ?_
        simp only [spec_l1Cur_boardOf.j1, Bool.false_eq_true, if_false]
        exact e
    obtain ⟨t, a1, s1, e1, g1, g2⟩ := one_tot c hc a s n8 h0 (by omega) h8 (by omega)
    cases t with
    | true =>
      obtain ⟨r, a', s', e, q⟩ := j1 true a1 s1 (by omega) (by omega)
      refine ⟨r, a', s', ?_, q⟩
      refine ev_up ?_
      simp only [spec_l1Cur_boardOf.l0, hw, if_pos hlt, e1, Option.bind_some, if_true]
      exact e
    | false =>
      obtain ⟨t2, a2, s2, e2, k1, k2⟩ := one_tot c hc a1 s1 3 (by omega) (by omega) (by decide) (by decide)
      obtain ⟨r, a', s', e, q⟩ := j1 t2 a2 s2 (by omega) (by omega)
      refine ⟨r, a', s', ?_, q⟩
      refine ev_up ?_
      simp only [spec_l1Cur_boardOf.l0, hw, if_pos hlt, e1, Option.bind_some, Bool.false_eq_true, if_false, e2]
      exact e
theorem boardOf_tot (c : List Int) (hc : ∀ x ∈ c, 0 ≤ x ∧ x ≤ 255) (a s R C : Int) (h0 : 0 ≤ a) (h1 : a ≤ 4611686018427370000) (hR : 1 ≤ R) (hR2 : R ≤ 10) (hC : 1 ≤ C) (hC2 : C ≤ 9) : ∃ r a' s', Ev (fun k => spec_l1Cur_boardOf.f k c a s R C) (R, C, r, a', s') ∧ (r.length : Int) = R * C ∧ a ≤ a' ∧ a' ≤ a + 1082 := by
  obtain ⟨z, a1, s1, e1, hz, g1, g2⟩ := among_tot c hc a s [1, 2, 2] h0 (by omega) (by decide) (by decide)
  have hz' : z = 1 ∨ z = 2 := by simpa using hz
  have hs := size_le hR hR2 hC hC2
  have hw : wrap64 (R * C) = R * C := wrap_id (by omega) (by omega)
  have hn : ((R * C).toNat : Int) = R * C := by omega
  obtain ⟨r, a', s', e, q1, q2, q3⟩ := boardOf_l0 c hc R C z R C hw hs.2 (by omega) (by omega) (R * C).toNat [] a1 s1 (by omega) (by omega) (by simp; omega)
  refine ⟨r, a', s', ?_, q1, by omega, by omega⟩
  unfold spec_l1Cur_boardOf.f
  simp only [e1, Option.bind_some]
  exact e
theorem board_tot (c : List Int) (hc : ∀ x ∈ c, 0 ≤ x ∧ x ≤ 255) (a s : Int) (h0 : 0 ≤ a) (h1 : a ≤ 4611686018427360000) : ∃ R C r a' s', Ev (fun k => spec_l1Cur_board.f k c a s) (R, C, r, a', s') ∧ 1 ≤ R ∧ R ≤ 10 ∧ 1 ≤ C ∧ C ≤ 9 ∧ (r.length : Int) = R * C ∧ a ≤ a' ∧ a' ≤ a + 1090 := by
  obtain ⟨t, a1, s1, e1, g1, g2⟩ := one_tot c hc a s 20 h0 (by omega) (by decide) (by decide)
  cases t with
  | true =>
    obtain ⟨R, a2, s2, e2, hR, k1, k2⟩ := among_tot c hc a1 s1 [1, 10] (by omega) (by omega) (by decide) (by decide)
    obtain ⟨C, a3, s3, e3, hC, m1, m2⟩ := among_tot c hc a2 s2 [1, 9] (by omega) (by omega) (by decide) (by decide)
    have hR' : R = 1 ∨ R = 10 := by simpa using hR
    have hC' : C = 1 ∨ C = 9 := by simpa using hC
    obtain ⟨r, a4, s4, e4, q1, q2, q3⟩ := boardOf_tot c hc a3 s3 R C (by omega) (by omega) (by omega) (by omega) (by omega) (by omega)
    refine ⟨R, C, r, a4, s4, ?_, by omega, by omega, by omega, by omega, q1, by omega, by omega⟩
    unfold spec_l1Cur_board.f
    simp only [e1, Option.bind_some, if_true, e2, e3]
    exact ev_bind e4 (Ev.now _)
  | false =>
    obtain ⟨i, a2, s2, e2, k0, k1, k2, k3⟩ := pick_tot c hc a1 s1 5 (by omega) (by omega) (by decide) (by decide)
    obtain ⟨j, a3, s3, e3, m0, m1, m2, m3⟩ := pick_tot c hc a2 s2 5 (by omega) (by omega) (by decide) (by decide)
    have w1 : wrap64 (1 + i) = 1 + i := wrap_id (by omega) (by omega)
    have w2 : wrap64 (1 + j) = 1 + j := wrap_id (by omega) (by omega)
    obtain ⟨r, a4, s4, e4, q1, q2, q3⟩ := boardOf_tot c hc a3 s3 (1 + i) (1 + j) (by omega) (by omega) (by omega) (by omega) (by omega) (by omega)
    refine ⟨1 + i, 1 + j, r, a4, s4, ?_, by omega, by omega, by omega, by omega, q1, by omega, by omega⟩
    unfold spec_l1Cur_board.f
    simp only [e1, Option.bind_some, Bool.false_eq_true, if_false, e2, e3, w1, w2]
    exact ev_bind e4 (Ev.now _)
theorem anyBoard_tot (c : List Int) (hc : ∀ x ∈ c, 0 ≤ x ∧ x ≤ 255) (a s : Int) (h0 : 0 ≤ a) (h1 : a ≤ 4611686018427350000) : ∃ R C r a' s', Ev (fun k => spec_l1Cur_anyBoard.f k c a s) (R, C, r, a', s') ∧ a ≤ a' ∧ a' ≤ a + 1110 := by
  obtain ⟨R, C, l, a1, s1, e1, hR, hR2, hC, hC2, hl, g1, g2⟩ := board_tot c hc a s h0 (by omega)
  have hs := size_le hR hR2 hC hC2
  have hp : 0 < R * C := Int.mul_pos (by omega) (by omega)
  obtain ⟨i, a2, s2, e2, k0, k1, k2, k3⟩ := pick_tot c hc a1 s1 36 (by omega) (by omega) (by decide) (by decide)
  by_cases i0 : i = 0
  · obtain ⟨z, a3, s3, e3, _, m1, m2⟩ := among_tot c hc a2 s2 [0, wrap64 (R + 1), 10, 11] (by omega) (by omega) (by simp) (by simp)
    refine ⟨z, C, l, a3, s3, ?_, by omega, by omega⟩
    unfold spec_l1Cur_anyBoard.f
    refine ev_bind e1 ?_
    simp only [e2, Option.bind_some, if_pos i0, e3]
    exact Ev.now _
  by_cases i1 : i = 1
  · obtain ⟨z, a3, s3, e3, _, m1, m2⟩ := among_tot c hc a2 s2 [0, wrap64 (C + 1), 9, 10] (by omega) (by omega) (by simp) (by simp)
    refine ⟨R, z, l, a3, s3, ?_, by omega, by omega⟩
    unfold spec_l1Cur_anyBoard.f
    refine ev_bind e1 ?_
    simp only [e2, Option.bind_some, if_neg i0, if_pos i1, e3]
    exact Ev.now _
  by_cases i2 : i = 2
  · obtain ⟨j, a3, s3, e3, j0, j1, m1, m2⟩ := pick_tot c hc a2 s2 l.length (by omega) (by omega) (by omega) (by omega)
    obtain ⟨x, y, a4, s4, e4, n1, n2⟩ := anyCell_tot c hc a3 s3 (by omega) (by omega)
    refine ⟨R, C, l.set j.toNat ⟨x, y⟩, a4, s4, ?_, by omega, by omega⟩
    unfold spec_l1Cur_anyBoard.f
    refine ev_bind e1 ?_
    simp only [e2, Option.bind_some, if_neg i0, if_neg i1, if_pos i2, e3]
    refine ev_bind e4 ?_
    simp only [if_pos j0, if_pos j1]
    exact Ev.now _
  by_cases i3 : i = 3
  · refine ⟨R, C, l.drop (1 : Int).toNat, a2, s2, ?_, by omega, by omega⟩
    unfold spec_l1Cur_anyBoard.f
    refine ev_bind e1 ?_
    simp only [e2, Option.bind_some, if_neg i0, if_neg i1, if_neg i2, if_pos i3, if_pos (show 1 ≤ (l.length : Int) by omega)]
    exact Ev.now _
  by_cases i4 : i = 4
  · refine ⟨11, 2, List.replicate 22 z116, a2, s2, ?_, by omega, by omega⟩
    unfold spec_l1Cur_anyBoard.f
    refine ev_bind e1 ?_
    simp only [e2, Option.bind_some, if_neg i0, if_neg i1, if_neg i2, if_neg i3, if_pos i4, if_pos (show 22 ≤ 17592186044416 by decide)]
    exact Ev.now _
  by_cases i5 : i = 5
  · refine ⟨2, 10, List.replicate 20 z116, a2, s2, ?_, by omega, by omega⟩
    unfold spec_l1Cur_anyBoard.f
    refine ev_bind e1 ?_
    simp only [e2, Option.bind_some, if_neg i0, if_neg i1, if_neg i2, if_neg i3, if_neg i4, if_pos i5, if_pos (show 20 ≤ 17592186044416 by decide)]
    exact Ev.now _
  · refine ⟨R, C, l, a2, s2, ?_, by omega, by omega⟩
    unfold spec_l1Cur_anyBoard.f
    refine ev_bind e1 ?_
    simp only [e2, Option.bind_some, if_neg i0, if_neg i1, if_neg i2, if_neg i3, if_neg i4, if_neg i5]
    exact Ev.now _
theorem enough_l0 (c : List Int) (hc : ∀ x ∈ c, 0 ≤ x ∧ x ≤ 255) : ∀ (m : Nat) (v : List Int) (i a s : Int), 0 ≤ i → i + m = 7 → v.length = 7 → 0 ≤ a → a + 2 * m ≤ 4611686018427380000 → ∃ r a' s', Ev (fun k => spec_l1Cur_enoughKit.l0 k v 7 i c a s) (r, a', s') ∧ r.length = 7 ∧ a ≤ a' ∧ a' ≤ a + 2 * m
  | 0, v, i, a, s, hi, him, hv, h0, h1 => by
    refine ⟨v, a, s, ?_, hv, by omega, by omega⟩
    refine ev_up ?_
    simp only [spec_l1Cur_enoughKit.l0, if_neg (show ¬ i < 7 by omega)]
    exact Ev.now _
  | m + 1, v, i, a, s, hi, him, hv, h0, h1 => by
    obtain ⟨z, a1, s1, e1, _, g1, g2⟩ := among_tot c hc a s [0, 0, 1, 4, (-1)] h0 (by omega) (by decide) (by decide)
    have w1 : wrap64 (i + 1) = i + 1 := wrap_id (by omega) (by omega)
    obtain ⟨r, a2, s2, e2, q1, q2, q3⟩ := enough_l0 c hc m (v.set i.toNat (mx 0 (wrap64 (rd v i + z)))) (i + 1) a1 s1 (by omega) (by omega) (by rw [List.length_set]; exact hv) (by omega) (by omega)
    refine ⟨r, a2, s2, ?_, q1, by omega, by omega⟩
    refine ev_up ?_
    simp only [spec_l1Cur_enoughKit.l0, if_pos (show i < 7 by omega), if_pos hi, if_pos (show i < (v.length : Int) by omega), e1, Option.bind_some, l1Most_eq, w1]
    exact e2
theorem enough_tot (c : List Int) (hc : ∀ x ∈ c, 0 ≤ x ∧ x ≤ 255) (a s R C : Int) (l : List S116) (h0 : 0 ≤ a) (h1 : a ≤ 4611686018427340000) : ∃ r a' s', Ev (fun k => spec_l1Cur_enoughKit.f k c a s R C l) (r, a', s') ∧ r.length ≤ 7 := by
  have j0t : ∀ a1 s1 : Int, 0 ≤ a1 → a1 ≤ a + 4 → ∃ r a' s', Ev (fun k => spec_l1Cur_enoughKit.j0 k true c a1 s1 R C l) (r, a', s') ∧ r.length ≤ 7 := by
    intro a1 s1 g0 g1
    obtain ⟨r, a2, s2, e2, q1, q2, q3⟩ := kit_tot c hc a1 s1 g0 (by omega)
    refine ⟨r, a2, s2, ?_, q1⟩
    refine ev_up ?_
    simp only [spec_l1Cur_enoughKit.j0, if_true]
    exact ev_bind e2 (Ev.now _)
  by_cases hg : goodBoard R C l = true
  · obtain ⟨t, a1, s1, e1, g1, g2⟩ := one_tot c hc a s 3 h0 (by omega) (by decide) (by decide)
    cases t with
    | true =>
      obtain ⟨r, a2, s2, e2, q⟩ := j0t a1 s1 (by omega) (by omega)
      refine ⟨r, a2, s2, ?_, q⟩
      unfold spec_l1Cur_enoughKit.f
      refine ev_bind (spec_boGood_ev R C l) ?_
      simp only [hg, if_true, e1, Option.bind_some]
      exact e2
    | false =>
      obtain ⟨r, a2, s2, e2, q1, q2, q3⟩ := enough_l0 c hc 7 (need l) 0 a1 s1 (by omega) (by omega) (need_len l) (by omega) (by omega)
      refine ⟨r, a2, s2, ?_, by omega⟩
      unfold spec_l1Cur_enoughKit.f
      refine ev_bind (spec_boGood_ev R C l) ?_
      simp only [hg, if_true, e1, Option.bind_some]
      refine ev_up ?_
      simp only [spec_l1Cur_enoughKit.j0, Bool.false_eq_true, if_false]
      refine ev_bind (spec_kiOf_ev R C l hg) ?_
      simp only [need_len]
      exact e2
  · obtain ⟨r, a2, s2, e2, q⟩ := j0t a s h0 (by omega)
    refine ⟨r, a2, s2, ?_, q⟩
    unfold spec_l1Cur_enoughKit.f
    refine ev_bind (spec_boGood_ev R C l) ?_
    simp only [Bool.not_eq_true] at hg
    simp only [hg, Bool.false_eq_true, if_false]
    exact e2
theorem drawCanMake_tot (c : List Int) (hc : ∀ x ∈ c, 0 ≤ x ∧ x ≤ 255) : ∃ kit R C l, Ev (fun k => spec_DrawCanMake.f k c) (kit, R, C, l) ∧ kit.length ≤ 7 := by
  obtain ⟨R, C, l, a1, s1, e1, g1, g2⟩ := anyBoard_tot c hc 0 0 (by decide) (by decide)
  obtain ⟨r, a2, s2, e2, q⟩ := enough_tot c hc a1 s1 R C l (by omega) (by omega)
  refine ⟨r, R, C, l, ?_, q⟩
  unfold spec_DrawCanMake.f
  refine ev_bind e1 ?_
  exact ev_bind e2 (Ev.now _)
theorem boards_l0 (c : List Int) (hc : ∀ x ∈ c, 0 ≤ x ∧ x ≤ 255) (N : Int) (hN : 0 ≤ N) (hN7 : N ≤ 7) : ∀ (m : Nat) (l : List S81) (a s : Int), 0 ≤ a → a + 1090 * m ≤ 4611686018427340000 → (l.length : Int) + m = N → ∃ r a' s', Ev (fun k => spec_l1Cur_boards.l0 k l N c a s) (r, a', s') ∧ r.length ≤ 7
  | 0, l, a, s, h0, h1, hl => by
    have hlN : ¬ ((l.length : Int) < N) := by omega
    by_cases hpos : 0 < N
    · obtain ⟨b, a1, s1, e1, g1, g2⟩ := one_tot c hc a s 24 h0 (by omega) (by decide) (by decide)
      cases b with
      | false =>
        refine ⟨l, a1, s1, ?_, by omega⟩
        refine ev_up ?_
        simp only [spec_l1Cur_boards.l0, if_neg hlN, if_pos hpos, e1, Option.bind_some, Bool.false_eq_true, if_false]
        exact Ev.now _
      | true =>
        obtain ⟨i, a2, s2, e2, k0, k1, k2, k3⟩ := pick_tot c hc a1 s1 N (by omega) (by omega) (by omega) (by omega)
        obtain ⟨R, C, x, a3, s3, e3, m1, m2⟩ := anyBoard_tot c hc a2 s2 (by omega) (by omega)
        refine ⟨l.set i.toNat ⟨R, C, x⟩, a3, s3, ?_, by rw [List.length_set]; omega⟩
        refine ev_up ?_
        simp only [spec_l1Cur_boards.l0, if_neg hlN, if_pos hpos, e1, Option.bind_some, if_true, e2]
        refine ev_bind e3 ?_
        simp only [if_pos k0, if_pos (show i < (l.length : Int) by omega)]
        exact Ev.now _
    · refine ⟨l, a, s, ?_, by omega⟩
      refine ev_up ?_
      simp only [spec_l1Cur_boards.l0, if_neg hlN, if_neg hpos]
      exact Ev.now _
  | m + 1, l, a, s, h0, h1, hl => by
    have hlN : (l.length : Int) < N := by omega
    obtain ⟨R, C, x, a1, s1, e1, _, _, _, _, _, g1, g2⟩ := board_tot c hc a s h0 (by omega)
    obtain ⟨r, a2, s2, e2, q⟩ := boards_l0 c hc N hN hN7 m (l ++ [⟨R, C, x⟩]) a1 s1 (by omega) (by omega) (by simp; omega)
    refine ⟨r, a2, s2, ?_, q⟩
    refine ev_up ?_
    simp only [spec_l1Cur_boards.l0, if_pos hlN]
    refine ev_bind e1 ?_
    simp only [if_pos (show l.length < 1000000000 by omega)]
    exact e2
theorem drawSharedKit_tot (c : List Int) (hc : ∀ x ∈ c, 0 ≤ x ∧ x ≤ 255) : ∃ L, Ev (fun k => spec_DrawSharedKit.f k c) L ∧ L.length ≤ 7 := by
  obtain ⟨i, a1, s1, e1, k0, k1, k2, k3⟩ := pick_tot c hc 0 0 4 (by decide) (by decide) (by decide) (by decide)
  obtain ⟨b, a2, s2, e2, g1, g2⟩ := one_tot c hc a1 s1 16 (by omega) (by omega) (by decide) (by decide)
  cases b with
  | true =>
    obtain ⟨z, a3, s3, e3, hz, m1, m2⟩ := among_tot c hc a2 s2 [0, 6, 7] (by omega) (by omega) (by decide) (by decide)
    have hz' : z = 0 ∨ z = 6 ∨ z = 7 := by simpa using hz
    obtain ⟨r, a4, s4, e4, q⟩ := boards_l0 c hc z (by omega) (by omega) z.toNat [] a3 s3 (by omega) (by omega) (by simp; omega)
    refine ⟨r, ?_, q⟩
    unfold spec_DrawSharedKit.f spec_l1Cur_boards.f
    simp only [e1, Option.bind_some, e2, if_true, e3]
    exact ev_bind e4 (Ev.now _)
  | false =>
    have w1 : wrap64 (1 + i) = 1 + i := wrap_id (by omega) (by omega)
    obtain ⟨r, a4, s4, e4, q⟩ := boards_l0 c hc (1 + i) (by omega) (by omega) (1 + i).toNat [] a2 s2 (by omega) (by omega) (by simp; omega)
    refine ⟨r, ?_, q⟩
    unfold spec_DrawSharedKit.f spec_l1Cur_boards.f
    simp only [e1, Option.bind_some, e2, Bool.false_eq_true, if_false, w1]
    exact ev_bind e4 (Ev.now _)
theorem same_l0 : ∀ (q p : List Int), (p ++ q).length < 9223372036854775807 → Ev (fun k => laws_sameInts.l0 k (p ++ q) (p ++ q) ((p ++ q).length : Int) (p.length : Int)) true
  | [], p, h => by
    refine ev_up ?_
    simp only [laws_sameInts.l0, mid_end, ↓reduceIte]
    exact Ev.now _
  | x :: q, p, h => by
    have hp : p.length < 9223372036854775807 := by simp only [List.length_append, List.length_cons] at h; omega
    refine ev_up ?_
    simp only [laws_sameInts.l0, mid_lt, mid_ge, rd_mid, wrap_mid p x hp, ↓reduceIte]
    rw [step_mid p q x] at h ⊢
    exact same_l0 q (p ++ [x]) h
theorem same_ev (l : List Int) (h : l.length < 9223372036854775807) : Ev (fun k => laws_sameInts.f k l l) true := by
  simp only [laws_sameInts.f, ↓reduceIte]
  simpa using same_l0 l [] (by simpa using h)
def sumI : List Int → Int
  | [] => 0
  | x :: q => x + sumI q
theorem pSum_l0 : ∀ (q p : List Int) (acc : Int), (p ++ q).length < 1000000 → (∀ x ∈ q, 0 ≤ x ∧ x ≤ 1000000) → 0 ≤ acc → acc + 1000000 * (q.length : Int) ≤ 1000000000000 → Ev (fun k => laws_pSum.l0 k acc (p ++ q) ((p ++ q).length : Int) (p.length : Int)) (acc + sumI q)
  | [], p, acc, h, _, _, _ => by
    refine ev_up ?_
    simp only [laws_pSum.l0, mid_end, ↓reduceIte]
    exact ev_eq (Ev.now _) (by simp [sumI])
  | x :: q, p, acc, h, hx, h0, h1 => by
    have hp : p.length < 9223372036854775807 := by simp only [List.length_append, List.length_cons] at h; omega
    obtain ⟨x0, x1⟩ := hx x (List.mem_cons_self ..)
    have hlen : ((x :: q).length : Int) = q.length + 1 := by simp
    have hw : wrap64 (acc + x) = acc + x := wrap_id (by omega) (by omega)
    refine ev_up ?_
    simp only [laws_pSum.l0, mid_lt, mid_ge, rd_mid, wrap_mid p x hp, hw, ↓reduceIte]
    rw [step_mid p q x] at h ⊢
    exact ev_eq (pSum_l0 q (p ++ [x]) (acc + x) h (fun y hy => hx y (List.mem_cons_of_mem _ hy)) (by omega) (by omega)) (by simp only [sumI]; omega)
theorem pSum_ev (l : List Int) (h : l.length < 100000) (hx : ∀ x ∈ l, 0 ≤ x ∧ x ≤ 1000000) : Ev (fun k => laws_pSum.f k l) (sumI l) := by
  unfold laws_pSum.f
  have := pSum_l0 l [] 0 (by simp; omega) hx (by decide) (by omega)
  exact ev_eq (by simpa using this) rfl
/-- Two lists of one length, all within bounds. -/
def twin (a b : List Int) : Prop := a.length = b.length ∧ (∀ x ∈ a, 0 ≤ x ∧ x ≤ 600) ∧ ∀ x ∈ b, 0 ≤ x ∧ x ≤ 90
theorem twin_cons {x y : Int} {a b : List Int} (h : twin (x :: a) (y :: b)) : twin a b ∧ 0 ≤ x ∧ x ≤ 600 ∧ 0 ≤ y ∧ y ≤ 90 := by
  obtain ⟨h1, h2, h3⟩ := h
  obtain ⟨g1, g2⟩ := h2 x (List.mem_cons_self ..)
  obtain ⟨g3, g4⟩ := h3 y (List.mem_cons_self ..)
  exact ⟨⟨by simpa using h1, fun z hz => h2 z (List.mem_cons_of_mem _ hz), fun z hz => h3 z (List.mem_cons_of_mem _ hz)⟩, g1, g2, g3, g4⟩
theorem miss_ok : ∀ (a b : List Int), twin a b → (∀ x ∈ missV a b, 0 ≤ x ∧ x ≤ 90) ∧ 0 ≤ sumI (missV a b) ∧ (sumI (missV a b) = 0 ↔ enoughV a b = true)
  | [], [], _ => by simp [missV, sumI, enoughV]
  | [], _ :: _, h => by have := h.1; simp at this
  | _ :: _, [], h => by have := h.1; simp at this
  | x :: a, y :: b, h => by
    obtain ⟨h', g1, g2, g3, g4⟩ := twin_cons h
    obtain ⟨i1, i2, i3⟩ := miss_ok a b h'
    have hw : wrap64 (y - x) = y - x := wrap_id (by omega) (by omega)
    simp only [missV, sumI, enoughV, hw]
    by_cases hlt : x < y
    · have hm : mx 0 (y - x) = y - x := by unfold mx; rw [if_pos (by omega)]
      rw [hm, if_pos hlt]
      refine ⟨?_, by omega, ⟨fun h => by omega, fun h => by cases h⟩⟩
      intro z hz
      rcases List.mem_cons.1 hz with rfl | hz
      · omega
      · exact i1 z hz
    · have hm : mx 0 (y - x) = 0 := by unfold mx; rw [if_neg (by omega)]
      rw [hm, if_neg hlt]
      refine ⟨?_, by omega, by rw [← i3]; omega⟩
      intro z hz
      rcases List.mem_cons.1 hz with rfl | hz
      · omega
      · exact i1 z hz
theorem most_le : ∀ (a b : List Int) (m : Int), twin a b → 0 ≤ m → m ≤ 500 → 0 ≤ mostV m a b ∧ mostV m a b ≤ m ∧ (1 ≤ mostV m a b ↔ (1 ≤ m ∧ enoughV a b = true)) ∧ ∀ j, mostV m a b * b.getD j 0 ≤ a.getD j 0
  | [], [], m, _, h0, _ => by simp [mostV, enoughV]; omega
  | [], _ :: _, _, h, _, _ => by have := h.1; simp at this
  | _ :: _, [], _, h, _, _ => by have := h.1; simp at this
  | x :: a, y :: b, m, h, h0, h1 => by
    obtain ⟨h', g1, g2, g3, g4⟩ := twin_cons h
    simp only [mostV, enoughV]
    by_cases hy : y > 0
    · have hq : Int.tdiv x y = x / y := Int.tdiv_eq_ediv_of_nonneg g1
      have hq0 : 0 ≤ x / y := Int.ediv_nonneg g1 (by omega)
      have hqm : x / y * y ≤ x := Int.ediv_mul_le x (by omega)
      have hq1 : x / y ≤ x := Int.ediv_le_self y g1
      have hq2 : 1 ≤ x / y ↔ y ≤ x := by rw [Int.le_ediv_iff_mul_le hy]; omega
      rw [if_pos hy, hq, wrap_id (x := x / y) (by omega) (by omega)]
      generalize x / y = q at *
      have hmn : (mn m q = m ∧ m ≤ q) ∨ (mn m q = q ∧ q < m) := by unfold mn; split <;> omega
      obtain ⟨i1, i2, i3, i4⟩ := most_le a b (mn m q) h' (by omega) (by omega)
      refine ⟨i1, by omega, ?_, fun j => ?_⟩
      · rw [i3]
        by_cases hlt : x < y
        · rw [if_pos hlt]; simp; intro; omega
        · rw [if_neg hlt]; constructor
          · rintro ⟨k1, k2⟩; exact ⟨by omega, k2⟩
          · rintro ⟨k1, k2⟩; exact ⟨by omega, k2⟩
      · cases j with
        | zero =>
          simp only [List.getD_cons_zero]
          have : mostV (mn m q) a b * y ≤ q * y := Int.mul_le_mul_of_nonneg_right (by omega) (by omega)
          omega
        | succ j => simpa using i4 j
    · rw [if_neg hy]
      have hy0 : y = 0 := by omega
      obtain ⟨i1, i2, i3, i4⟩ := most_le a b m h' h0 h1
      refine ⟨i1, i2, by rw [i3, if_neg (by omega)], fun j => ?_⟩
      cases j with
      | zero => simp only [List.getD_cons_zero, hy0, Int.mul_zero]; exact g1
      | succ j => simpa using i4 j
theorem rest_ok : ∀ (a b : List Int), twin a b → enoughV a b = true → (restV a b).length = b.length ∧ ∀ j, (restV a b).getD j 0 + b.getD j 0 = a.getD j 0
  | [], [], _, _ => by simp [restV]
  | [], _ :: _, h, _ => by have := h.1; simp at this
  | _ :: _, [], h, _ => by have := h.1; simp at this
  | x :: a, y :: b, h, he => by
    obtain ⟨h', g1, g2, g3, g4⟩ := twin_cons h
    simp only [enoughV] at he
    split at he
    · cases he
    · obtain ⟨i1, i2⟩ := rest_ok a b h' he
      have hw : wrap64 (x - y) = x - y := wrap_id (by omega) (by omega)
      simp only [restV, hw]
      refine ⟨by simp [i1], fun j => ?_⟩
      cases j with
      | zero => simp only [List.getD_cons_zero]; omega
      | succ j => simpa using i2 j
theorem cnt_bound : ∀ (q : List S116) (v : List Int) (B : Int), 0 ≤ B → B + q.length ≤ 1000000 → (∀ x ∈ v, 0 ≤ x ∧ x ≤ B) → ∀ x ∈ cnt v q, 0 ≤ x ∧ x ≤ B + q.length
  | [], v, B, h0, h1, hv => by simpa [cnt] using hv
  | y :: q, v, B, h0, h1, hv => by
    have hlen : ((y :: q).length : Int) = q.length + 1 := by simp
    have hrd : 0 ≤ rd v y.f0 ∧ rd v y.f0 ≤ B := by
      unfold rd
      rw [List.getD_eq_getElem?_getD]
      cases hg : v[y.f0.toNat]? with
      | none => simp; exact h0
      | some z => exact hv z (List.mem_of_getElem? hg)
    have hw : wrap64 (rd v y.f0 + 1) = rd v y.f0 + 1 := wrap_id (by omega) (by omega)
    intro x hx
    rw [cnt, hw] at hx
    have := cnt_bound q (v.set y.f0.toNat (rd v y.f0 + 1)) (B + 1) (by omega) (by omega) (fun z hz => by
      rcases List.mem_or_eq_of_mem_set hz with hz | rfl
      · have := hv z hz; omega
      · omega) x hx
    omega
theorem need_bound (l : List S116) (h : l.length ≤ 90) : ∀ x ∈ need l, 0 ≤ x ∧ x ≤ 90 := by
  intro x hx
  have := cnt_bound l (List.replicate 8 0) 0 (by decide) (by omega) (fun z hz => by rw [List.eq_of_mem_replicate hz]; omega) x (List.mem_of_mem_drop hx)
  omega
theorem goodKit_bound {l : List Int} (h : goodKit l = true) : ∀ x ∈ l, 0 ≤ x ∧ x ≤ 600 := by
  unfold goodKit at h
  simp only [Bool.and_eq_true, List.all_eq_true, decide_eq_true_eq] at h
  exact h.2
theorem twin_of {kit : List Int} {R C : Int} {l : List S116} (hk : goodKit kit = true) (hb : goodBoard R C l = true) : twin kit (need l) :=
  ⟨by rw [goodKit_len hk, need_len], goodKit_bound hk, need_bound l (goodBoard_len hb)⟩
theorem getD_bound {l : List Int} {lo hi : Int} (h : ∀ x ∈ l, lo ≤ x ∧ x ≤ hi) (h0 : lo ≤ 0) (h1 : 0 ≤ hi) (j : Nat) : lo ≤ l.getD j 0 ∧ l.getD j 0 ≤ hi := by
  rw [List.getD_eq_getElem?_getD]
  cases hg : l[j]? with
  | none => simp; exact ⟨h0, h1⟩
  | some z => exact h z (List.mem_of_getElem? hg)
/-- No element is greater. -/
def leL : List Int → List Int → Prop
  | [], [] => True
  | x :: b, y :: a => x ≤ y ∧ leL b a
  | _, _ => False
theorem leL_refl : ∀ a : List Int, leL a a
  | [] => trivial
  | x :: a => ⟨Int.le_refl x, leL_refl a⟩
theorem leL_trans : ∀ {a b c : List Int}, leL a b → leL b c → leL a c
  | [], [], [], _, _ => trivial
  | x :: a, y :: b, z :: c, h, k => ⟨Int.le_trans h.1 k.1, leL_trans h.2 k.2⟩
  | [], _ :: _, _, h, _ => h.elim
  | _ :: _, [], _, h, _ => h.elim
  | _, [], _ :: _, _, k => k.elim
  | _, _ :: _, [], _, k => k.elim
theorem leL_enough : ∀ {a b : List Int}, leL b a → enoughV a b = true
  | [], [], _ => rfl
  | y :: a, x :: b, h => by simp only [enoughV, if_neg (show ¬ y < x from by have := h.1; omega)]; exact leL_enough h.2
  | [], _ :: _, h => h.elim
  | _ :: _, [], h => h.elim
theorem mx_ge (x y : Int) : x ≤ mx x y ∧ y ≤ mx x y ∧ (mx x y = x ∨ mx x y = y) := by unfold mx; split <;> omega
theorem leL_zip : ∀ {v w : List Int}, v.length = w.length → leL v (List.zipWith mx v w) ∧ leL w (List.zipWith mx v w)
  | [], [], _ => ⟨trivial, trivial⟩
  | x :: v, y :: w, h => by
    obtain ⟨h1, h2⟩ := leL_zip (v := v) (w := w) (by simpa using h)
    exact ⟨⟨(mx_ge x y).1, h1⟩, (mx_ge x y).2.1, h2⟩
  | [], _ :: _, h => by simp at h
  | _ :: _, [], h => by simp at h
theorem zip_bound {f : Int → Int → Int} {A B D : Int} : ∀ {v w : List Int}, (∀ x y, 0 ≤ x → x ≤ A → 0 ≤ y → y ≤ B → 0 ≤ f x y ∧ f x y ≤ D) → (∀ x ∈ v, 0 ≤ x ∧ x ≤ A) → (∀ x ∈ w, 0 ≤ x ∧ x ≤ B) → ∀ x ∈ List.zipWith f v w, 0 ≤ x ∧ x ≤ D
  | [], _, _, _, _, x, hx => by simp at hx
  | _ :: _, [], _, _, _, x, hx => by simp at hx
  | a :: v, b :: w, hf, hv, hw, x, hx => by
    simp only [List.zipWith_cons_cons] at hx
    rcases List.mem_cons.1 hx with rfl | hx
    · have h1 := hv a (List.mem_cons_self ..)
      have h2 := hw b (List.mem_cons_self ..)
      exact hf a b h1.1 h1.2 h2.1 h2.2
    · exact zip_bound hf (fun z hz => hv z (List.mem_cons_of_mem _ hz)) (fun z hz => hw z (List.mem_cons_of_mem _ hz)) x hx
theorem foldmx : ∀ (l : List S81) (v : List Int), v.length = 7 → (∀ x ∈ l, x.f2.length ≤ 90) → (∀ x ∈ v, 0 ≤ x ∧ x ≤ 90) → leL v (foldB mx v l) ∧ (∀ x ∈ l, leL (need x.f2) (foldB mx v l)) ∧ ∀ x ∈ foldB mx v l, 0 ≤ x ∧ x ≤ 90
  | [], v, _, _, hb => ⟨leL_refl v, fun x hx => (by cases hx), hb⟩
  | x :: l, v, hv, hl, hb => by
    have hx := hl x (List.mem_cons_self ..)
    have hnb := need_bound x.f2 hx
    obtain ⟨z1, z2⟩ := leL_zip (v := v) (w := need x.f2) (by rw [hv, need_len])
    obtain ⟨g1, g2, g3⟩ := foldmx l (List.zipWith mx v (need x.f2)) (by simp [hv, need_len]) (fun y hy => hl y (List.mem_cons_of_mem _ hy)) (zip_bound (A := 90) (B := 90) (fun a b h1 h2 h3 h4 => by have := mx_ge a b; omega) hb hnb)
    refine ⟨leL_trans z1 g1, fun y hy => ?_, g3⟩
    rcases List.mem_cons.1 hy with rfl | hy
    · exact leL_trans z2 g1
    · exact g2 y hy
def total : List S81 → Int
  | [] => 0
  | x :: l => sumI (need x.f2) + total l
theorem sum_zip_plus : ∀ {v w : List Int}, v.length = w.length → (∀ x ∈ v, 0 ≤ x ∧ x ≤ 100000) → (∀ x ∈ w, 0 ≤ x ∧ x ≤ 90) → sumI (List.zipWith plusW v w) = sumI v + sumI w
  | [], [], _, _, _ => by simp [sumI]
  | x :: v, y :: w, h, hv, hw => by
    have h1 := hv x (List.mem_cons_self ..)
    have h2 := hw y (List.mem_cons_self ..)
    have hp : plusW x y = x + y := wrap_id (by omega) (by omega)
    simp only [List.zipWith_cons_cons, sumI, hp, sum_zip_plus (v := v) (w := w) (by simpa using h) (fun z hz => hv z (List.mem_cons_of_mem _ hz)) (fun z hz => hw z (List.mem_cons_of_mem _ hz))]
    omega
  | [], _ :: _, h, _, _ => by simp at h
  | _ :: _, [], h, _, _ => by simp at h
theorem sum_zip_mx : ∀ {v w : List Int}, v.length = w.length → (∀ x ∈ v, 0 ≤ x ∧ x ≤ 90) → (∀ x ∈ w, 0 ≤ x ∧ x ≤ 90) → sumI (List.zipWith mx v w) ≤ sumI v + sumI w
  | [], [], _, _, _ => by simp [sumI]
  | x :: v, y :: w, h, hv, hw => by
    have h1 := hv x (List.mem_cons_self ..)
    have h2 := hw y (List.mem_cons_self ..)
    have hp := mx_ge x y
    have := sum_zip_mx (v := v) (w := w) (by simpa using h) (fun z hz => hv z (List.mem_cons_of_mem _ hz)) (fun z hz => hw z (List.mem_cons_of_mem _ hz))
    simp only [List.zipWith_cons_cons, sumI]
    omega
  | [], _ :: _, h, _, _ => by simp at h
  | _ :: _, [], h, _, _ => by simp at h
theorem sumI_bound : ∀ (l : List Int) (B : Int), (∀ x ∈ l, 0 ≤ x ∧ x ≤ B) → 0 ≤ sumI l ∧ sumI l ≤ B * l.length
  | [], B, _ => by simp [sumI]
  | x :: l, B, h => by
    have h1 := h x (List.mem_cons_self ..)
    have h2 := sumI_bound l B (fun z hz => h z (List.mem_cons_of_mem _ hz))
    have h3 : B * ((x :: l).length : Int) = B * l.length + B := by
      rw [List.length_cons]; push_cast; rw [Int.mul_add, Int.mul_one]
    simp only [sumI]
    omega
theorem fold_plus : ∀ (l : List S81) (v : List Int) (B : Int), v.length = 7 → (∀ x ∈ l, x.f2.length ≤ 90) → 0 ≤ B → B + 90 * l.length ≤ 10000 → (∀ x ∈ v, 0 ≤ x ∧ x ≤ B) → sumI (foldB plusW v l) = sumI v + total l ∧ ∀ x ∈ foldB plusW v l, 0 ≤ x ∧ x ≤ 10000
  | [], v, B, _, _, h0, h1, hb => ⟨by simp [foldB, total], fun x hx => by have := hb x hx; simp at h1; omega⟩
  | x :: l, v, B, hv, hl, h0, h1, hb => by
    have hnb := need_bound x.f2 (hl x (List.mem_cons_self ..))
    have hlen : ((x :: l).length : Int) = l.length + 1 := by simp
    obtain ⟨g1, g2⟩ := fold_plus l (List.zipWith plusW v (need x.f2)) (B + 90) (by simp [hv, need_len]) (fun y hy => hl y (List.mem_cons_of_mem _ hy)) (by omega) (by omega) (zip_bound (A := B) (B := 90) (fun a b k1 k2 k3 k4 => by
      have hp : plusW a b = a + b := wrap_id (by omega) (by omega)
      rw [hp]; omega) hb hnb)
    refine ⟨?_, g2⟩
    rw [foldB, g1, sum_zip_plus (by rw [hv, need_len]) (fun z hz => by have := hb z hz; omega) hnb, total]
    omega
theorem fold_mx_le : ∀ (l : List S81) (v : List Int), v.length = 7 → (∀ x ∈ l, x.f2.length ≤ 90) → (∀ x ∈ v, 0 ≤ x ∧ x ≤ 90) → sumI (foldB mx v l) ≤ sumI v + total l
  | [], v, _, _, _ => by simp [foldB, total]
  | x :: l, v, hv, hl, hb => by
    have hnb := need_bound x.f2 (hl x (List.mem_cons_self ..))
    have := fold_mx_le l (List.zipWith mx v (need x.f2)) (by simp [hv, need_len]) (fun y hy => hl y (List.mem_cons_of_mem _ hy)) (zip_bound (A := 90) (B := 90) (fun a b h1 h2 h3 h4 => by have := mx_ge a b; omega) hb hnb)
    have h2 := sum_zip_mx (v := v) (w := need x.f2) (by rw [hv, need_len]) hb hnb
    simp only [foldB, total]
    omega
theorem FnKits_l0 (y1 kit rest nd : List Int) (three : Bool) (most : Int) (hj : Ev (fun k => laws_FnKits.j1 k y1) true) (hk : kit.length = 7) (hn : nd.length = 7) (hkb : ∀ x ∈ kit, 0 ≤ x ∧ x ≤ 600) (hnb : ∀ x ∈ nd, 0 ≤ x ∧ x ≤ 90) (h3 : three = true → rest.length = 7 ∧ ∀ j, rest.getD j 0 + nd.getD j 0 = kit.getD j 0)
    (hm0 : 0 ≤ most) (hm1 : most ≤ 500) (hm : ∀ j, most * nd.getD j 0 ≤ kit.getD j 0) : ∀ (m : Nat) (i : Int), 0 ≤ i → i + m = 7 → Ev (fun k => laws_FnKits.l0 k y1 kit three rest most nd 7 i) true
  | 0, i, h0, h1 => by
    refine ev_up ?_
    simp only [laws_FnKits.l0, if_neg (show ¬ i < 7 by omega)]
    exact hj
  | m + 1, i, h0, h1 => by
    have w1 : wrap64 (i + 1) = i + 1 := wrap_id (by omega) (by omega)
    have ih := FnKits_l0 y1 kit rest nd three most hj hk hn hkb hnb h3 hm0 hm1 hm m (i + 1) (by omega) (by omega)
    have b1 := getD_bound hkb (by decide) (by decide) i.toNat
    have b2 := getD_bound hnb (by decide) (by decide) i.toNat
    have hle := hm i.toNat
    have hnn : 0 ≤ most * nd.getD i.toNat 0 := Int.mul_nonneg hm0 b2.1
    have w2 : wrap64 (most * rd nd i) = most * rd nd i := wrap_id (by unfold rd; omega) (by unfold rd; omega)
    have hng : ¬ rd kit i < wrap64 (most * rd nd i) := by rw [w2]; unfold rd; omega
    cases three with
    | false =>
      refine ev_up ?_
      simp only [laws_FnKits.l0, if_pos (show i < 7 by omega), if_pos h0, if_pos (show i < (nd.length : Int) by omega), Bool.false_eq_true, if_false, if_pos (show i < (kit.length : Int) by omega), if_neg hng, w1]
      exact ih
    | true =>
      obtain ⟨hr, hs⟩ := h3 rfl
      have hsi := hs i.toNat
      have w3 : wrap64 (rd rest i + rd nd i) = rd kit i := by
        unfold rd; rw [hsi]; exact wrap_id (by omega) (by omega)
      refine ev_up ?_
      simp only [laws_FnKits.l0, if_pos (show i < 7 by omega), if_pos h0, if_pos (show i < (nd.length : Int) by omega), if_true, if_pos (show i < (rest.length : Int) by omega), if_pos (show i < (kit.length : Int) by omega), w3, if_neg hng, w1]
      exact ih
theorem FnKits_l1 (sh su : List Int) (T : Int) (hT : Ev (fun k => laws_pSum.f k su) T) (hS : ∃ p, Ev (fun k => laws_pSum.f k sh) p ∧ p ≤ T) (hsh : goodKit sh = true) : ∀ (q p : List S81) (acc : Int), (p ++ q).length ≤ 100 → (∀ x ∈ q, goodBoard x.f0 x.f1 x.f2 = true ∧ leL (need x.f2) sh) → 0 ≤ acc → acc ≤ 1000000 - 1000 * q.length → acc + total q = T →
    Ev (fun k => laws_FnKits.l1 k sh su acc (p ++ q) ((p ++ q).length : Int) (p.length : Int)) true := by
  intro q
  induction q with
  | nil =>
    intro p acc hl _ _ _ ht
    obtain ⟨r, hr, hle⟩ := hS
    refine ev_up ?_
    simp only [laws_FnKits.l1, mid_end, ↓reduceIte]
    refine ev_bind hT ?_
    simp only [total] at ht
    simp only [if_pos (show T = acc by omega)]
    refine ev_bind hr ?_
    simp only [if_neg (show ¬ acc < r by omega)]
    exact Ev.now _
  | cons x q IH =>
    intro p acc hl hx h0 h1 ht
    have hp : p.length < 9223372036854775807 := by simp only [List.length_append, List.length_cons] at hl; omega
    obtain ⟨hg, hle⟩ := hx x (List.mem_cons_self ..)
    have hlen : ((x :: q).length : Int) = q.length + 1 := by simp
    have hrd : rd_T81 (p ++ x :: q) (p.length : Int) = x := getD_mid p q x _
    have hc : rCanMake sh x.f0 x.f1 x.f2 = (true, true) := by
      unfold rCanMake; rw [if_pos ⟨hsh, hg⟩, leL_enough hle]
    have hn : rNeededParts x.f0 x.f1 x.f2 = (need x.f2, true) := by unfold rNeededParts; rw [if_pos hg]
    have hnb := need_bound x.f2 (goodBoard_len hg)
    have hsb := sumI_bound (need x.f2) 90 hnb
    rw [need_len] at hsb
    have hw : wrap64 (acc + sumI (need x.f2)) = acc + sumI (need x.f2) := wrap_id (by omega) (by omega)
    have ih := IH (p ++ [x]) (acc + sumI (need x.f2)) (by simpa using hl) (fun y hy => hx y (List.mem_cons_of_mem _ hy)) (by omega) (by omega) (by simp only [total] at ht; omega)
    refine ev_up ?_
    simp only [laws_FnKits.l1, mid_lt, mid_ge, hrd, wrap_mid p x hp, ↓reduceIte]
    refine ev_bind (ev_eq (impl_CanMake_ev sh x.f0 x.f1 x.f2 (by have := goodKit_len hsh; omega)) hc) ?_
    simp only [if_true]
    refine ev_bind (ev_eq (impl_NeededParts_ev x.f0 x.f1 x.f2) hn) ?_
    refine ev_bind (ev_eq (spec_NeededParts_ev x.f0 x.f1 x.f2) hn) ?_
    simp only [if_true]
    refine ev_bind (same_ev (need x.f2) (by have := need_len x.f2; omega)) ?_
    simp only [if_true]
    refine ev_bind (pSum_ev (need x.f2) (by have := need_len x.f2; omega) (fun z hz => by have := hnb z hz; omega)) ?_
    simp only [hw]
    rw [step_mid p q x]
    exact ih
theorem FnKits_j1 (y1 : List Int) (hy : ∀ x ∈ y1, 0 ≤ x ∧ x ≤ 255) : Ev (fun k => laws_FnKits.j1 k y1) true := by
  obtain ⟨L, hL, hL7⟩ := drawSharedKit_tot y1 hy
  refine ev_up ?_
  simp only [laws_FnKits.j1]
  refine ev_bind hL ?_
  refine ev_bind (impl_SharedKit_ev L (by omega)) ?_
  refine ev_bind (spec_SharedKit_ev L (by omega)) ?_
  simp only [↓reduceIte]
  refine ev_bind (impl_SumKit_ev L (by omega)) ?_
  refine ev_bind (spec_SumKit_ev L (by omega)) ?_
  have h2 : (rFold plusW L).2 = (rFold mx L).2 := by unfold rFold; split <;> rfl
  simp only [↓reduceIte, h2]
  refine ev_bind (same_ev _ (by have := rFold_len mx L; omega)) ?_
  simp only [↓reduceIte]
  refine ev_bind (same_ev _ (by have := rFold_len plusW L; omega)) ?_
  simp only [↓reduceIte]
  by_cases hg : goodBoards L = true
  · have e1 : rFold mx L = (foldB mx (List.replicate 7 0) L, true) := by unfold rFold; rw [if_pos hg]
    have e2 : rFold plusW L = (foldB plusW (List.replicate 7 0) L, true) := by unfold rFold; rw [if_pos hg]
    have hall := goodBoards_all hg
    have hl90 : ∀ x ∈ L, x.f2.length ≤ 90 := fun x hx => goodBoard_len (hall x hx)
    have hz : ∀ x ∈ List.replicate 7 (0 : Int), 0 ≤ x ∧ x ≤ 90 := fun x hx => by rw [List.eq_of_mem_replicate hx]; omega
    obtain ⟨_, g2, g3⟩ := foldmx L (List.replicate 7 0) (by simp) hl90 hz
    obtain ⟨s1, s2⟩ := fold_plus L (List.replicate 7 0) 0 (by simp) hl90 (by decide) (by omega) (fun x hx => by rw [List.eq_of_mem_replicate hx]; omega)
    have s3 := fold_mx_le L (List.replicate 7 0) (by simp) hl90 hz
    have hz0 : sumI (List.replicate 7 0) = 0 := by decide
    have hgk : goodKit (foldB mx (List.replicate 7 0) L) = true := by
      unfold goodKit
      simp only [Bool.and_eq_true, decide_eq_true_eq, List.all_eq_true]
      exact ⟨foldB_len mx L _ (by simp), fun x hx => by have := g3 x hx; omega⟩
    simp only [e1, e2, ↓reduceIte]
    have := FnKits_l1 (foldB mx (List.replicate 7 0) L) (foldB plusW (List.replicate 7 0) L) (total L)
      (ev_eq (pSum_ev _ (by rw [foldB_len plusW L _ (by simp)]; omega) (fun z hz => by have := s2 z hz; omega)) (by omega))
      ⟨_, pSum_ev _ (by rw [foldB_len mx L _ (by simp)]; omega) (fun z hz => by have := g3 z hz; omega), by omega⟩
      hgk L [] 0 (by simp; omega) (fun x hx => ⟨hall x hx, g2 x hx⟩) (by decide) (by omega) (by omega)
    simpa using this
  · have e1 : rFold mx L = ([], false) := by unfold rFold; rw [if_neg hg]
    simp only [e1, Bool.false_eq_true, ↓reduceIte]
    exact Ev.now _
theorem FnKits_ev (l0 l1 : List Int) (h0 : ∀ x ∈ l0, 0 ≤ x ∧ x ≤ 255) (h1 : ∀ x ∈ l1, 0 ≤ x ∧ x ≤ 255) : Ev (fun k => laws_FnKits.f k l0 l1) true := by
  obtain ⟨b, hb⟩ : ∃ b, laws_big.f l0 l1 = some b := by unfold laws_big.f; split <;> exact ⟨_, rfl⟩
  unfold laws_FnKits.f
  simp only [hb, Option.bind_some]
  cases b with
  | true => simp only [if_true]; exact Ev.now _
  | false =>
    simp only [Bool.false_eq_true, if_false]
    obtain ⟨kit, R, C, l, hd, hk7⟩ := drawCanMake_tot l0 h0
    have hj := FnKits_j1 l1 h1
    have hkl : kit.length ≤ 1048576 := by omega
    refine ev_bind hd ?_
    refine ev_bind (impl_CanMake_ev kit R C l hkl) ?_
    refine ev_bind (spec_CanMake_ev kit R C l hkl) ?_
    have c22 : ((rCanMake kit R C l).2 || !(rCanMake kit R C l).1) = true := by unfold rCanMake; split <;> rfl
    simp only [↓reduceIte, c22]
    refine ev_bind (impl_MissingParts_ev kit R C l hkl) ?_
    refine ev_bind (spec_MissingParts_ev kit R C l hkl) ?_
    have m2 : (rMissingParts kit R C l).2 = (rCanMake kit R C l).2 := by unfold rMissingParts rCanMake; split <;> rfl
    simp only [↓reduceIte, m2]
    refine ev_bind (impl_RestOfKit_ev kit R C l hkl) ?_
    refine ev_bind (spec_RestOfKit_ev kit R C l hkl) ?_
    have r2 : (rRestOfKit kit R C l).2 = ((rCanMake kit R C l).2 && (rCanMake kit R C l).1) := by
      unfold rRestOfKit rCanMake
      by_cases hg : goodKit kit = true ∧ goodBoard R C l = true
      · rw [if_pos hg]
        by_cases he : enoughV kit (need l) = true
        · rw [if_pos ⟨hg.1, hg.2, he⟩]; simp [he]
        · rw [if_neg (fun h => he h.2.2)]; simp at he; simp [he]
      · rw [if_neg hg, if_neg (fun h => hg ⟨h.1, h.2.1⟩)]; rfl
    simp only [↓reduceIte, r2]
    refine ev_bind (impl_MostCopies_ev kit R C l hkl) ?_
    refine ev_bind (spec_MostCopies_ev kit R C l hkl) ?_
    have n2 : (rMostCopies kit R C l).2 = (rCanMake kit R C l).2 := by unfold rMostCopies rCanMake; split <;> rfl
    simp only [↓reduceIte, n2]
    refine ev_bind (same_ev _ (by have := rMissingParts_len kit R C l hkl; omega)) ?_
    simp only [↓reduceIte]
    refine ev_bind (same_ev _ (by have := rRestOfKit_len kit R C l hkl; omega)) ?_
    simp only [↓reduceIte]
    by_cases hg : goodKit kit = true ∧ goodBoard R C l = true
    · have tw := twin_of hg.1 hg.2
      have ec : rCanMake kit R C l = (enoughV kit (need l), true) := by unfold rCanMake; rw [if_pos hg]
      have em : rMissingParts kit R C l = (missV kit (need l), true) := by unfold rMissingParts; rw [if_pos hg]
      have en : rMostCopies kit R C l = (mostV 500 kit (need l), true) := by unfold rMostCopies; rw [if_pos hg]
      have eN : rNeededParts R C l = (need l, true) := by unfold rNeededParts; rw [if_pos hg.2]
      obtain ⟨q1, q2, q3⟩ := miss_ok _ _ tw
      obtain ⟨p1, p2, p3, p4⟩ := most_le _ _ 500 tw (by decide) (by decide)
      simp only [ec, em, en, ↓reduceIte]
      refine ev_bind (ev_eq (impl_NeededParts_ev R C l) eN) ?_
      refine ev_bind (ev_eq (spec_NeededParts_ev R C l) eN) ?_
      simp only [↓reduceIte]
      refine ev_bind (same_ev _ (by have := need_len l; omega)) ?_
      simp only [↓reduceIte]
      refine ev_bind (pSum_ev _ (by have := missV_len kit (need l); omega) (fun z hz => by have := q1 z hz; omega)) ?_
      have hl0 : ∀ three rest, (three = true → rest.length = 7 ∧ ∀ j, rest.getD j 0 + (need l).getD j 0 = kit.getD j 0) → Ev (fun k => laws_FnKits.l0 k l1 kit three rest (mostV 500 kit (need l)) (need l) 7 0) true := fun three rest h3 =>
        FnKits_l0 l1 kit rest (need l) three (mostV 500 kit (need l)) hj (goodKit_len hg.1) (need_len l) tw.2.1 tw.2.2 h3 p1 p2 p4 7 0 (by decide) (by decide)
      by_cases he : enoughV kit (need l) = true
      · have er : rRestOfKit kit R C l = (restV kit (need l), true) := by unfold rRestOfKit; rw [if_pos ⟨hg.1, hg.2, he⟩]
        obtain ⟨u1, u2⟩ := rest_ok _ _ tw he
        simp only [he, ↓reduceIte, er, q3.2 he, Bool.and_true]
        refine ev_up ?_
        simp only [laws_FnKits.j0, ↓reduceIte, if_pos (p3.2 ⟨by decide, he⟩), need_len]
        exact hl0 true _ (fun _ => ⟨by rw [u1, need_len], u2⟩)
      · have hs0 : ¬ sumI (missV kit (need l)) = 0 := fun h => he (q3.1 h)
        have hm1 : ¬ 1 ≤ mostV 500 kit (need l) := fun h => he (p3.1 h).2
        simp only [Bool.not_eq_true] at he
        simp only [he, Bool.false_eq_true, if_false, if_neg hs0, Bool.and_false]
        refine ev_up ?_
        simp only [laws_FnKits.j0, Bool.false_eq_true, if_false, if_neg hm1, need_len]
        exact hl0 false _ (fun h => by cases h)
    · have ec : rCanMake kit R C l = (false, false) := by unfold rCanMake; rw [if_neg hg]
      simp only [ec, Bool.false_eq_true, if_false]
      exact hj

end Go.Proofs.Ythhoobpmjgpkkaa.Pure
