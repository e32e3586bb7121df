/- The law FnExactMissingParts of plain lists and numbers: whatever the input, it answers true. Condition: the lengths are those of rows that fit a machine. -/
import Derived.Test.YtobaeiihohgajaaMFnExactMissingParts2
namespace Go.Proofs.Ytobaeiihohgajaa.Pure
open Go.RowKit Go.Proofs.Ytobaeiihohgajaa.Pall Go.Proofs.YtobaeiihohgajaaW.PrintWords Go.Proofs.YtobaeiihohgajaaW.PrintLast Go.Proofs.YtobaeiihohgajaaW.PrintMore
set_option linter.unusedVariables false
set_option linter.unusedSimpArgs false

/-! ### Ground: rounds, and a row seen as what is behind and what is ahead -/
theorem ev_up {α : Type} {g : Nat → Option α} {r : α} (h : Ev (fun k => g (k + 1)) r) : Ev g r := by
  obtain ⟨K, hK⟩ := h
  refine ⟨K + 1, fun k hk => ?_⟩
  obtain ⟨m, rfl⟩ : ∃ m, k = m + 1 := ⟨k - 1, by omega⟩
  exact hK m (by omega)
theorem ev_eq {α : Type} {g : Nat → Option α} {r r' : α} (h : Ev g r) (e : r = r') : Ev g r' := e ▸ h
theorem ev_bind {α β : Type} {g : Nat → Option α} {f : Nat → α → Option β} {a : α} {r : β} (h : Ev g a) (k : Ev (fun n => f n a) r) : Ev (fun n => (g n).bind (f n)) r := Ev.bind h k
theorem mid_lt {α : Type} (p q : List α) (x : α) : ((p.length : Int) < ((p ++ x :: q).length : Int)) = True := by
  apply eq_true; simp only [List.length_append, List.length_cons]; omega
theorem mid_lt2 {α β : Type} (p : List α) (p' q : List β) (x : β) (h : p.length = p'.length) : ((p.length : Int) < ((p' ++ x :: q).length : Int)) = True := by
  apply eq_true; simp only [List.length_append, List.length_cons]; omega
theorem mid_ge {α : Type} (p : List α) : (0 ≤ (p.length : Int)) = True := by apply eq_true; omega
theorem mid_end {α : Type} (p : List α) : ((p.length : Int) < ((p ++ []).length : Int)) = False := by simp
theorem mid_lt_l {α : Type} (p : List α) (x : α) (q : List α) : ((p.length : Int) < (p.length : Int) + ((x :: q).length : Int)) = True := by
  apply eq_true; simp only [List.length_cons]; omega
theorem rd_mid (p q : List Int) (x : Int) : rd (p ++ x :: q) (p.length : Int) = x := by simp [rd]
theorem rd_mid2 {α : Type} (p : List α) (p' q : List Int) (x : Int) (h : p.length = p'.length) : rd (p' ++ x :: q) (p.length : Int) = x := by simp [rd, h]
theorem getD_mid {α : Type} (p q : List α) (x z : α) : (p ++ x :: q).getD ((p.length : Int)).toNat z = x := by simp
theorem getD_mid2 {α β : Type} (p : List α) (p' q : List β) (x z : β) (h : p.length = p'.length) : (p' ++ x :: q).getD ((p.length : Int)).toNat z = x := by simp [h]
theorem set_mid {α : Type} (p q : List α) (x y : α) : (p ++ x :: q).set ((p.length : Int)).toNat y = p ++ y :: q := by simp
theorem set_mid2 {α β : Type} (p : List α) (p' q : List β) (x y : β) (h : p.length = p'.length) : (p' ++ x :: q).set ((p.length : Int)).toNat y = p' ++ y :: q := by simp [h]
theorem wrap_mid {α : Type} (p : List α) (x : α) (h : p.length < 9223372036854775807) : wrap64 ((p.length : Int) + 1) = ((p ++ [x]).length : Int) := by
  unfold wrap64; simp only [List.length_append, List.length_singleton]; omega
theorem step_mid {α : Type} (p q : List α) (x : α) : p ++ x :: q = (p ++ [x]) ++ q := by simp
theorem wrap_id {x : Int} (h0 : -9223372036854775808 ≤ x) (h1 : x ≤ 9223372036854775807) : wrap64 x = x := by unfold wrap64; omega
theorem wf_i64 {x : Int} (h : (Lit.int .i64 x).wf = true) : -9223372036854775808 ≤ x ∧ x ≤ 9223372036854775807 := by
  have h1 : IntKind.i64.min = -9223372036854775808 := by decide +kernel
  have h2 : IntKind.i64.max = 9223372036854775807 := by decide +kernel
  simp only [Lit.wf, h1, h2, Bool.and_eq_true, decide_eq_true_eq] at h
  omega
theorem laws_eqIntS_l0 : ∀ (q p : List Int), (p ++ q).length < 9223372036854775807 → Ev (fun k => laws_eqIntS.l0 k (p ++ q) (p ++ q) (p.length : Int)) true
  | [], p, h => by
    refine ev_up ?_
    simp only [laws_eqIntS.l0, mid_end, ↓reduceIte]
    exact Ev.now _
  | x :: q, p, h => by
    have hp : p.length < 9223372036854775807 := by simp only [List.length_append, List.length_cons] at h; omega
    refine ev_up ?_
    simp only [laws_eqIntS.l0, mid_lt, mid_ge, rd_mid, wrap_mid p x hp, ↓reduceIte]
    rw [step_mid p q x] at h ⊢
    exact laws_eqIntS_l0 q (p ++ [x]) h
theorem laws_eqIntS_ev (l : List Int) (h : l.length < 9223372036854775807) : Ev (fun k => laws_eqIntS.f k l l) true := by
  simp only [laws_eqIntS.f, ↓reduceIte]
  simpa using laws_eqIntS_l0 l [] (by simpa using h)
theorem laws_markIntS_l0 : ∀ (q p : List Int) (m : Int), (p ++ q).length < 1000000000000000 → 0 ≤ m → m + q.length ≤ 1000000000000000 → ∃ q', q'.length = q.length ∧ Ev (fun k => laws_markIntS.l0 k (p ++ q) m (p.length : Int)) (m + q.length, p ++ q') ∧ Ev (fun k => laws_heldIntS.l0 k (p ++ q') m (p.length : Int)) (m + q.length)
  | [], p, m, h, h0, h1 => by
    refine ⟨[], rfl, ev_up ?_, ev_up ?_⟩
    · simp only [laws_markIntS.l0, mid_end, ↓reduceIte]
      exact ev_eq (Ev.now _) (by simp)
    · simp only [laws_heldIntS.l0, mid_end, ↓reduceIte]
      exact ev_eq (Ev.now _) (by simp)
  | x :: q, p, m, h, h0, h1 => by
    have hp : p.length < 9223372036854775807 := by simp only [List.length_append, List.length_cons] at h; omega
    have hm : wrap64 (m + 1) = m + 1 := wrap_id (by omega) (by simp only [List.length_cons] at h1; omega)
    obtain ⟨q', hl, hA, hB⟩ := laws_markIntS_l0 q (p ++ [m]) (m + 1) (by simp only [List.length_append, List.length_cons, List.length_nil] at h ⊢; omega) (by omega) (by simp only [List.length_cons] at h1; omega)
    have e : (m + 1) + (q.length : Int) = m + ((x :: q).length : Int) := by simp only [List.length_cons]; omega
    rw [e] at hA hB
    refine ⟨m :: q', by simp [hl], ev_up ?_, ev_up ?_⟩
    · simp only [laws_markIntS.l0, mid_lt, mid_ge, set_mid, wrap_mid p m hp, hm, ↓reduceIte]
      rw [step_mid p q m, step_mid p q' m]
      exact hA
    · simp only [laws_heldIntS.l0, mid_lt, mid_ge, rd_mid, wrap_mid p m hp, hm, ↓reduceIte]
      rw [step_mid p q' m]
      exact hB
/-- What is marked is held, and anew so. -/
theorem laws_markIntS_ev (l : List Int) (m : Int) (h : l.length < 1000000000000000) (h0 : 0 ≤ m) (h1 : m + l.length ≤ 1000000000000000) : ∃ l', l'.length = l.length ∧ Ev (fun k => laws_markIntS.f k l m) (m + l.length, l') ∧ Ev (fun k => laws_heldIntS.f k l' m) (m + l.length) := by
  obtain ⟨q', hl, hA, hB⟩ := laws_markIntS_l0 l [] m (by simpa using h) h0 h1
  exact ⟨q', hl, by simpa [laws_markIntS.f] using hA, by simpa [laws_heldIntS.f] using hB⟩
theorem laws_toIntS_l0 : ∀ (q p : List Int), (p ++ q).length < 9223372036854775807 → Ev (fun k => laws_toIntS.l0 k (p ++ q) (p ++ List.replicate q.length 0) (p.length : Int)) (p ++ q)
  | [], p, h => by
    refine ev_up ?_
    simp only [laws_toIntS.l0, mid_end, ↓reduceIte]
    exact ev_eq (Ev.now _) (by simp)
  | x :: q, p, h => by
    have hp : p.length < 9223372036854775807 := by simp only [List.length_append, List.length_cons] at h; omega
    refine ev_up ?_
    simp only [laws_toIntS.l0, List.length_cons, List.replicate_succ, mid_lt, mid_ge, rd_mid, set_mid, wrap_mid p x hp, ↓reduceIte]
    rw [step_mid p q x] at h ⊢
    rw [step_mid p (List.replicate q.length 0) x]
    exact laws_toIntS_l0 q (p ++ [x]) h
theorem laws_toIntS_ev (l : List Int) (h : l.length ≤ 1048576) : Ev (fun k => laws_toIntS.f k l) l := by
  have h0 : (0 ≤ (l.length : Int)) = True := by apply eq_true; omega
  have h1 : (((l.length : Int) : Int).toNat ≤ 35184372088832) = True := by apply eq_true; omega
  simp only [laws_toIntS.f, h0, h1, ↓reduceIte]
  simpa using laws_toIntS_l0 l [] (by simp; omega)
theorem l1In_eq (a lo hi : Int) : spec_l1In.f a lo hi = some (decide (lo ≤ a ∧ a ≤ hi)) := by
  by_cases h : lo ≤ a <;> simp [spec_l1In.f, h]
theorem spec_l1All_l0 (lo hi : Int) : ∀ (q p : List Int), (p ++ q).length < 9223372036854775807 → Ev (fun k => spec_l1All.l0 k lo hi (p ++ q) ((p ++ q).length : Int) (p.length : Int)) (q.all fun x => decide (lo ≤ x ∧ x ≤ hi))
  | [], p, h => by
    refine ev_up ?_
    simp only [spec_l1All.l0, mid_end, ↓reduceIte]
    exact Ev.now _
  | x :: q, p, h => by
    have hp : p.length < 9223372036854775807 := by simp only [List.length_append, List.length_cons] at h; omega
    refine ev_up ?_
    simp only [spec_l1All.l0, l1In_eq, Option.bind_some, mid_lt, mid_ge, rd_mid, wrap_mid p x hp, ↓reduceIte, List.all_cons]
    cases decide (lo ≤ x ∧ x ≤ hi) with
    | false => simpa using Ev.now _
    | true =>
      simp only [↓reduceIte, Bool.true_and]
      rw [step_mid p q x] at h ⊢
      exact spec_l1All_l0 lo hi q (p ++ [x]) h
theorem spec_l1All_ev (l : List Int) (lo hi : Int) (h : l.length < 9223372036854775807) : Ev (fun k => spec_l1All.f k l lo hi) (l.all fun x => decide (lo ≤ x ∧ x ≤ hi)) := by
  simpa [spec_l1All.f] using spec_l1All_l0 lo hi l [] (by simpa using h)
theorem l1Most_eq (a b : Int) : spec_l1Most.f a b = some (mx a b) := by
  unfold spec_l1Most.f mx; split <;> split <;> first | rfl | (congr 1; omega)
theorem laws_markIntS_o : ∀ (q p : List Int) (m : Int), (p ++ q).length < 1000000000000000 → 0 ≤ m → m + q.length ≤ 1000000000000000 → ∃ q', Ev (fun k => laws_markIntS.l0 k (p ++ q) m (p.length : Int)) (m + q.length, q')
  | [], p, m, h, h0, h1 => by
    refine ⟨p, ev_up ?_⟩
    simp only [laws_markIntS.l0, mid_end, ↓reduceIte]
    exact ev_eq (Ev.now _) (by simp)
  | x :: q, p, m, h, h0, h1 => by
    have hp : p.length < 9223372036854775807 := by simp only [List.length_append, List.length_cons] at h; omega
    have hm : wrap64 (m + 1) = m + 1 := wrap_id (by omega) (by simp only [List.length_cons] at h1; omega)
    obtain ⟨q', hA⟩ := laws_markIntS_o q (p ++ [m]) (m + 1) (by simp only [List.length_append, List.length_cons, List.length_nil] at h ⊢; omega) (by omega) (by simp only [List.length_cons] at h1; omega)
    have e : (m + 1) + (q.length : Int) = m + ((x :: q).length : Int) := by simp only [List.length_cons]; omega
    rw [e] at hA
    refine ⟨q', ev_up ?_⟩
    simp only [laws_markIntS.l0, mid_lt, mid_ge, set_mid, wrap_mid p m hp, hm, ↓reduceIte]
    rw [step_mid p q m]
    exact hA
theorem laws_markIntS_only (l : List Int) (h : l.length < 100000000000000) : ∃ m' l', 0 ≤ m' ∧ Ev (fun k => laws_markIntS.f k l 1) (m', l') := by
  obtain ⟨q', hA⟩ := laws_markIntS_o l [] 1 (by simp; omega) (by omega) (by omega)
  exact ⟨1 + l.length, q', by omega, by simpa [laws_markIntS.f] using hA⟩
theorem eqCell_self (a0 a1 : Int) : laws_eqCell.f a0 a1 a0 a1 = some true := by simp [laws_eqCell.f]
theorem laws_eqCellS_l0 : ∀ (q p : List S103), (p ++ q).length < 9223372036854775807 → Ev (fun k => laws_eqCellS.l0 k (p ++ q) (p ++ q) (p.length : Int)) true
  | [], p, h => by
    refine ev_up ?_
    simp only [laws_eqCellS.l0, mid_end, ↓reduceIte]
    exact Ev.now _
  | x :: q, p, h => by
    have hp : p.length < 9223372036854775807 := by simp only [List.length_append, List.length_cons] at h; omega
    refine ev_up ?_
    simp only [laws_eqCellS.l0, eqCell_self, Option.bind_some, rd_T103, mid_lt, mid_ge, getD_mid, wrap_mid p x hp, ↓reduceIte]
    rw [step_mid p q x] at h ⊢
    exact laws_eqCellS_l0 q (p ++ [x]) h
theorem laws_eqCellS_ev (l : List S103) (h : l.length < 9223372036854775807) : Ev (fun k => laws_eqCellS.f k l l) true := by
  simp only [laws_eqCellS.f, ↓reduceIte]
  simpa using laws_eqCellS_l0 l [] (by simpa using h)
theorem laws_markCellS_o : ∀ (q p : List S103) (m : Int), (p ++ q).length < 1000000000000000 → 0 ≤ m → m + 2 * q.length ≤ 1000000000000000 → ∃ q', Ev (fun k => laws_markCellS.l0 k (p ++ q) m (p.length : Int)) (m + 2 * q.length, q')
  | [], p, m, h, h0, h1 => by
    refine ⟨p, ev_up ?_⟩
    simp only [laws_markCellS.l0, mid_end, ↓reduceIte]
    exact ev_eq (Ev.now _) (by simp)
  | x :: q, p, m, h, h0, h1 => by
    have hp : p.length < 9223372036854775807 := by simp only [List.length_append, List.length_cons] at h; omega
    have hm1 : wrap64 (m + 1) = m + 1 := by rw [wrap_id (by omega) (by simp only [List.length_cons] at h1; omega)]
    have hm2 : wrap64 (m + 1 + 1) = m + 2 := by rw [wrap_id (by omega) (by simp only [List.length_cons] at h1; omega)]; omega
    obtain ⟨q', hA⟩ := laws_markCellS_o q (p ++ [⟨m, m + 1⟩]) (m + 2) (by simp only [List.length_append, List.length_cons, List.length_nil] at h ⊢; omega) (by omega) (by simp only [List.length_cons] at h1; omega)
    have e : (m + 2) + 2 * (q.length : Int) = m + 2 * ((x :: q).length : Int) := by simp only [List.length_cons]; omega
    rw [e] at hA
    refine ⟨q', ev_up ?_⟩
    simp only [laws_markCellS.l0, rd_T103, mid_lt, mid_ge, set_mid, getD_mid, Option.bind_some, hm1, hm2, wrap_mid p (⟨m, m + 1⟩ : S103) hp, ↓reduceIte]
    rw [step_mid p q]
    exact hA
theorem laws_markCellS_only (l : List S103) (m : Int) (h : l.length < 100000000000000) (h0 : 0 ≤ m) (h1 : m ≤ 100000000000000) : ∃ m' l', 0 ≤ m' ∧ m' = m + 2 * l.length ∧ Ev (fun k => laws_markCellS.f k l m) (m', l') := by
  obtain ⟨q', hA⟩ := laws_markCellS_o l [] m (by simp; omega) (by omega) (by omega)
  exact ⟨m + 2 * l.length, q', by omega, rfl, by simpa [laws_markCellS.f] using hA⟩
def toCell (x : S106) : S103 := ⟨x.f0, x.f1⟩
theorem laws_toCellS_l0 : ∀ (q p : List S106), (p ++ q).length < 9223372036854775807 → Ev (fun k => laws_toCellS.l0 k (p ++ q) (p.map toCell ++ List.replicate q.length z103) (p.length : Int)) ((p ++ q).map toCell)
  | [], p, h => by
    refine ev_up ?_
    simp only [laws_toCellS.l0, mid_end, ↓reduceIte]
    exact ev_eq (Ev.now _) (by simp)
  | x :: q, p, h => by
    have hp : p.length < 9223372036854775807 := by simp only [List.length_append, List.length_cons] at h; omega
    have hl : p.length = (p.map toCell).length := by simp
    refine ev_up ?_
    simp only [laws_toCellS.l0, laws_toCell.f, Option.bind_some, rd_T106, List.length_cons, List.replicate_succ, mid_lt, mid_lt2 p _ _ _ hl, mid_ge, getD_mid, set_mid2 p _ _ _ _ hl, wrap_mid p x hp, ↓reduceIte]
    rw [step_mid p q x] at h ⊢
    have e : p.map toCell ++ (⟨x.f0, x.f1⟩ : S103) :: List.replicate q.length z103 = (p ++ [x]).map toCell ++ List.replicate q.length z103 := by simp [toCell]
    rw [e]
    exact laws_toCellS_l0 q (p ++ [x]) h
theorem laws_toCellS_ev (l : List S106) (h : l.length ≤ 1048576) : Ev (fun k => laws_toCellS.f k l) (l.map toCell) := by
  have h0 : (0 ≤ (l.length : Int)) = True := by apply eq_true; omega
  have h1 : (((l.length : Int) : Int).toNat ≤ 17592186044416) = True := by apply eq_true; omega
  simp only [laws_toCellS.f, h0, h1, ↓reduceIte]
  simpa using laws_toCellS_l0 l [] (by simp; omega)
theorem szCellS_eq (l : List S106) (n : Int) (h : l.length ≤ 9223372036854775807) (h0 : 0 ≤ n) (h1 : n ≤ 1048576) : laws_szCellS.f l n = some (if (l.length : Int) ≤ n then n - (l.length : Int) else -1) := by
  have hw : wrap64 (n - (l.length : Int)) = n - (l.length : Int) := wrap_id (by omega) (by omega)
  unfold laws_szCellS.f
  rw [hw]
  by_cases hl : (l.length : Int) ≤ n
  · rw [if_neg (by omega), if_pos hl]
  · rw [if_pos (by omega), if_neg hl]
def okCell (c : S103) : Bool := decide (0 ≤ c.f0 ∧ c.f0 ≤ 7 ∧ (c.f1 = 0 ∨ (c.f1 = 1 ∧ (c.f0 = 3 ∨ c.f0 = 6))))
def goodBoard (r c : Int) (l : List S103) : Bool := decide (1 ≤ r ∧ r ≤ 10 ∧ 1 ≤ c ∧ c ≤ 9 ∧ (l.length : Int) = r * c) && l.all okCell
theorem size_le {r c : Int} (h1 : 1 ≤ r) (h2 : r ≤ 10) (h3 : 1 ≤ c) (h4 : c ≤ 9) : 0 ≤ r * c ∧ r * c ≤ 90 :=
  ⟨Int.mul_nonneg (by omega) (by omega), Int.le_trans (Int.mul_le_mul h2 h4 (by omega) (by omega)) (by omega)⟩
theorem goodBoard_len {r c : Int} {l : List S103} (h : goodBoard r c l = true) : l.length ≤ 90 := by
  unfold goodBoard at h
  simp only [Bool.and_eq_true, decide_eq_true_eq] at h
  have := size_le h.1.1 h.1.2.1 h.1.2.2.1 h.1.2.2.2.1
  omega
theorem goodBoard_ok {r c : Int} {l : List S103} (h : goodBoard r c l = true) : ∀ x ∈ l, okCell x = true := by
  unfold goodBoard at h
  simp only [Bool.and_eq_true, List.all_eq_true] at h
  exact h.2
theorem okCell_kind {x : S103} (h : okCell x = true) : 0 ≤ x.f0 ∧ x.f0 ≤ 7 := by
  unfold okCell at h; simp only [decide_eq_true_eq] at h; omega
theorem paGood_eq (a b : Int) : spec_paGood.f a b = some (okCell ⟨a, b⟩) := by
  simp only [spec_paGood.f, spec_paTurning.f, okCell, l1In_eq, Option.bind_some]
  repeat' split
  all_goals
    simp only [Option.bind_some, Option.some.injEq]
    rw [Bool.eq_iff_iff]
    simp_all
    try omega
theorem IsCell_eq (a b : Int) : impl_IsCell.f a b = some (okCell ⟨a, b⟩) := by
  simp only [impl_IsCell.f, okCell]
  repeat' split
  all_goals
    simp only [Option.some.injEq]
    rw [Bool.eq_iff_iff]
    simp_all
    try omega
theorem impl_validCells_l0 : ∀ (q p : List S103), (p ++ q).length < 9223372036854775807 → Ev (fun k => impl_validCells.l0 k (p ++ q) ((p ++ q).length : Int) (p.length : Int)) (q.all okCell)
  | [], p, h => by
    refine ev_up ?_
    simp only [impl_validCells.l0, mid_end, ↓reduceIte]
    exact Ev.now _
  | x :: q, p, h => by
    have hp : p.length < 9223372036854775807 := by simp only [List.length_append, List.length_cons] at h; omega
    refine ev_up ?_
    simp only [impl_validCells.l0, IsCell_eq, Option.bind_some, rd_T103, mid_lt, mid_ge, getD_mid, wrap_mid p x hp, ↓reduceIte, List.all_cons]
    cases okCell x with
    | false => simpa using Ev.now _
    | true =>
      simp only [↓reduceIte, Bool.true_and]
      rw [step_mid p q x] at h ⊢
      exact impl_validCells_l0 q (p ++ [x]) h
theorem impl_validCells_ev (l : List S103) (h : l.length ≤ 90) : Ev (fun k => impl_validCells.f k l) (l.all okCell) := by
  have : ¬ ((l.length : Int) > 90) := by omega
  simp only [impl_validCells.f, this, ↓reduceIte]
  simpa using impl_validCells_l0 l [] (by simp; omega)
theorem impl_IsBoard_ev (r c : Int) (l : List S103) : Ev (fun k => impl_IsBoard.f k r c l) (goodBoard r c l) := by
  by_cases h : 1 ≤ r ∧ r ≤ 10 ∧ 1 ≤ c ∧ c ≤ 9
  · obtain ⟨h1, h2, h3, h4⟩ := h
    have hs := size_le h1 h2 h3 h4
    have hw : wrap64 (r * c) = r * c := wrap_id (by omega) (by omega)
    by_cases hl : (l.length : Int) = r * c
    · have hg : goodBoard r c l = l.all okCell := by simp [goodBoard, h1, h2, h3, h4, hl]
      simp only [impl_IsBoard.f, hw, hl, ge_iff_le, h1, h2, h3, h4, ↓reduceIte, hg]
      exact ev_bind (impl_validCells_ev l (by omega)) (Ev.now _)
    · have hg : goodBoard r c l = false := by simp [goodBoard, hl]
      simp only [impl_IsBoard.f, hw, hl, ge_iff_le, h1, h2, h3, h4, ↓reduceIte, hg]
      exact Ev.now _
  · have hg : goodBoard r c l = false := by
      unfold goodBoard
      have : ¬ (1 ≤ r ∧ r ≤ 10 ∧ 1 ≤ c ∧ c ≤ 9 ∧ (l.length : Int) = r * c) := fun h' => h ⟨h'.1, h'.2.1, h'.2.2.1, h'.2.2.2.1⟩
      simp [this]
    rw [hg]
    simp only [impl_IsBoard.f, ge_iff_le]
    by_cases h1 : 1 ≤ r
    · by_cases h2 : r ≤ 10
      · by_cases h3 : 1 ≤ c
        · have h4 : ¬ c ≤ 9 := fun h4 => h ⟨h1, h2, h3, h4⟩
          simp only [h1, h2, h3, h4, ↓reduceIte]; exact Ev.now _
        · simp only [h1, h2, h3, ↓reduceIte]; exact Ev.now _
      · simp only [h1, h2, ↓reduceIte]; exact Ev.now _
    · simp only [h1, ↓reduceIte]; exact Ev.now _
theorem spec_boGood_l0 : ∀ (q p : List S103), (p ++ q).length < 9223372036854775807 → Ev (fun k => spec_boGood.l0 k (p ++ q) ((p ++ q).length : Int) (p.length : Int)) (q.all okCell)
  | [], p, h => by
    refine ev_up ?_
    simp only [spec_boGood.l0, mid_end, ↓reduceIte]
    exact Ev.now _
  | x :: q, p, h => by
    have hp : p.length < 9223372036854775807 := by simp only [List.length_append, List.length_cons] at h; omega
    refine ev_up ?_
    simp only [spec_boGood.l0, paGood_eq, Option.bind_some, rd_T103, mid_lt, mid_ge, getD_mid, wrap_mid p x hp, ↓reduceIte, List.all_cons]
    cases okCell x with
    | false => simpa using Ev.now _
    | true =>
      simp only [↓reduceIte, Bool.true_and]
      rw [step_mid p q x] at h ⊢
      exact spec_boGood_l0 q (p ++ [x]) h
theorem spec_boGood_ev (r c : Int) (l : List S103) : Ev (fun k => spec_boGood.f k r c l) (goodBoard r c l) := by
  have fin : Ev (fun k => spec_boGood.j0 k true r c l) false := by
    refine ev_up ?_
    simp only [spec_boGood.j0, ↓reduceIte]
    exact Ev.now _
  simp only [spec_boGood.f, l1In_eq, Option.bind_some]
  by_cases hr : 1 ≤ r ∧ r ≤ 10
  · by_cases hc : 1 ≤ c ∧ c ≤ 9
    · have hs := size_le hr.1 hr.2 hc.1 hc.2
      have hw : wrap64 (r * c) = r * c := wrap_id (by omega) (by omega)
      by_cases hl : (l.length : Int) = r * c
      · have hg : goodBoard r c l = l.all okCell := by simp [goodBoard, hr, hc, hl]
        simp only [hr, hc, hw, hl, hg, and_self, decide_true, ↓reduceIte, bne_self_eq_false]
        refine ev_up ?_
        simp only [spec_boGood.j0, ↓reduceIte, Bool.false_eq_true]
        have := spec_boGood_l0 l [] (by simp; omega)
        simpa using this
      · have hg : goodBoard r c l = false := by simp [goodBoard, hl]
        have hb : ((l.length : Int) != r * c) = true := by simpa using hl
        simp only [hr, hc, hw, hb, hg, and_self, decide_true, ↓reduceIte]
        exact fin
    · have hg : goodBoard r c l = false := by
        unfold goodBoard
        have : ¬ (1 ≤ r ∧ r ≤ 10 ∧ 1 ≤ c ∧ c ≤ 9 ∧ (l.length : Int) = r * c) := fun h' => hc ⟨h'.2.2.1, h'.2.2.2.1⟩
        simp [this]
      simp only [hr, hc, hg, and_self, decide_true, decide_false, ↓reduceIte, Bool.false_eq_true]
      exact fin
  · have hg : goodBoard r c l = false := by
      unfold goodBoard
      have : ¬ (1 ≤ r ∧ r ≤ 10 ∧ 1 ≤ c ∧ c ≤ 9 ∧ (l.length : Int) = r * c) := fun h' => hr ⟨h'.1, h'.2.1⟩
      simp [this]
    simp only [hr, hg, decide_false, ↓reduceIte, Bool.false_eq_true]
    exact fin
/-- The cells of each kind. -/
def cnt (v : List Int) : List S103 → List Int
  | [] => v
  | x :: q => cnt (v.set x.f0.toNat (wrap64 (rd v x.f0 + 1))) q
theorem cnt_len : ∀ (q : List S103) (v : List Int), (cnt v q).length = v.length
  | [], v => rfl
  | x :: q, v => by rw [cnt, cnt_len q]; simp
def need (l : List S103) : List Int := (cnt (List.replicate 8 0) l).drop 1
theorem need_len (l : List S103) : (need l).length = 7 := by simp [need, cnt_len]
theorem spec_boParts_l0 : ∀ (q p : List S103) (v : List Int), (p ++ q).length < 9223372036854775807 → v.length = 8 → (∀ r ∈ q, okCell r = true) → Ev (fun k => spec_boParts.l0 k v (p ++ q) ((p ++ q).length : Int) (p.length : Int)) (cnt v q)
  | [], p, v, h, hv, ho => by
    refine ev_up ?_
    simp only [spec_boParts.l0, mid_end, ↓reduceIte, cnt]
    exact Ev.now _
  | x :: q, p, v, h, hv, ho => by
    have hp : p.length < 9223372036854775807 := by simp only [List.length_append, List.length_cons] at h; omega
    obtain ⟨k0, k7⟩ := okCell_kind (ho x List.mem_cons_self)
    have hk : (x.f0 < (v.length : Int)) = True := by apply eq_true; omega
    refine ev_up ?_
    simp only [spec_boParts.l0, rd_T103, mid_lt, mid_ge, getD_mid, wrap_mid p x hp, k0, hk, ↓reduceIte, cnt]
    rw [step_mid p q x] at h ⊢
    exact spec_boParts_l0 q (p ++ [x]) _ h (by simp [hv]) (fun r hr => ho r (List.mem_cons_of_mem _ hr))
theorem spec_boParts_ev (r c : Int) (l : List S103) (h : l.length ≤ 90) (ho : ∀ x ∈ l, okCell x = true) : Ev (fun k => spec_boParts.f k r c l) (cnt (List.replicate 8 0) l) := by
  simpa [spec_boParts.f] using spec_boParts_l0 l [] (List.replicate 8 0) (by simp; omega) (by simp) ho
theorem spec_kiOf_ev (r c : Int) (l : List S103) (h : goodBoard r c l = true) : Ev (fun k => spec_kiOf.f k r c l) (need l) := by
  simp only [spec_kiOf.f]
  refine ev_bind (spec_boParts_ev r c l (goodBoard_len h) (goodBoard_ok h)) ?_
  have : (1 ≤ ((cnt (List.replicate 8 0) l).length : Int)) = True := by apply eq_true; rw [cnt_len]; simp
  simp only [this, ↓reduceIte]
  exact Ev.now _
theorem impl_CountKinds_l0 : ∀ (q p : List S103) (v : List Int), (p ++ q).length < 9223372036854775807 → v.length = 8 → (∀ r ∈ q, okCell r = true) → Ev (fun k => impl_CountKinds.l0 k v (p ++ q) ((p ++ q).length : Int) (p.length : Int)) (cnt v q, true)
  | [], p, v, h, hv, ho => by
    refine ev_up ?_
    simp only [impl_CountKinds.l0, mid_end, ↓reduceIte, cnt]
    exact Ev.now _
  | x :: q, p, v, h, hv, ho => by
    have hp : p.length < 9223372036854775807 := by simp only [List.length_append, List.length_cons] at h; omega
    obtain ⟨k0, k7⟩ := okCell_kind (ho x List.mem_cons_self)
    have hk : (x.f0 < (v.length : Int)) = True := by apply eq_true; omega
    refine ev_up ?_
    simp only [impl_CountKinds.l0, rd_T103, mid_lt, mid_ge, getD_mid, wrap_mid p x hp, k0, hk, ↓reduceIte, cnt]
    rw [step_mid p q x] at h ⊢
    exact impl_CountKinds_l0 q (p ++ [x]) _ h (by simp [hv]) (fun r hr => ho r (List.mem_cons_of_mem _ hr))
theorem impl_CountKinds_ev (l : List S103) (h : l.length ≤ 90) (ho : ∀ x ∈ l, okCell x = true) : Ev (fun k => impl_CountKinds.f k l) (cnt (List.replicate 8 0) l, true) := by
  simp only [impl_CountKinds.f]
  have ha : l.all okCell = true := by rw [List.all_eq_true]; exact ho
  refine ev_bind (impl_validCells_ev l h) ?_
  rw [ha]
  simpa using impl_CountKinds_l0 l [] (List.replicate 8 0) (by simp; omega) (by simp) ho
theorem impl_neededParts_ev (r c : Int) (l : List S103) (h : goodBoard r c l = true) : Ev (fun k => impl_neededParts.f k r c l) (need l) := by
  simp only [impl_neededParts.f]
  refine ev_bind (impl_CountKinds_ev l (goodBoard_len h) (goodBoard_ok h)) ?_
  have h1 : (1 ≤ ((cnt (List.replicate 8 0) l).length : Int)) = True := by apply eq_true; rw [cnt_len]; simp
  have h2 : (([] : List Int).length + ((cnt (List.replicate 8 0) l).drop 1).length < 17592186044416) = True := by apply eq_true; simp [cnt_len]
  simp only [h1, h2, Option.bind_some, List.nil_append, ↓reduceIte]
  exact Ev.now _
def goodKit (l : List Int) : Bool := decide (l.length = 7) && l.all fun x => decide (0 ≤ x ∧ x ≤ 600)
theorem goodKit_len {l : List Int} (h : goodKit l = true) : l.length = 7 := by
  unfold goodKit at h; simp only [Bool.and_eq_true, decide_eq_true_eq] at h; exact h.1
theorem spec_kiParts_ev (l : List Int) (h : l.length ≤ 1048576) : Ev (fun k => spec_kiParts.f k l) (goodKit l) := by
  unfold goodKit
  by_cases hl : l.length = 7
  · have : ((l.length : Int) = 7) = True := by apply eq_true; omega
    simp only [spec_kiParts.f, this, hl, decide_true, Bool.true_and, ↓reduceIte]
    exact ev_bind (spec_l1All_ev l 0 600 (by omega)) (Ev.now _)
  · have : ((l.length : Int) = 7) = False := by apply eq_false; omega
    simp only [spec_kiParts.f, this, hl, decide_false, Bool.false_and, ↓reduceIte]
    exact Ev.now _
theorem impl_isKit_l0 : ∀ (q p : List Int), (p ++ q).length < 9223372036854775807 → Ev (fun k => impl_isKit.l0 k (p ++ q) ((p ++ q).length : Int) (p.length : Int)) (q.all fun x => decide (0 ≤ x ∧ x ≤ 600))
  | [], p, h => by
    refine ev_up ?_
    simp only [impl_isKit.l0, mid_end, ↓reduceIte]
    exact ev_eq (Ev.now _) (by simp)
  | x :: q, p, h => by
    have hp : p.length < 9223372036854775807 := by simp only [List.length_append, List.length_cons] at h; omega
    refine ev_up ?_
    simp only [impl_isKit.l0, mid_lt, mid_ge, rd_mid, wrap_mid p x hp, ↓reduceIte, List.all_cons]
    by_cases h0 : x < 0
    · simp only [h0, ↓reduceIte]
      exact ev_eq (Ev.now _) (by have : ¬ 0 ≤ x := by omega
                                 simp [this])
    · by_cases h1 : x > 600
      · simp only [h0, h1, ↓reduceIte]
        exact ev_eq (Ev.now _) (by have : ¬ x ≤ 600 := by omega
                                   simp [this])
      · simp only [h0, h1, ↓reduceIte]
        have e : decide (0 ≤ x ∧ x ≤ 600) = true := by rw [decide_eq_true_iff]; omega
        rw [e, Bool.true_and]
        rw [step_mid p q x] at h ⊢
        exact impl_isKit_l0 q (p ++ [x]) h
theorem impl_isKit_ev (l : List Int) : Ev (fun k => impl_isKit.f k l) (goodKit l) := by
  unfold goodKit
  by_cases hl : l.length = 7
  · have : ((l.length : Int) = 7) = True := by apply eq_true; omega
    simp only [impl_isKit.f, this, hl, decide_true, Bool.true_and, ↓reduceIte]
    simpa [hl] using impl_isKit_l0 l [] (by simp; omega)
  · have : ((l.length : Int) = 7) = False := by apply eq_false; omega
    simp only [impl_isKit.f, this, hl, decide_false, Bool.false_and, ↓reduceIte]
    exact Ev.now _
def enoughV : List Int → List Int → Bool
  | a :: q', b :: q => if a < b then false else enoughV q' q
  | _, _ => true
def mostV (m : Int) : List Int → List Int → Int
  | a :: q', b :: q => mostV (if b > 0 then mn m (wrap64 (Int.tdiv a b)) else m) q' q
  | _, _ => m
def missV : List Int → List Int → List Int
  | a :: q', b :: q => mx 0 (wrap64 (b - a)) :: missV q' q
  | _, _ => []
def restV : List Int → List Int → List Int
  | a :: q', b :: q => wrap64 (a - b) :: restV q' q
  | _, _ => []
theorem missV_len : ∀ a b : List Int, (missV a b).length ≤ a.length
  | a :: q', b :: q => by simp only [missV, List.length_cons]; have := missV_len q' q; omega
  | [], _ => by simp [missV]
  | _ :: _, [] => by simp [missV]
theorem restV_len : ∀ a b : List Int, (restV a b).length ≤ a.length
  | a :: q', b :: q => by simp only [restV, List.length_cons]; have := restV_len q' q; omega
  | [], _ => by simp [restV]
  | _ :: _, [] => by simp [restV]
theorem spec_MissingParts_l0 : ∀ (q q' p p' acc : List Int), p.length = p'.length → q.length = q'.length → (p ++ q).length ≤ 7 → acc.length = p.length → Ev (fun k => spec_MissingParts.l0 k (p' ++ q') acc (p ++ q) ((p ++ q).length : Int) (p.length : Int)) (acc ++ missV q' q, true)
  | [], q', p, p', acc, hl, hq, h, ha => by
    obtain rfl : q' = [] := List.eq_nil_of_length_eq_zero hq.symm
    refine ev_up ?_
    simp only [spec_MissingParts.l0, mid_end, ↓reduceIte]
    exact ev_eq (Ev.now _) (by simp [missV])
  | x :: q, [], p, p', acc, hl, hq, h, ha => by simp at hq
  | x :: q, y :: q', p, p', acc, hl, hq, h, ha => by
    have hp : p.length < 7 := by simp only [List.length_append, List.length_cons] at h; omega
    have h1 : (acc.length < 17592186044416) = True := by apply eq_true; omega
    refine ev_up ?_
    simp only [spec_MissingParts.l0, l1Most_eq, Option.bind_some, h1, mid_lt, mid_ge, mid_lt2 p p' q' y hl, rd_mid, rd_mid2 p p' q' y hl, wrap_mid p x (by omega), ↓reduceIte, missV]
    rw [step_mid p q x, step_mid p' q' y, step_mid acc (missV q' q)]
    rw [step_mid p q x] at h
    exact spec_MissingParts_l0 q q' (p ++ [x]) (p' ++ [y]) _ (by simp [hl]) (by simpa using hq) h (by simp [ha])
theorem impl_MissingParts_l0 (n : Nat) (hn : n ≤ 7) : ∀ (q q' p p' : List Int), p.length = p'.length → q.length = q'.length → p.length + q.length = n → Ev (fun k => impl_MissingParts.l0 k (p' ++ q') (p ++ q) (n : Int) (p.length : Int)) (p ++ missV q' q, true)
  | [], q', p, p', hl, hq, h => by
    obtain rfl : q' = [] := List.eq_nil_of_length_eq_zero hq.symm
    have h1 : ((p.length : Int) < (n : Int)) = False := by apply eq_false; simp at h; omega
    refine ev_up ?_
    simp only [impl_MissingParts.l0, h1, ↓reduceIte]
    exact ev_eq (Ev.now _) (by simp [missV])
  | x :: q, [], p, p', hl, hq, h => by simp at hq
  | x :: q, y :: q', p, p', hl, hq, h => by
    simp only [List.length_cons] at h
    have h1 : ((p.length : Int) < (n : Int)) = True := by apply eq_true; omega
    refine ev_up ?_
    simp only [impl_MissingParts.l0, h1, mid_lt, mid_ge, mid_lt2 p p' q' y hl, rd_mid, rd_mid2 p p' q' y hl, set_mid, wrap_mid p (mx 0 (wrap64 (x - y))) (by omega), ↓reduceIte, missV]
    rw [step_mid p q, step_mid p' q' y, step_mid p (missV q' q)]
    exact impl_MissingParts_l0 n hn q q' (p ++ [mx 0 (wrap64 (x - y))]) (p' ++ [y]) (by simp [hl]) (by simpa using hq) (by simp; omega)
def rMissingParts (kit : List Int) (r c : Int) (l : List S103) : List Int × Bool := if goodKit kit = true ∧ goodBoard r c l = true then (missV kit (need l), true) else ([], false)
theorem rMissingParts_len (kit : List Int) (r c : Int) (l : List S103) (h : kit.length ≤ 1048576) : (rMissingParts kit r c l).1.length ≤ 10000000 := by
  unfold rMissingParts; have := missV_len kit (need l); split <;> simp; omega
theorem spec_MissingParts_ev (kit : List Int) (r c : Int) (l : List S103) (h : kit.length ≤ 1048576) : Ev (fun k => spec_MissingParts.f k kit r c l) (rMissingParts kit r c l) := by
  unfold rMissingParts
  have fin : Ev (fun k => spec_MissingParts.j0 k kit true r c l) (([] : List Int), false) := by
    refine ev_up ?_
    simp only [spec_MissingParts.j0, ↓reduceIte]
    exact Ev.now _
  simp only [spec_MissingParts.f]
  refine ev_bind (spec_kiParts_ev kit h) ?_
  cases hk : goodKit kit
  · simpa using fin
  · simp only [↓reduceIte]
    have hkl := goodKit_len hk
    have hnl := need_len l
    refine ev_bind (spec_boGood_ev r c l) ?_
    cases hb : goodBoard r c l
    · simpa using fin
    · simp only [Bool.not_true, and_self, ↓reduceIte]
      refine ev_up ?_
      simp only [spec_MissingParts.j0, Bool.false_eq_true, ↓reduceIte]
      refine ev_bind (spec_kiOf_ev r c l hb) ?_
      simpa using spec_MissingParts_l0 (need l) kit [] [] [] rfl (by omega) (by simp; omega) rfl
theorem impl_MissingParts_ev (kit : List Int) (r c : Int) (l : List S103) (h : kit.length ≤ 1048576) : Ev (fun k => impl_MissingParts.f k kit r c l) (rMissingParts kit r c l) := by
  unfold rMissingParts
  have fin : Ev (fun k => impl_MissingParts.j0 k kit true r c l) (([] : List Int), false) := by
    refine ev_up ?_
    simp only [impl_MissingParts.j0, ↓reduceIte]
    exact Ev.now _
  simp only [impl_MissingParts.f]
  refine ev_bind (impl_isKit_ev kit) ?_
  cases hk : goodKit kit
  · simpa using fin
  · simp only [↓reduceIte]
    have hkl := goodKit_len hk
    have hnl := need_len l
    refine ev_bind (impl_IsBoard_ev r c l) ?_
    cases hb : goodBoard r c l
    · simpa using fin
    · simp only [Bool.not_true, and_self, ↓reduceIte]
      refine ev_up ?_
      simp only [impl_MissingParts.j0, Bool.false_eq_true, ↓reduceIte]
      refine ev_bind (impl_neededParts_ev r c l hb) ?_
      have := impl_MissingParts_l0 7 (by omega) (need l) kit [] [] rfl (by omega) (by simp; omega)
      rw [hnl]
      simpa using this
theorem laws_toBoard_ev (a b : Int) (l : List S106) (h : l.length ≤ 1048576) : Ev (fun k => laws_toBoard.f k a b l) (a, b, l.map toCell) := by
  simp only [laws_toBoard.f]
  exact ev_bind (laws_toCellS_ev l h) (Ev.now _)
theorem laws_eqBoard_ev (a b : Int) (l : List S103) (h : l.length < 9223372036854775807) : Ev (fun k => laws_eqBoard.f k a b l a b l) true := by
  simp only [laws_eqBoard.f, ↓reduceIte]
  refine ev_bind (laws_eqCellS_ev l h) ?_
  simpa using Ev.now _
theorem laws_markBoard_only (a b : Int) (l : List S103) (m : Int) (h : l.length < 100000000000000) (h0 : 0 ≤ m) (h1 : m ≤ 100000000000000) : ∃ m' l', 0 ≤ m' ∧ m' = m + 2 * l.length ∧ Ev (fun k => laws_markBoard.f k a b l m) (m', l') := by
  obtain ⟨m', l', h2, h3, h4⟩ := laws_markCellS_only l m h h0 h1
  refine ⟨m', l', h2, h3, ?_⟩
  simp only [laws_markBoard.f]
  exact ev_bind h4 (Ev.now _)
theorem szBoard_eq (a b : Int) (l : List S106) (n : Int) (h : l.length ≤ 9223372036854775807) (h0 : 0 ≤ n) (h1 : n ≤ 1048576) : laws_szBoard.f a b l n = some (if (l.length : Int) ≤ n then n - (l.length : Int) else -1) := by
  simp only [laws_szBoard.f, szCellS_eq l n h h0 h1, Option.bind_some]
  split
  · rw [if_neg (by omega)]
  · rw [if_pos (by omega)]
theorem FnExactMissingParts (l0 : List Int) (r : Int) (c : Int) (l : List S106) (wl0 : l0.length ≤ maxLen) (we0 : ∀ z ∈ l0, (Lit.int .i64 z).wf = true) (wr : (Lit.int .i64 r).wf = true) (wc : (Lit.int .i64 c).wf = true) (wl : l.length ≤ maxLen) (we : ∀ z ∈ l, (Lit.int .i64 z.f0).wf = true ∧ (Lit.int .i64 z.f1).wf = true) : ∃ k, laws_FnExactMissingParts.f k l0 r c l = some true := by
  refine Ev.rounds (g := fun k => laws_FnExactMissingParts.f k l0 r c l) ?_
  by_cases hb : l0.length ≤ 1048576 ∧ l.length ≤ 1048576
  · obtain ⟨hb0, hb1⟩ := hb; have hc0 : (1048576 < (l0.length : Int)) = False := by apply eq_false; omega
    have hm := (show maxLen ≤ 9223372036854775807 by decide); have SZ := szBoard_eq r c l 1048576 (by omega) (by omega) (by omega); have hbl : l.length ≤ 1048576 := by omega
    have hbi : ((l.length : Int) ≤ 1048576) = True := by apply eq_true; omega
    have hc1 : (1048576 - (l.length : Int) < 0) = False := by apply eq_false; omega
    have hL : (l.map toCell).length = l.length := by simp
    have TB := laws_toBoard_ev r c l hbl
    have EB := laws_eqBoard_ev r c (l.map toCell) (by omega)
    have T0 := laws_toIntS_ev l0 hb0
    have E0 := laws_eqIntS_ev l0 (by omega)
    have S := spec_MissingParts_ev l0 r c (l.map toCell) (by omega)
    have I := impl_MissingParts_ev l0 r c (l.map toCell) (by omega)
    obtain ⟨la, -, M0, -⟩ := laws_markIntS_ev l0 1 (by omega) (by omega) (by omega)
    obtain ⟨mb, lb, hmb, -, MB⟩ := laws_markBoard_only r c (l.map toCell) (1 + (l0.length : Int)) (by omega) (by omega) (by omega)
    replace hmb : (mb < 0) = False := by apply eq_false; omega
    have hR := rMissingParts_len l0 r c (l.map toCell) (by omega)
    have E2 := laws_eqIntS_ev (rMissingParts l0 r c (l.map toCell)).1 (by omega)
    obtain ⟨l2, -, M2, N2⟩ := laws_markIntS_ev (rMissingParts l0 r c (l.map toCell)).1 1 (by omega) (by omega) (by omega)
    have h2 : (1 + ((rMissingParts l0 r c (l.map toCell)).1.length : Int) < 0) = False := by apply eq_false; omega
    simp only [laws_FnExactMissingParts.f]
    repeat (first
      | exact Ev.now _
      | with_reducible refine ev_bind (by with_reducible assumption) ?_
      | simp only [*, Option.bind_some, bne_self_eq_false, ↓reduceIte, Bool.false_eq_true, gt_iff_lt]
      | (refine ev_up ?_; simp only [laws_FnExactMissingParts.j0, laws_FnExactMissingParts.j1, laws_FnExactMissingParts.j2]))
  · by_cases hb0 : l0.length ≤ 1048576
    · have hc0 : (1048576 < (l0.length : Int)) = False := by apply eq_false; omega
      have hbl : ¬ l.length ≤ 1048576 := fun h => hb ⟨hb0, h⟩
      have hm := (show maxLen ≤ 9223372036854775807 by decide); have SZ := szBoard_eq r c l 1048576 (by omega) (by omega) (by omega); have hbi : ((l.length : Int) ≤ 1048576) = False := by apply eq_false; omega
      have hc1 : ((-1 : Int) < 0) = True := by apply eq_true; omega
      simp only [laws_FnExactMissingParts.f, gt_iff_lt, hc0, SZ, hbi, hc1, Option.bind_some, ↓reduceIte]
      exact Ev.now _
    · have hc0 : (1048576 < (l0.length : Int)) = True := by apply eq_true; omega
      simp only [laws_FnExactMissingParts.f, gt_iff_lt, hc0, ↓reduceIte]
      exact Ev.now _


end Go.Proofs.Ytobaeiihohgajaa.Pure
