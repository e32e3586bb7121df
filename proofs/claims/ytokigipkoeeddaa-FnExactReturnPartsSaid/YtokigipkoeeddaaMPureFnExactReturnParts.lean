/- The law FnExactReturnParts of plain lists and numbers: whatever the input, it answers true. Condition: the lengths are those of rows that fit a machine. -/
import Derived.Test.YtokigipkoeeddaaMFnExactReturnParts3
namespace Go.Proofs.Ytokigipkoeeddaa.Pure
open Go.RowKit Go.Proofs.Ytokigipkoeeddaa.Pall Go.Proofs.YtokigipkoeeddaaW.PrintWords Go.Proofs.YtokigipkoeeddaaW.PrintLast Go.Proofs.YtokigipkoeeddaaW.PrintMore
set_option linter.unusedVariables false
set_option linter.unusedSimpArgs false

/-! ### Ground: rounds, and a row seen as what is behind and what is ahead -/
theorem ev_up {α : Type} {g : Nat → Option α} {r : α} (h : Ev (fun k => g (k + 1)) r) : Ev g r := by
  obtain ⟨K, hK⟩ := h
  refine ⟨K + 1, fun k hk => ?_⟩
  obtain ⟨m, rfl⟩ : ∃ m, k = m + 1 := ⟨k - 1, by omega⟩
  exact hK m (by omega)
theorem ev_eq {α : Type} {g : Nat → Option α} {r r' : α} (h : Ev g r) (e : r = r') : Ev g r' := e ▸ h
theorem ev_bind {α β : Type} {g : Nat → Option α} {f : Nat → α → Option β} {a : α} {r : β} (h : Ev g a) (k : Ev (fun n => f n a) r) : Ev (fun n => (g n).bind (f n)) r := Ev.bind h k
theorem mid_lt {α : Type} (p q : List α) (x : α) : ((p.length : Int) < ((p ++ x :: q).length : Int)) = True := by
  apply eq_true; simp only [List.length_append, List.length_cons]; omega
theorem mid_lt2 {α β : Type} (p : List α) (p' q : List β) (x : β) (h : p.length = p'.length) : ((p.length : Int) < ((p' ++ x :: q).length : Int)) = True := by
  apply eq_true; simp only [List.length_append, List.length_cons]; omega
theorem mid_ge {α : Type} (p : List α) : (0 ≤ (p.length : Int)) = True := by apply eq_true; omega
theorem mid_end {α : Type} (p : List α) : ((p.length : Int) < ((p ++ []).length : Int)) = False := by simp
theorem rd_mid (p q : List Int) (x : Int) : rd (p ++ x :: q) (p.length : Int) = x := by simp [rd]
theorem getD_mid {α : Type} (p q : List α) (x z : α) : (p ++ x :: q).getD ((p.length : Int)).toNat z = x := by simp
theorem set_mid {α : Type} (p q : List α) (x y : α) : (p ++ x :: q).set ((p.length : Int)).toNat y = p ++ y :: q := by simp
theorem set_mid2 {α β : Type} (p : List α) (p' q : List β) (x y : β) (h : p.length = p'.length) : (p' ++ x :: q).set ((p.length : Int)).toNat y = p' ++ y :: q := by simp [h]
theorem wrap_mid {α : Type} (p : List α) (x : α) (h : p.length < 9223372036854775807) : wrap64 ((p.length : Int) + 1) = ((p ++ [x]).length : Int) := by
  unfold wrap64; simp only [List.length_append, List.length_singleton]; omega
theorem step_mid {α : Type} (p q : List α) (x : α) : p ++ x :: q = (p ++ [x]) ++ q := by simp
theorem wrap_id {x : Int} (h0 : -9223372036854775808 ≤ x) (h1 : x ≤ 9223372036854775807) : wrap64 x = x := by unfold wrap64; omega
theorem laws_eqIntS_l0 : ∀ (q p : List Int), (p ++ q).length < 9223372036854775807 → Ev (fun k => laws_eqIntS.l0 k (p ++ q) (p ++ q) (p.length : Int)) true
  | [], p, h => by
    refine ev_up ?_
    simp only [laws_eqIntS.l0, mid_end, ↓reduceIte]
    exact Ev.now _
  | x :: q, p, h => by
    have hp : p.length < 9223372036854775807 := by simp only [List.length_append, List.length_cons] at h; omega
    refine ev_up ?_
    simp only [laws_eqIntS.l0, mid_lt, mid_ge, rd_mid, wrap_mid p x hp, ↓reduceIte]
    rw [step_mid p q x] at h ⊢
    exact laws_eqIntS_l0 q (p ++ [x]) h
theorem laws_eqIntS_ev (l : List Int) (h : l.length < 9223372036854775807) : Ev (fun k => laws_eqIntS.f k l l) true := by
  simp only [laws_eqIntS.f, ↓reduceIte]
  simpa using laws_eqIntS_l0 l [] (by simpa using h)
theorem laws_markIntS_l0 : ∀ (q p : List Int) (m : Int), (p ++ q).length < 1000000000000000 → 0 ≤ m → m + q.length ≤ 1000000000000000 → ∃ q', q'.length = q.length ∧ Ev (fun k => laws_markIntS.l0 k (p ++ q) m (p.length : Int)) (m + q.length, p ++ q') ∧ Ev (fun k => laws_heldIntS.l0 k (p ++ q') m (p.length : Int)) (m + q.length)
  | [], p, m, h, h0, h1 => by
    refine ⟨[], rfl, ev_up ?_, ev_up ?_⟩
    · simp only [laws_markIntS.l0, mid_end, ↓reduceIte]
      exact ev_eq (Ev.now _) (by simp)
    · simp only [laws_heldIntS.l0, mid_end, ↓reduceIte]
      exact ev_eq (Ev.now _) (by simp)
  | x :: q, p, m, h, h0, h1 => by
    have hp : p.length < 9223372036854775807 := by simp only [List.length_append, List.length_cons] at h; omega
    have hm : wrap64 (m + 1) = m + 1 := wrap_id (by omega) (by simp only [List.length_cons] at h1; omega)
    obtain ⟨q', hl, hA, hB⟩ := laws_markIntS_l0 q (p ++ [m]) (m + 1) (by simp only [List.length_append, List.length_cons, List.length_nil] at h ⊢; omega) (by omega) (by simp only [List.length_cons] at h1; omega)
    have e : (m + 1) + (q.length : Int) = m + ((x :: q).length : Int) := by simp only [List.length_cons]; omega
    rw [e] at hA hB
    refine ⟨m :: q', by simp [hl], ev_up ?_, ev_up ?_⟩
    · simp only [laws_markIntS.l0, mid_lt, mid_ge, set_mid, wrap_mid p m hp, hm, ↓reduceIte]
      rw [step_mid p q m, step_mid p q' m]
      exact hA
    · simp only [laws_heldIntS.l0, mid_lt, mid_ge, rd_mid, wrap_mid p m hp, hm, ↓reduceIte]
      rw [step_mid p q' m]
      exact hB
/-- What is marked is held, and anew so. -/
theorem laws_markIntS_ev (l : List Int) (m : Int) (h : l.length < 1000000000000000) (h0 : 0 ≤ m) (h1 : m + l.length ≤ 1000000000000000) : ∃ l', l'.length = l.length ∧ Ev (fun k => laws_markIntS.f k l m) (m + l.length, l') ∧ Ev (fun k => laws_heldIntS.f k l' m) (m + l.length) := by
  obtain ⟨q', hl, hA, hB⟩ := laws_markIntS_l0 l [] m (by simpa using h) h0 h1
  exact ⟨q', hl, by simpa [laws_markIntS.f] using hA, by simpa [laws_heldIntS.f] using hB⟩
theorem laws_toIntS_l0 : ∀ (q p : List Int), (p ++ q).length < 9223372036854775807 → Ev (fun k => laws_toIntS.l0 k (p ++ q) (p ++ List.replicate q.length 0) (p.length : Int)) (p ++ q)
  | [], p, h => by
    refine ev_up ?_
    simp only [laws_toIntS.l0, mid_end, ↓reduceIte]
    exact ev_eq (Ev.now _) (by simp)
  | x :: q, p, h => by
    have hp : p.length < 9223372036854775807 := by simp only [List.length_append, List.length_cons] at h; omega
    refine ev_up ?_
    simp only [laws_toIntS.l0, List.length_cons, List.replicate_succ, mid_lt, mid_ge, rd_mid, set_mid, wrap_mid p x hp, ↓reduceIte]
    rw [step_mid p q x] at h ⊢
    rw [step_mid p (List.replicate q.length 0) x]
    exact laws_toIntS_l0 q (p ++ [x]) h
theorem laws_toIntS_ev (l : List Int) (h : l.length ≤ 1048576) : Ev (fun k => laws_toIntS.f k l) l := by
  have h0 : (0 ≤ (l.length : Int)) = True := by apply eq_true; omega
  have h1 : (((l.length : Int) : Int).toNat ≤ 35184372088832) = True := by apply eq_true; omega
  simp only [laws_toIntS.f, h0, h1, ↓reduceIte]
  simpa using laws_toIntS_l0 l [] (by simp; omega)
theorem l1In_eq (a lo hi : Int) : spec_l1In.f a lo hi = some (decide (lo ≤ a ∧ a ≤ hi)) := by
  by_cases h : lo ≤ a <;> simp [spec_l1In.f, h]
theorem spec_l1All_l0 (lo hi : Int) : ∀ (q p : List Int), (p ++ q).length < 9223372036854775807 → Ev (fun k => spec_l1All.l0 k lo hi (p ++ q) ((p ++ q).length : Int) (p.length : Int)) (q.all fun x => decide (lo ≤ x ∧ x ≤ hi))
  | [], p, h => by
    refine ev_up ?_
    simp only [spec_l1All.l0, mid_end, ↓reduceIte]
    exact Ev.now _
  | x :: q, p, h => by
    have hp : p.length < 9223372036854775807 := by simp only [List.length_append, List.length_cons] at h; omega
    refine ev_up ?_
    simp only [spec_l1All.l0, l1In_eq, Option.bind_some, mid_lt, mid_ge, rd_mid, wrap_mid p x hp, ↓reduceIte, List.all_cons]
    cases decide (lo ≤ x ∧ x ≤ hi) with
    | false => simpa using Ev.now _
    | true =>
      simp only [↓reduceIte, Bool.true_and]
      rw [step_mid p q x] at h ⊢
      exact spec_l1All_l0 lo hi q (p ++ [x]) h
theorem spec_l1All_ev (l : List Int) (lo hi : Int) (h : l.length < 9223372036854775807) : Ev (fun k => spec_l1All.f k l lo hi) (l.all fun x => decide (lo ≤ x ∧ x ≤ hi)) := by
  simpa [spec_l1All.f] using spec_l1All_l0 lo hi l [] (by simpa using h)
theorem l1Own_eq (l : List Int) (h : l.length < 17592186044416) : spec_l1Own.f l = some l := by
  simp [spec_l1Own.f, h]
theorem l1Least_eq (a b : Int) : spec_l1Least.f a b = some (mn a b) := by
  unfold spec_l1Least.f mn; split <;> split <;> first | rfl | (congr 1; omega)
theorem laws_markIntS_o : ∀ (q p : List Int) (m : Int), (p ++ q).length < 1000000000000000 → 0 ≤ m → m + q.length ≤ 1000000000000000 → ∃ q', Ev (fun k => laws_markIntS.l0 k (p ++ q) m (p.length : Int)) (m + q.length, q')
  | [], p, m, h, h0, h1 => by
    refine ⟨p, ev_up ?_⟩
    simp only [laws_markIntS.l0, mid_end, ↓reduceIte]
    exact ev_eq (Ev.now _) (by simp)
  | x :: q, p, m, h, h0, h1 => by
    have hp : p.length < 9223372036854775807 := by simp only [List.length_append, List.length_cons] at h; omega
    have hm : wrap64 (m + 1) = m + 1 := wrap_id (by omega) (by simp only [List.length_cons] at h1; omega)
    obtain ⟨q', hA⟩ := laws_markIntS_o q (p ++ [m]) (m + 1) (by simp only [List.length_append, List.length_cons, List.length_nil] at h ⊢; omega) (by omega) (by simp only [List.length_cons] at h1; omega)
    have e : (m + 1) + (q.length : Int) = m + ((x :: q).length : Int) := by simp only [List.length_cons]; omega
    rw [e] at hA
    refine ⟨q', ev_up ?_⟩
    simp only [laws_markIntS.l0, mid_lt, mid_ge, set_mid, wrap_mid p m hp, hm, ↓reduceIte]
    rw [step_mid p q m]
    exact hA
theorem eqLoan_self (a0 a1 a2 a3 : Int) : laws_eqLoan.f a0 a1 a2 a3 a0 a1 a2 a3 = some true := by simp [laws_eqLoan.f]
theorem laws_eqLoanS_l0 : ∀ (q p : List S41), (p ++ q).length < 9223372036854775807 → Ev (fun k => laws_eqLoanS.l0 k (p ++ q) (p ++ q) (p.length : Int)) true
  | [], p, h => by
    refine ev_up ?_
    simp only [laws_eqLoanS.l0, mid_end, ↓reduceIte]
    exact Ev.now _
  | x :: q, p, h => by
    have hp : p.length < 9223372036854775807 := by simp only [List.length_append, List.length_cons] at h; omega
    refine ev_up ?_
    simp only [laws_eqLoanS.l0, eqLoan_self, Option.bind_some, rd_T41, mid_lt, mid_ge, getD_mid, wrap_mid p x hp, ↓reduceIte]
    rw [step_mid p q x] at h ⊢
    exact laws_eqLoanS_l0 q (p ++ [x]) h
theorem laws_eqLoanS_ev (l : List S41) (h : l.length < 9223372036854775807) : Ev (fun k => laws_eqLoanS.f k l l) true := by
  simp only [laws_eqLoanS.f, ↓reduceIte]
  simpa using laws_eqLoanS_l0 l [] (by simpa using h)
theorem laws_markLoanS_l0 : ∀ (q p : List S41) (m : Int), (p ++ q).length < 1000000000000000 → 0 ≤ m → m + 4 * q.length ≤ 1000000000000000 → ∃ q', q'.length = q.length ∧ Ev (fun k => laws_markLoanS.l0 k (p ++ q) m (p.length : Int)) (m + 4 * q.length, p ++ q') ∧ Ev (fun k => laws_heldLoanS.l0 k (p ++ q') m (p.length : Int)) (m + 4 * q.length)
  | [], p, m, h, h0, h1 => by
    refine ⟨[], rfl, ev_up ?_, ev_up ?_⟩
    · simp only [laws_markLoanS.l0, mid_end, ↓reduceIte]
      exact ev_eq (Ev.now _) (by simp)
    · simp only [laws_heldLoanS.l0, mid_end, ↓reduceIte]
      exact ev_eq (Ev.now _) (by simp)
  | x :: q, p, m, h, h0, h1 => by
    have hp : p.length < 9223372036854775807 := by simp only [List.length_append, List.length_cons] at h; omega
    have hm1 : wrap64 (m + 1) = m + 1 := by rw [wrap_id (by omega) (by simp only [List.length_cons] at h1; omega)]
    have hm2 : wrap64 (m + 1 + 1) = m + 2 := by rw [wrap_id (by omega) (by simp only [List.length_cons] at h1; omega)]; omega
    have hm3 : wrap64 (m + 2 + 1) = m + 3 := by rw [wrap_id (by omega) (by simp only [List.length_cons] at h1; omega)]; omega
    have hm4 : wrap64 (m + 3 + 1) = m + 4 := by rw [wrap_id (by omega) (by simp only [List.length_cons] at h1; omega)]; omega
    obtain ⟨q', hl, hA, hB⟩ := laws_markLoanS_l0 q (p ++ [⟨m, m + 1, m + 2, m + 3⟩]) (m + 4) (by simp only [List.length_append, List.length_cons, List.length_nil] at h ⊢; omega) (by omega) (by simp only [List.length_cons] at h1; omega)
    have e : (m + 4) + 4 * (q.length : Int) = m + 4 * ((x :: q).length : Int) := by simp only [List.length_cons]; omega
    rw [e] at hA hB
    refine ⟨⟨m, m + 1, m + 2, m + 3⟩ :: q', by simp [hl], ev_up ?_, ev_up ?_⟩
    · simp only [laws_markLoanS.l0, rd_T41, mid_lt, mid_ge, set_mid, getD_mid, Option.bind_some, hm1, hm2, hm3, hm4, wrap_mid p (⟨m, m + 1, m + 2, m + 3⟩ : S41) hp, ↓reduceIte]
      rw [step_mid p q, step_mid p q']
      exact hA
    · simp only [laws_heldLoanS.l0, rd_T41, mid_lt, mid_ge, getD_mid, hm1, hm2, hm3, hm4, wrap_mid p (⟨m, m + 1, m + 2, m + 3⟩ : S41) hp, ↓reduceIte]
      rw [step_mid p q']
      exact hB
theorem laws_markLoanS_ev (l : List S41) (m : Int) (h : l.length < 100000000000000) (h0 : 0 ≤ m) (h1 : m ≤ 100000000000000) : ∃ m' l', 0 ≤ m' ∧ m' = m + 4 * l.length ∧ l'.length = l.length ∧ Ev (fun k => laws_markLoanS.f k l m) (m', l') ∧ Ev (fun k => laws_heldLoanS.f k l' m) m' := by
  obtain ⟨q', hl, hA, hB⟩ := laws_markLoanS_l0 l [] m (by simp; omega) h0 (by omega)
  exact ⟨m + 4 * l.length, q', by omega, rfl, hl, by simpa [laws_markLoanS.f] using hA, by simpa [laws_heldLoanS.f] using hB⟩
theorem laws_markLoanS_o : ∀ (q p : List S41) (m : Int), (p ++ q).length < 1000000000000000 → 0 ≤ m → m + 4 * q.length ≤ 1000000000000000 → ∃ q', Ev (fun k => laws_markLoanS.l0 k (p ++ q) m (p.length : Int)) (m + 4 * q.length, q')
  | [], p, m, h, h0, h1 => by
    refine ⟨p, ev_up ?_⟩
    simp only [laws_markLoanS.l0, mid_end, ↓reduceIte]
    exact ev_eq (Ev.now _) (by simp)
  | x :: q, p, m, h, h0, h1 => by
    have hp : p.length < 9223372036854775807 := by simp only [List.length_append, List.length_cons] at h; omega
    have hm1 : wrap64 (m + 1) = m + 1 := by rw [wrap_id (by omega) (by simp only [List.length_cons] at h1; omega)]
    have hm2 : wrap64 (m + 1 + 1) = m + 2 := by rw [wrap_id (by omega) (by simp only [List.length_cons] at h1; omega)]; omega
    have hm3 : wrap64 (m + 2 + 1) = m + 3 := by rw [wrap_id (by omega) (by simp only [List.length_cons] at h1; omega)]; omega
    have hm4 : wrap64 (m + 3 + 1) = m + 4 := by rw [wrap_id (by omega) (by simp only [List.length_cons] at h1; omega)]; omega
    obtain ⟨q', hA⟩ := laws_markLoanS_o q (p ++ [⟨m, m + 1, m + 2, m + 3⟩]) (m + 4) (by simp only [List.length_append, List.length_cons, List.length_nil] at h ⊢; omega) (by omega) (by simp only [List.length_cons] at h1; omega)
    have e : (m + 4) + 4 * (q.length : Int) = m + 4 * ((x :: q).length : Int) := by simp only [List.length_cons]; omega
    rw [e] at hA
    refine ⟨q', ev_up ?_⟩
    simp only [laws_markLoanS.l0, rd_T41, mid_lt, mid_ge, set_mid, getD_mid, Option.bind_some, hm1, hm2, hm3, hm4, wrap_mid p (⟨m, m + 1, m + 2, m + 3⟩ : S41) hp, ↓reduceIte]
    rw [step_mid p q]
    exact hA
theorem laws_markLoanS_only (l : List S41) (m : Int) (h : l.length < 100000000000000) (h0 : 0 ≤ m) (h1 : m ≤ 100000000000000) : ∃ m' l', 0 ≤ m' ∧ m' = m + 4 * l.length ∧ Ev (fun k => laws_markLoanS.f k l m) (m', l') := by
  obtain ⟨q', hA⟩ := laws_markLoanS_o l [] m (by simp; omega) (by omega) (by omega)
  exact ⟨m + 4 * l.length, q', by omega, rfl, by simpa [laws_markLoanS.f] using hA⟩
def toLoan (x : S39) : S41 := ⟨x.f0, x.f1, x.f2, x.f3⟩
theorem laws_toLoanS_l0 : ∀ (q p : List S39), (p ++ q).length < 9223372036854775807 → Ev (fun k => laws_toLoanS.l0 k (p ++ q) (p.map toLoan ++ List.replicate q.length z41) (p.length : Int)) ((p ++ q).map toLoan)
  | [], p, h => by
    refine ev_up ?_
    simp only [laws_toLoanS.l0, mid_end, ↓reduceIte]
    exact ev_eq (Ev.now _) (by simp)
  | x :: q, p, h => by
    have hp : p.length < 9223372036854775807 := by simp only [List.length_append, List.length_cons] at h; omega
    have hl : p.length = (p.map toLoan).length := by simp
    refine ev_up ?_
    simp only [laws_toLoanS.l0, laws_toLoan.f, Option.bind_some, rd_T39, List.length_cons, List.replicate_succ, mid_lt, mid_lt2 p _ _ _ hl, mid_ge, getD_mid, set_mid2 p _ _ _ _ hl, wrap_mid p x hp, ↓reduceIte]
    rw [step_mid p q x] at h ⊢
    have e : p.map toLoan ++ (⟨x.f0, x.f1, x.f2, x.f3⟩ : S41) :: List.replicate q.length z41 = (p ++ [x]).map toLoan ++ List.replicate q.length z41 := by simp [toLoan]
    rw [e]
    exact laws_toLoanS_l0 q (p ++ [x]) h
theorem laws_toLoanS_ev (l : List S39) (h : l.length ≤ 1048576) : Ev (fun k => laws_toLoanS.f k l) (l.map toLoan) := by
  have h0 : (0 ≤ (l.length : Int)) = True := by apply eq_true; omega
  have h1 : (((l.length : Int) : Int).toNat ≤ 8796093022208) = True := by apply eq_true; omega
  simp only [laws_toLoanS.f, h0, h1, ↓reduceIte]
  simpa using laws_toLoanS_l0 l [] (by simp; omega)
theorem szLoanS_eq (l : List S39) (n : Int) (h : l.length ≤ 9223372036854775807) (h0 : 0 ≤ n) (h1 : n ≤ 1048576) : laws_szLoanS.f l n = some (if (l.length : Int) ≤ n then n - (l.length : Int) else -1) := by
  have hw : wrap64 (n - (l.length : Int)) = n - (l.length : Int) := wrap_id (by omega) (by omega)
  unfold laws_szLoanS.f
  rw [hw]
  by_cases hl : (l.length : Int) ≤ n
  · rw [if_neg (by omega), if_pos hl]
  · rw [if_pos (by omega), if_neg hl]
def okLoan (x : S41) : Bool := decide (1 ≤ x.f0 ∧ x.f0 ≤ 99 ∧ 1 ≤ x.f1 ∧ x.f1 ≤ 7 ∧ 1 ≤ x.f2 ∧ x.f2 ≤ 99 ∧ 0 ≤ x.f3 ∧ x.f3 ≤ 999)
def same (x y : S41) : Bool := decide (y.f0 = x.f0 ∧ y.f1 = x.f1 ∧ y.f3 = x.f3)
/-- Where the loans have one like x, counted from i; -1 for nowhere. -/
def sameV (x : S41) (i : Int) : List S41 → Int
  | [] => -1
  | y :: q => if same x y = true then i else sameV x (i + 1) q
theorem same_self (x : S41) : same x x = true := by simp [same]
theorem sameV_none (x : S41) : ∀ (p q : List S41) (i : Int), p.any (same x) = false → sameV x i (p ++ x :: q) = i + p.length
  | [], q, i, h => by simp [sameV, same_self]
  | y :: p, q, i, h => by
    simp only [List.any_cons, Bool.or_eq_false_iff] at h
    simp only [List.cons_append, sameV, h.1, Bool.false_eq_true, ↓reduceIte, sameV_none x p q (i + 1) h.2, List.length_cons]
    omega
theorem sameV_some (x : S41) : ∀ (p q : List S41) (i : Int), p.any (same x) = true → i ≤ sameV x i (p ++ q) ∧ sameV x i (p ++ q) < i + p.length
  | [], q, i, h => by simp at h
  | y :: p, q, i, h => by
    simp only [List.cons_append, sameV, List.length_cons]
    cases hy : same x y
    · simp only [List.any_cons, hy, Bool.false_or] at h
      have := sameV_some x p q (i + 1) h
      simp only [Bool.false_eq_true, ↓reduceIte]
      omega
    · simp only [↓reduceIte]; omega
theorem sameV_neg (x : S41) : ∀ (p : List S41) (i : Int), p.any (same x) = false → sameV x i p = -1
  | [], i, h => rfl
  | y :: p, i, h => by
    simp only [List.any_cons, Bool.or_eq_false_iff] at h
    simp only [sameV, h.1, Bool.false_eq_true, ↓reduceIte, sameV_neg x p (i + 1) h.2]
def distinct (p : List S41) : List S41 → Bool
  | [] => true
  | x :: q => okLoan x && (!p.any (same x) && distinct (p ++ [x]) q)
def goodShop (st : List Int) (l : List S41) : Bool := decide (st.length = 8) && ((st.all fun x => decide (0 ≤ x ∧ x ≤ 999)) && (decide (rd st 0 = 0) && (decide (l.length ≤ 20) && distinct [] l)))
theorem goodShop_len {st : List Int} {l : List S41} (h : goodShop st l = true) : st.length = 8 ∧ l.length ≤ 20 := by
  unfold goodShop at h; simp only [Bool.and_eq_true, decide_eq_true_eq] at h; exact ⟨h.1, h.2.2.2.1⟩
theorem distinct_ok : ∀ (q p : List S41), distinct p q = true → ∀ x ∈ q, okLoan x = true
  | [], p, h => by simp
  | y :: q, p, h => by
    simp only [distinct, Bool.and_eq_true] at h
    intro x hx
    rcases List.mem_cons.1 hx with rfl | hx
    · exact h.1
    · exact distinct_ok q _ h.2.2 x hx
theorem goodShop_ok {st : List Int} {l : List S41} (h : goodShop st l = true) : ∀ x ∈ l, okLoan x = true := by
  unfold goodShop at h; simp only [Bool.and_eq_true] at h; exact distinct_ok l [] h.2.2.2.2
theorem psLoan_eq (a b c d : Int) : spec_psLoan.f a b c d = some (okLoan ⟨a, b, c, d⟩) := by
  simp only [spec_psLoan.f, okLoan, l1In_eq, Option.bind_some]
  repeat' split
  all_goals
    simp only [Option.some.injEq]
    rw [Bool.eq_iff_iff]
    simp_all
    try omega
theorem isDay_eq (a : Int) : impl_isDay.f a = some (decide (0 ≤ a ∧ a ≤ 999)) := by
  by_cases h : 0 ≤ a <;> simp [impl_isDay.f, h]
theorem isLoan_eq (a b c d : Int) : impl_isLoan.f a b c d = some (okLoan ⟨a, b, c, d⟩) := by
  simp only [impl_isLoan.f, okLoan, isDay_eq, Option.bind_some]
  repeat' split
  all_goals
    simp only [Option.some.injEq]
    rw [Bool.eq_iff_iff]
    simp_all
    try omega
theorem spec_psSame_l0 (x : S41) : ∀ (q p : List S41), (p ++ q).length < 9223372036854775807 → Ev (fun k => spec_psSame.l0 k (p ++ q) ((p ++ q).length : Int) (p.length : Int) x.f0 x.f1 x.f2 x.f3) (sameV x (p.length : Int) q)
  | [], p, h => by
    refine ev_up ?_
    simp only [spec_psSame.l0, mid_end, ↓reduceIte]
    exact Ev.now _
  | y :: q, p, h => by
    have hp : p.length < 9223372036854775807 := by simp only [List.length_append, List.length_cons] at h; omega
    have ih := spec_psSame_l0 x q (p ++ [y]) (by rw [step_mid p q y] at h; exact h)
    have e : ((p ++ [y]).length : Int) = (p.length : Int) + 1 := by simp
    rw [e] at ih
    rw [← step_mid p q y] at ih
    refine ev_up ?_
    simp only [spec_psSame.l0, rd_T41, mid_lt, mid_ge, getD_mid, wrap_mid p y hp, e, ↓reduceIte, sameV, same]
    by_cases h0 : y.f0 = x.f0
    · by_cases h1 : y.f1 = x.f1
      · by_cases h2 : y.f3 = x.f3
        · simp only [h0, h1, h2, and_self, decide_true, ↓reduceIte]
          exact Ev.now _
        · simp only [h0, h1, h2, and_false, decide_false, Bool.false_eq_true, ↓reduceIte]
          exact ih
      · simp only [h0, h1, false_and, and_false, decide_false, Bool.false_eq_true, ↓reduceIte]
        exact ih
    · simp only [h0, false_and, decide_false, Bool.false_eq_true, ↓reduceIte]
      exact ih
theorem spec_psSame_ev (st : List Int) (l : List S41) (x : S41) (h : l.length < 9223372036854775807) : Ev (fun k => spec_psSame.f k st l x.f0 x.f1 x.f2 x.f3) (sameV x 0 l) := by
  simpa [spec_psSame.f] using spec_psSame_l0 x l [] (by simpa using h)
theorem impl_sameLoan_l0 (x : S41) : ∀ (q p : List S41), (p ++ q).length < 9223372036854775807 → Ev (fun k => impl_sameLoan.l0 k (p ++ q) ((p ++ q).length : Int) (p.length : Int) x.f0 x.f1 x.f2 x.f3) (sameV x (p.length : Int) q)
  | [], p, h => by
    refine ev_up ?_
    simp only [impl_sameLoan.l0, mid_end, ↓reduceIte]
    exact Ev.now _
  | y :: q, p, h => by
    have hp : p.length < 9223372036854775807 := by simp only [List.length_append, List.length_cons] at h; omega
    have ih := impl_sameLoan_l0 x q (p ++ [y]) (by rw [step_mid p q y] at h; exact h)
    have e : ((p ++ [y]).length : Int) = (p.length : Int) + 1 := by simp
    rw [e] at ih
    rw [← step_mid p q y] at ih
    refine ev_up ?_
    simp only [impl_sameLoan.l0, rd_T41, mid_lt, mid_ge, getD_mid, wrap_mid p y hp, e, ↓reduceIte, sameV, same]
    by_cases h0 : x.f0 = y.f0
    · by_cases h1 : x.f1 = y.f1
      · by_cases h2 : x.f3 = y.f3
        · simp only [h0, h1, h2, and_self, decide_true, ↓reduceIte]
          exact Ev.now _
        · have h2' : ¬ y.f3 = x.f3 := fun h => h2 h.symm
          simp only [h2, h2', and_false, decide_false, Bool.false_eq_true, ↓reduceIte, ite_self]
          exact ih
      · have h1' : ¬ y.f1 = x.f1 := fun h => h1 h.symm
        simp only [h1, h1', false_and, and_false, decide_false, Bool.false_eq_true, ↓reduceIte, ite_self]
        exact ih
    · have h0' : ¬ y.f0 = x.f0 := fun h => h0 h.symm
      simp only [h0, h0', false_and, decide_false, Bool.false_eq_true, ↓reduceIte]
      exact ih
theorem impl_sameLoan_ev (l : List S41) (x : S41) (h : l.length < 9223372036854775807) : Ev (fun k => impl_sameLoan.f k l x.f0 x.f1 x.f2 x.f3) (sameV x 0 l) := by
  simpa [impl_sameLoan.f] using impl_sameLoan_l0 x l [] (by simpa using h)
theorem spec_psGood_l0 (st : List Int) (hst : st.length < 9223372036854775807) : ∀ (q p : List S41), (p ++ q).length < 9223372036854775807 → Ev (fun k => spec_psGood.l0 k (p ++ q) ((p ++ q).length : Int) (p.length : Int) st (p ++ q)) (distinct p q && (decide (st.length = 8) && ((st.all fun x => decide (0 ≤ x ∧ x ≤ 999)) && (decide (rd st 0 = 0) && decide ((p ++ q).length ≤ 20)))))
  | [], p, h => by
    refine ev_up ?_
    simp only [spec_psGood.l0, mid_end, ↓reduceIte, distinct, Bool.true_and]
    simp only [List.append_nil]
    by_cases h8 : st.length = 8
    · have h8' : ((st.length : Int) = 8) = True := by apply eq_true; omega
      have h0 : ((0 : Int) < (st.length : Int)) = True := by apply eq_true; omega
      simp only [h8, h8', ↓reduceIte, decide_true, Bool.true_and]
      refine ev_bind (spec_l1All_ev st 0 999 hst) ?_
      cases st.all fun x => decide (0 ≤ x ∧ x ≤ 999)
      · simpa using Ev.now _
      · simp only [h0, ↓reduceIte, Bool.true_and]
        by_cases hr : rd st 0 = 0
        · simp only [hr, ↓reduceIte, decide_true, Bool.true_and]
          exact ev_eq (Ev.now _) (by simp; omega)
        · simp only [hr, ↓reduceIte, decide_false, Bool.false_and]
          exact Ev.now _
    · have h8' : ((st.length : Int) = 8) = False := by apply eq_false; omega
      simp only [h8, h8', ↓reduceIte, decide_false, Bool.false_and]
      exact Ev.now _
  | x :: q, p, h => by
    have hp : p.length < 9223372036854775807 := by simp only [List.length_append, List.length_cons] at h; omega
    refine ev_up ?_
    simp only [spec_psGood.l0, psLoan_eq, Option.bind_some, rd_T41, mid_lt, mid_ge, getD_mid, wrap_mid p x hp, ↓reduceIte, distinct]
    have ex : (⟨x.f0, x.f1, x.f2, x.f3⟩ : S41) = x := rfl
    rw [ex]
    cases okLoan x with
    | false => simpa using Ev.now _
    | true =>
      simp only [↓reduceIte, Bool.true_and]
      refine ev_bind (spec_psSame_ev st (p ++ x :: q) x h) ?_
      cases ha : p.any (same x)
      · have e : sameV x 0 (p ++ x :: q) = (p.length : Int) := by rw [sameV_none x p q 0 ha]; omega
        simp only [e, ↓reduceIte, Bool.not_false, Bool.true_and]
        rw [step_mid p q x] at h ⊢
        exact spec_psGood_l0 st hst q (p ++ [x]) h
      · have e : ¬ sameV x 0 (p ++ x :: q) = (p.length : Int) := by have := (sameV_some x p (x :: q) 0 ha).2; omega
        simp only [e, ↓reduceIte, Bool.not_true, Bool.false_and]
        exact Ev.now _
theorem spec_psGood_ev (st : List Int) (l : List S41) (hst : st.length < 9223372036854775807) (h : l.length < 9223372036854775807) : Ev (fun k => spec_psGood.f k st l) (goodShop st l) := by
  have := spec_psGood_l0 st hst l [] (by simpa using h)
  simp only [spec_psGood.f]
  refine ev_eq (by simpa using this) ?_
  unfold goodShop
  cases distinct [] l <;> simp
theorem impl_IsShop_l1 (st : List Int) : ∀ (q p : List S41), (p ++ q).length < 9223372036854775807 → Ev (fun k => impl_IsShop.l1 k (p ++ q) ((p ++ q).length : Int) (p.length : Int) st (p ++ q)) (distinct p q)
  | [], p, h => by
    refine ev_up ?_
    simp only [impl_IsShop.l1, mid_end, ↓reduceIte, distinct]
    exact Ev.now _
  | x :: q, p, h => by
    have hp : p.length < 9223372036854775807 := by simp only [List.length_append, List.length_cons] at h; omega
    have hle : ((p.length : Int) ≤ ((p ++ x :: q).length : Int)) = True := by apply eq_true; simp only [List.length_append]; omega
    have ht : (p ++ x :: q).take ((p.length : Int)).toNat = p := by simp
    refine ev_up ?_
    simp only [impl_IsShop.l1, isLoan_eq, Option.bind_some, rd_T41, mid_lt, mid_ge, getD_mid, wrap_mid p x hp, hle, ht, ↓reduceIte, distinct]
    have ex : (⟨x.f0, x.f1, x.f2, x.f3⟩ : S41) = x := rfl
    rw [ex]
    cases okLoan x with
    | false => simpa using Ev.now _
    | true =>
      simp only [↓reduceIte, Bool.true_and]
      refine ev_bind (impl_sameLoan_ev p x (by omega)) ?_
      cases ha : p.any (same x)
      · rw [sameV_neg x p 0 ha]
        simp only [ge_iff_le, Int.reduceNeg, Int.reduceLE, ↓reduceIte, Bool.not_false, Bool.true_and]
        rw [step_mid p q x] at h ⊢
        exact impl_IsShop_l1 st q (p ++ [x]) h
      · have e : sameV x 0 p ≥ 0 := by have := (sameV_some x p [] 0 ha).1; simpa using this
        simp only [e, ↓reduceIte, Bool.not_true, Bool.false_and]
        exact Ev.now _
theorem impl_IsShop_l0 (st : List Int) (l : List S41) (hl : l.length < 9223372036854775807) : ∀ (q p : List Int), (p ++ q).length < 9223372036854775807 → Ev (fun k => impl_IsShop.l0 k (p ++ q) ((p ++ q).length : Int) (p.length : Int) st l) ((q.all fun x => decide (0 ≤ x ∧ x ≤ 999)) && distinct [] l)
  | [], p, h => by
    refine ev_up ?_
    simp only [impl_IsShop.l0, mid_end, ↓reduceIte, List.all_nil, Bool.true_and]
    simpa using impl_IsShop_l1 st l [] (by simpa using hl)
  | x :: q, p, h => by
    have hp : p.length < 9223372036854775807 := by simp only [List.length_append, List.length_cons] at h; omega
    refine ev_up ?_
    simp only [impl_IsShop.l0, mid_lt, mid_ge, rd_mid, wrap_mid p x hp, ↓reduceIte, List.all_cons]
    by_cases h0 : x < 0
    · have e : decide (0 ≤ x ∧ x ≤ 999) = false := by rw [decide_eq_false_iff_not]; omega
      simp only [h0, e, Bool.false_and, ↓reduceIte]
      exact Ev.now _
    · by_cases h1 : x > 999
      · have e : decide (0 ≤ x ∧ x ≤ 999) = false := by rw [decide_eq_false_iff_not]; omega
        simp only [h0, h1, e, Bool.false_and, ↓reduceIte]
        exact Ev.now _
      · have e : decide (0 ≤ x ∧ x ≤ 999) = true := by rw [decide_eq_true_iff]; omega
        simp only [h0, h1, e, Bool.true_and, ↓reduceIte]
        rw [step_mid p q x] at h ⊢
        exact impl_IsShop_l0 st l hl q (p ++ [x]) h
theorem impl_IsShop_ev (st : List Int) (l : List S41) (hst : st.length < 9223372036854775807) (h : l.length < 9223372036854775807) : Ev (fun k => impl_IsShop.f k st l) (goodShop st l) := by
  have fin : Ev (fun k => impl_IsShop.j0 k true st l) false := by
    refine ev_up ?_
    simp only [impl_IsShop.j0, ↓reduceIte]
    exact Ev.now _
  unfold goodShop
  simp only [impl_IsShop.f]
  by_cases h8 : st.length = 8
  · have h8' : ((st.length : Int) = 8) = True := by apply eq_true; omega
    have h0 : ((0 : Int) < (st.length : Int)) = True := by apply eq_true; omega
    by_cases hr : rd st 0 = 0
    · by_cases hl : l.length ≤ 20
      · have hl' : decide ((l.length : Int) > 20) = false := by rw [decide_eq_false_iff_not]; omega
        simp only [h8, h8', h0, hr, hl, hl', ↓reduceIte, decide_true, Bool.true_and]
        refine ev_up ?_
        simp only [impl_IsShop.j0, Bool.false_eq_true, ↓reduceIte]
        simpa using impl_IsShop_l0 st l h st [] (by simpa using hst)
      · have hl' : decide ((l.length : Int) > 20) = true := by rw [decide_eq_true_iff]; omega
        simp only [h8, h8', h0, hr, hl, hl', ↓reduceIte, decide_true, decide_false, Bool.true_and, Bool.false_and, Bool.and_false]
        exact fin
    · simp only [h8, h8', h0, hr, ↓reduceIte, decide_true, decide_false, Bool.true_and, Bool.false_and, Bool.and_false]
      exact fin
  · have h8' : ((st.length : Int) = 8) = False := by apply eq_false; omega
    simp only [h8, h8', ↓reduceIte, decide_false, Bool.false_and]
    exact fin
theorem psMember_eq (a : Int) : spec_psMember.f a = some (decide (1 ≤ a ∧ a ≤ 99)) := by simp [spec_psMember.f, l1In_eq]
theorem psKind_eq (a : Int) : spec_psKind.f a = some (decide (1 ≤ a ∧ a ≤ 7)) := by simp [spec_psKind.f, l1In_eq]
theorem psCount_eq (a : Int) : spec_psCount.f a = some (decide (1 ≤ a ∧ a ≤ 99)) := by simp [spec_psCount.f, l1In_eq]
def shopIf (st : List Int) (l : List S41) : List Int × List S41 × Bool := if goodShop st l = true then (st, l, true) else ([], [], false)
theorem shopIf_len (st : List Int) (l : List S41) : (shopIf st l).1.length ≤ 10000000 ∧ (shopIf st l).2.1.length ≤ 10000000 := by
  unfold shopIf; split
  · rename_i h; have := goodShop_len h; simp; omega
  · simp
theorem psOwn_eq (st : List Int) (l : List S41) (hst : st.length ≤ 1048576) (h : l.length ≤ 1048576) : spec_psOwn.f st l = some (st, l) := by
  have h1 : (([] : List S41).length + l.length < 4398046511104) = True := by apply eq_true; simp; omega
  simp only [spec_psOwn.f, l1Own_eq st (by omega), Option.bind_some, h1, ↓reduceIte, List.nil_append]
theorem copyShop_eq (st : List Int) (l : List S41) (hst : st.length ≤ 1048576) (h : l.length ≤ 1048576) : impl_copyShop.f st l = some (st, l) := by
  have h1 : (([] : List S41).length + l.length < 4398046511104) = True := by apply eq_true; simp; omega
  have h2 : (([] : List Int).length + st.length < 17592186044416) = True := by apply eq_true; simp; omega
  simp only [impl_copyShop.f, Option.bind_some, h1, h2, ↓reduceIte, List.nil_append]
theorem spec_psIf_ev (st : List Int) (l : List S41) (hst : st.length ≤ 1048576) (h : l.length ≤ 1048576) : Ev (fun k => spec_psIf.f k st l) (shopIf st l) := by
  unfold shopIf
  simp only [spec_psIf.f]
  refine ev_bind (spec_psGood_ev st l (by omega) (by omega)) ?_
  split <;> exact Ev.now _
theorem impl_validShop_ev (st : List Int) (l : List S41) (hst : st.length ≤ 1048576) (h : l.length ≤ 1048576) : Ev (fun k => impl_validShop.f k st l) (shopIf st l) := by
  unfold shopIf
  simp only [impl_validShop.f]
  refine ev_bind (impl_IsShop_ev st l (by omega) (by omega)) ?_
  split <;> exact Ev.now _
theorem laws_toShop_ev (st : List Int) (l : List S39) (hst : st.length ≤ 1048576) (h : l.length ≤ 1048576) : Ev (fun k => laws_toShop.f k st l) (st, l.map toLoan) := by
  simp only [laws_toShop.f]
  exact ev_bind (laws_toIntS_ev st hst) (ev_bind (laws_toLoanS_ev l h) (Ev.now _))
theorem laws_eqShop_ev (st : List Int) (l : List S41) (hst : st.length < 9223372036854775807) (h : l.length < 9223372036854775807) : Ev (fun k => laws_eqShop.f k st l st l) true := by
  simp only [laws_eqShop.f]
  refine ev_bind (laws_eqIntS_ev st hst) ?_
  simp only [↓reduceIte]
  refine ev_bind (laws_eqLoanS_ev l h) ?_
  simpa using Ev.now _
theorem laws_markShop_only (st : List Int) (l : List S41) (hst : st.length ≤ 10000000) (h : l.length ≤ 10000000) : ∃ m' l', 0 ≤ m' ∧ Ev (fun k => laws_markShop.f k st l 1) (m', l') := by
  obtain ⟨q, hA⟩ := laws_markIntS_o st [] 1 (by simp; omega) (by omega) (by omega)
  have hA' : Ev (fun k => laws_markIntS.f k st 1) (1 + (st.length : Int), q) := by simpa [laws_markIntS.f] using hA
  obtain ⟨m', l', h2, h3, h4⟩ := laws_markLoanS_only l (1 + (st.length : Int)) (by omega) (by omega) (by omega)
  refine ⟨m', (q, l'), h2, ?_⟩
  simp only [laws_markShop.f]
  exact ev_bind hA' (ev_bind h4 (Ev.now _))
theorem laws_markShop_ev (st : List Int) (l : List S41) (hst : st.length ≤ 10000000) (h : l.length ≤ 10000000) : ∃ m' a b, 0 ≤ m' ∧ Ev (fun k => laws_markShop.f k st l 1) (m', a, b) ∧ Ev (fun k => laws_heldShop.f k a b 1) m' := by
  obtain ⟨q, hl, hA, hB⟩ := laws_markIntS_ev st 1 (by omega) (by omega) (by omega)
  obtain ⟨m', l', h2, h3, h4, h5, h6⟩ := laws_markLoanS_ev l (1 + (st.length : Int)) (by omega) (by omega) (by omega)
  refine ⟨m', q, l', h2, ?_, ?_⟩
  · simp only [laws_markShop.f]
    exact ev_bind hA (ev_bind h5 (Ev.now _))
  · simp only [laws_heldShop.f]
    refine ev_bind hB ?_
    have g : ¬ (1 + (st.length : Int) < 0) := by omega
    simp only [g, ↓reduceIte]
    refine ev_bind h6 ?_
    have g2 : ¬ (m' < 0) := by omega
    simp only [g2, ↓reduceIte]
    exact Ev.now _
theorem szIntS_eq (l : List Int) (n : Int) (h : l.length ≤ 9223372036854775807) (h0 : 0 ≤ n) (h1 : n ≤ 1048576) : laws_szIntS.f l n = some (if (l.length : Int) ≤ n then n - (l.length : Int) else -1) := by
  have hw : wrap64 (n - (l.length : Int)) = n - (l.length : Int) := wrap_id (by omega) (by omega)
  unfold laws_szIntS.f
  rw [hw]
  by_cases hl : (l.length : Int) ≤ n
  · rw [if_neg (by omega), if_pos hl]
  · rw [if_pos (by omega), if_neg hl]
theorem szShop_eq (st : List Int) (l : List S39) (hst : st.length ≤ 9223372036854775807) (h : l.length ≤ 9223372036854775807) : laws_szShop.f st l 1048576 = some (if st.length + l.length ≤ 1048576 then 1048576 - (st.length : Int) - (l.length : Int) else -1) := by
  simp only [laws_szShop.f, szIntS_eq st 1048576 hst (by omega) (by omega), Option.bind_some]
  by_cases h0 : (st.length : Int) ≤ 1048576
  · have g : ¬ (1048576 - (st.length : Int) < 0) := by omega
    simp only [h0, g, ↓reduceIte, szLoanS_eq l (1048576 - (st.length : Int)) h (by omega) (by omega), Option.bind_some]
    by_cases h1 : (l.length : Int) ≤ 1048576 - (st.length : Int)
    · have g1 : ¬ (1048576 - (st.length : Int) - (l.length : Int) < 0) := by omega
      have g2 : st.length + l.length ≤ 1048576 := by omega
      simp only [h1, g1, g2, ↓reduceIte]
    · have g2 : ¬ st.length + l.length ≤ 1048576 := by omega
      have g3 : (-1 : Int) < 0 := by omega
      simp only [h1, g2, g3, ↓reduceIte]
  · have g2 : ¬ st.length + l.length ≤ 1048576 := by omega
    have g3 : (-1 : Int) < 0 := by omega
    simp only [h0, g2, g3, ↓reduceIte]
theorem cut_at {α : Type} (l : List α) (i : Int) (h0 : 0 ≤ i) (h1 : i < (l.length : Int)) : ∃ a x b, l = a ++ x :: b ∧ i = (a.length : Int) := by
  have hi : i.toNat < l.length := by omega
  refine ⟨l.take i.toNat, l[i.toNat], l.drop (i.toNat + 1), ?_, ?_⟩
  · rw [← List.drop_eq_getElem_cons hi, List.take_append_drop]
  · rw [List.length_take]; omega
def bestV (a1 a2 : Int) (L : List S41) (b i : Int) : List S41 → Int
  | [] => b
  | x :: q => bestV a1 a2 L (if x.f0 = a1 ∧ x.f1 = a2 ∧ 0 < x.f2 ∧ (b < 0 ∨ x.f3 < (rd_T41 L b).f3) then i else b) (i + 1) q
theorem bestV_lt (a1 a2 : Int) (L : List S41) : ∀ (q p : List S41) (b : Int), L = p ++ q → -1 ≤ b → b < (L.length : Int) → -1 ≤ bestV a1 a2 L b (p.length : Int) q ∧ bestV a1 a2 L b (p.length : Int) q < (L.length : Int)
  | [], p, b, h, h0, h1 => ⟨h0, h1⟩
  | x :: q, p, b, h, h0, h1 => by
    have hl : (p.length : Int) < (L.length : Int) := by rw [h]; simp only [List.length_append, List.length_cons]; omega
    rw [bestV]
    have := bestV_lt a1 a2 L q (p ++ [x]) (if x.f0 = a1 ∧ x.f1 = a2 ∧ 0 < x.f2 ∧ (b < 0 ∨ x.f3 < (rd_T41 L b).f3) then (p.length : Int) else b) (by rw [h]; simp) (by split <;> omega) (by split <;> omega)
    simpa using this
def lessLoan (x : S41) (n : Int) : S41 := ⟨x.f0, x.f1, wrap64 (x.f2 - n), x.f3⟩
def payV (a1 a2 : Int) : Nat → Int → List S41 → Option (List S41)
  | 0, _, _ => none
  | k + 1, c, L => if c > 0 then (if bestV a1 a2 L (-1) 0 L < 0 then none else payV a1 a2 k (wrap64 (c - mn c (rd_T41 L (bestV a1 a2 L (-1) 0 L)).f2)) (L.set (bestV a1 a2 L (-1) 0 L).toNat (lessLoan (rd_T41 L (bestV a1 a2 L (-1) 0 L)) (mn c (rd_T41 L (bestV a1 a2 L (-1) 0 L)).f2)))) else some L
def countOk (L : List S41) : Prop := L.length ≤ 1048576 ∧ ∀ x ∈ L, 0 ≤ x.f2 ∧ x.f2 ≤ 99
/-- The best one has a count above nothing. -/
theorem bestV_pos (a1 a2 : Int) (L : List S41) : ∀ (q p : List S41) (b : Int), L = p ++ q → -1 ≤ b → (0 ≤ b → b < (L.length : Int) ∧ 0 < (rd_T41 L b).f2) → 0 ≤ bestV a1 a2 L b (p.length : Int) q → 0 < (rd_T41 L (bestV a1 a2 L b (p.length : Int) q)).f2
  | [], p, b, h, hb, h0, h1 => (h0 h1).2
  | x :: q, p, b, h, hb, h0, h1 => by
    have e : (p.length : Int) + 1 = ((p ++ [x]).length : Int) := by simp
    rw [bestV, e] at h1 ⊢
    refine bestV_pos a1 a2 L q (p ++ [x]) _ (by rw [h]; simp) (by split <;> omega) ?_ h1
    split
    · rename_i hc
      intro _
      have hx : rd_T41 L (p.length : Int) = x := by rw [h]; simp [rd_T41]
      rw [hx]
      exact ⟨by rw [h]; simp only [List.length_append, List.length_cons]; omega, hc.2.2.1⟩
    · exact h0
theorem rd_mem (L : List S41) (b : Int) (h0 : 0 ≤ b) (h1 : b < (L.length : Int)) : rd_T41 L b ∈ L := by
  obtain ⟨a, x, c, rfl, rfl⟩ := cut_at L b h0 h1
  simp [rd_T41]
theorem pay_step {L : List S41} {b c : Int} (h : countOk L) (h0 : 0 ≤ b) (h1 : b < (L.length : Int)) (hp : 0 < (rd_T41 L b).f2) (hc : 0 < c) (hc9 : c ≤ 99) : countOk (L.set b.toNat (lessLoan (rd_T41 L b) (mn c (rd_T41 L b).f2))) ∧ 0 ≤ wrap64 (c - mn c (rd_T41 L b).f2) ∧ wrap64 (c - mn c (rd_T41 L b).f2) < c := by
  obtain ⟨g0, g1⟩ := h.2 _ (rd_mem L b h0 h1)
  have hm : mn c (rd_T41 L b).f2 ≤ c ∧ mn c (rd_T41 L b).f2 ≤ (rd_T41 L b).f2 ∧ 0 < mn c (rd_T41 L b).f2 := by unfold mn; split <;> omega
  have hw : wrap64 (c - mn c (rd_T41 L b).f2) = c - mn c (rd_T41 L b).f2 := wrap_id (by omega) (by omega)
  have hw2 : wrap64 ((rd_T41 L b).f2 - mn c (rd_T41 L b).f2) = (rd_T41 L b).f2 - mn c (rd_T41 L b).f2 := wrap_id (by omega) (by omega)
  refine ⟨⟨by simpa using h.1, fun x hx => ?_⟩, by omega, by omega⟩
  rcases List.mem_or_eq_of_mem_set hx with hx | rfl
  · exact h.2 x hx
  · simp only [lessLoan, hw2]; omega
def leftV (L : List S41) : List S41 := L.filter fun x => decide (0 < x.f2)
def paidV (st : List Int) : Option (List S41) → List Int × List S41 × Bool
  | none => ([], [], false)
  | some L => shopIf st (leftV L)
def rReturnParts (st : List Int) (l : List S41) (a1 a2 a3 : Int) : List Int × List S41 × Bool :=
  if goodShop st l = true ∧ (1 ≤ a1 ∧ a1 ≤ 99) ∧ (1 ≤ a2 ∧ a2 ≤ 7) ∧ 1 ≤ a3 ∧ a3 ≤ 99 then paidV (st.set a2.toNat (wrap64 (rd st a2 + a3))) (payV a1 a2 100 a3 l) else ([], [], false)
theorem rReturnParts_len (st : List Int) (l : List S41) (a1 a2 a3 : Int) (hst : st.length ≤ 1048576) (h : l.length ≤ 1048576) : (rReturnParts st l a1 a2 a3).1.length ≤ 10000000 ∧ (rReturnParts st l a1 a2 a3).2.1.length ≤ 10000000 := by
  unfold rReturnParts
  split
  · cases payV a1 a2 100 a3 l with
    | none => simp [paidV]
    | some L => exact shopIf_len _ _
  · simp
theorem goodShop_count {st : List Int} {l : List S41} (h : goodShop st l = true) : countOk l := by
  refine ⟨by have := (goodShop_len h).2; omega, fun x hx => ?_⟩
  have := goodShop_ok h x hx
  unfold okLoan at this
  simp only [decide_eq_true_eq] at this
  omega
theorem impl_Loan_54_l0 : ∀ (q p : List S41), (p ++ q).length < 9223372036854775807 → ((∀ x ∈ q, x.f2 ≠ 0) ∧ Ev (fun k => impl_Loan_54.l0 k (p ++ q) ((p ++ q).length : Int) (p.length : Int)) (-1)) ∨ (∃ a x b, q = a ++ x :: b ∧ (∀ y ∈ a, y.f2 ≠ 0) ∧ x.f2 = 0 ∧ Ev (fun k => impl_Loan_54.l0 k (p ++ q) ((p ++ q).length : Int) (p.length : Int)) ((p ++ a).length : Int))
  | [], p, h => by
    refine .inl ⟨by simp, ev_up ?_⟩
    simp only [impl_Loan_54.l0, mid_end, ↓reduceIte]
    exact Ev.now _
  | x :: q, p, h => by
    have hp : p.length < 9223372036854775807 := by simp only [List.length_append, List.length_cons] at h; omega
    by_cases hx : x.f2 = 0
    · refine .inr ⟨[], x, q, rfl, by simp, hx, ev_up ?_⟩
      simp only [impl_Loan_54.l0, rd_T41, mid_lt, mid_ge, getD_mid, hx, ↓reduceIte, List.append_nil]
      exact Ev.now _
    · have e := step_mid p q x
      rcases impl_Loan_54_l0 q (p ++ [x]) (by rw [← e]; exact h) with ⟨ha, hE⟩ | ⟨a, y, b, rfl, ha, hy, hE⟩
      · refine .inl ⟨fun z hz => ?_, ev_up ?_⟩
        · rcases List.mem_cons.1 hz with rfl | hz
          · exact hx
          · exact ha z hz
        · simp only [impl_Loan_54.l0, rd_T41, mid_lt, mid_ge, getD_mid, hx, wrap_mid p x hp, ↓reduceIte]
          rw [e]; exact hE
      · refine .inr ⟨x :: a, y, b, rfl, fun z hz => ?_, hy, ev_up ?_⟩
        · rcases List.mem_cons.1 hz with rfl | hz
          · exact hx
          · exact ha z hz
        · simp only [impl_Loan_54.l0, rd_T41, mid_lt, mid_ge, getD_mid, hx, wrap_mid p x hp, ↓reduceIte]
          rw [e]; simpa using hE
theorem impl_Loan_48_l0 : ∀ (q d m : List S41) (y : S41), (d ++ y :: m ++ q).length < 9223372036854775807 → Ev (fun k => impl_Loan_48.l0 k (d ++ y :: m ++ q) (d.length : Int) ((d ++ y :: m).length : Int)) (d ++ q.filter (fun x => decide (x.f2 ≠ 0)))
  | [], d, m, y, h => by
    refine ev_up ?_
    have h1 : (((d ++ y :: m).length : Int) < ((d ++ y :: m ++ []).length : Int)) = False := mid_end _
    have h2 : ((d.length : Int) ≤ ((d ++ y :: m ++ []).length : Int)) = True := by apply eq_true; simp only [List.length_append, List.length_cons]; omega
    simp only [impl_Loan_48.l0, h1, h2, mid_ge, ↓reduceIte]
    exact ev_eq (Ev.now _) (by simp)
  | x :: q, d, m, y, h => by
    have hp : (d ++ y :: m).length < 9223372036854775807 := by rw [List.length_append] at h; omega
    by_cases hx : x.f2 = 0
    · refine ev_up ?_
      simp only [impl_Loan_48.l0, rd_T41, mid_lt, mid_ge, getD_mid, hx, wrap_mid (d ++ y :: m) x hp, ↓reduceIte]
      have hI := impl_Loan_48_l0 q d (m ++ [x]) y (by simpa using h)
      simpa [hx] using hI
    · refine ev_up ?_
      have h3 : ((d.length : Int) < ((d ++ y :: m ++ x :: q).length : Int)) = True := by apply eq_true; simp only [List.length_append, List.length_cons]; omega
      have hd : d.length < 9223372036854775807 := by simp only [List.length_append, List.length_cons] at h; omega
      have hs : (d ++ y :: m ++ x :: q).set ((d.length : Int)).toNat x = d ++ x :: m ++ x :: q := by
        rw [List.append_assoc, List.append_assoc]
        exact set_mid d (m ++ x :: q) y x
      simp only [impl_Loan_48.l0, rd_T41, mid_lt, mid_ge, getD_mid, hx, h3, hs, wrap_mid (d ++ y :: m) x hp, wrap_mid d x hd, ↓reduceIte]
      cases m with
      | nil =>
        have hI := impl_Loan_48_l0 q (d ++ [x]) [] x (by simpa using h)
        simpa [hx] using hI
      | cons z m =>
        have hI := impl_Loan_48_l0 q (d ++ [x]) (m ++ [x]) z (by simpa using h)
        simpa [hx] using hI
theorem impl_Loan_48_ev (l : List S41) (h : l.length ≤ 1048576) : Ev (fun k => impl_Loan_48.f k l 0) (l.filter (fun x => decide (x.f2 ≠ 0))) := by
  simp only [impl_Loan_48.f]
  rcases impl_Loan_54_l0 l [] (by simp; omega) with ⟨ha, hE⟩ | ⟨a, x, b, rfl, ha, hx, hE⟩
  · refine ev_bind (a := -1) (by simpa [impl_Loan_54.f] using hE) ?_
    simp only [↓reduceIte]
    refine ev_eq (Ev.now _) (Eq.symm (List.filter_eq_self.2 fun x hx => by simpa using ha x hx))
  · refine ev_bind (a := (a.length : Int)) (by simpa [impl_Loan_54.f] using hE) ?_
    have hn : ¬ ((a.length : Int) = -1) := by omega
    have hl : a.length < 9223372036854775807 := by simp only [List.length_append, List.length_cons] at h; omega
    have hI := impl_Loan_48_l0 b a [] x (by simp only [List.append_assoc, List.cons_append, List.nil_append]; omega)
    simp only [hn, ↓reduceIte, wrap_mid a x hl]
    have hf : a.filter (fun x => decide (x.f2 ≠ 0)) = a := List.filter_eq_self.2 fun x hx => by simpa using ha x hx
    rw [List.filter_append, hf, List.filter_cons_of_neg (by simpa using hx)]
    simpa using hI
theorem left_eq {L : List S41} (h : countOk L) : L.filter (fun x => decide (x.f2 ≠ 0)) = leftV L := by
  unfold leftV
  refine List.filter_congr fun x hx => ?_
  have := h.2 x hx
  rw [decide_eq_decide]
  omega
theorem spec_ReturnParts_l2 (st : List Int) (hst : st.length ≤ 1048576) (L : List S41) : ∀ (q p acc : List S41), (p ++ q).length ≤ 1048576 → acc.length ≤ p.length → Ev (fun k => spec_ReturnParts.l2 k acc (p ++ q) ((p ++ q).length : Int) (p.length : Int) st L) (shopIf st (acc ++ leftV q))
  | [], p, acc, h, ha => by
    refine ev_up ?_
    simp only [spec_ReturnParts.l2, mid_end, ↓reduceIte]
    refine ev_bind (spec_psIf_ev st acc hst (by simp only [List.length_append] at h; omega)) ?_
    exact ev_eq (Ev.now _) (by simp [leftV])
  | x :: q, p, acc, h, ha => by
    have hp : p.length < 9223372036854775807 := by simp only [List.length_append, List.length_cons] at h; omega
    have hcap : (acc.length < 4398046511104) = True := by apply eq_true; simp only [List.length_append, List.length_cons] at h; omega
    have e := step_mid p q x
    refine ev_up ?_
    by_cases hx : x.f2 > 0
    · simp only [spec_ReturnParts.l2, rd_T41, mid_lt, mid_ge, getD_mid, hx, hcap, wrap_mid p x hp, ↓reduceIte]
      rw [e] at h ⊢
      have hI := spec_ReturnParts_l2 st hst L q (p ++ [x]) (acc ++ [x]) h (by simp; omega)
      simpa [leftV, hx] using hI
    · simp only [spec_ReturnParts.l2, rd_T41, mid_lt, mid_ge, getD_mid, hx, wrap_mid p x hp, ↓reduceIte]
      rw [e] at h ⊢
      have hI := spec_ReturnParts_l2 st hst L q (p ++ [x]) acc h (by simp; omega)
      simpa [leftV, hx] using hI
theorem spec_ReturnParts_l1 (a1 a2 c : Int) (st : List Int) (L : List S41) (r : List Int × List S41 × Bool) : ∀ (q p : List S41) (b : Int), L = p ++ q → L.length < 9223372036854775807 → -1 ≤ b → b < (L.length : Int) → Ev (fun k => spec_ReturnParts.l1 k a1 a2 c (bestV a1 a2 L b (p.length : Int) q) L (L.length : Int) (L.length : Int) st L) r → Ev (fun k => spec_ReturnParts.l1 k a1 a2 c b L (L.length : Int) (p.length : Int) st L) r
  | [], p, b, h, hl, h0, h1, hE => by
    have e : p = L := by simpa using h.symm
    rw [e]
    rw [e] at hE
    exact hE
  | x :: q, p, b, h, hl, h0, h1, hE => by
    have hp : p.length < 9223372036854775807 := by rw [h] at hl; simp only [List.length_append, List.length_cons] at hl; omega
    have hlt : ((p.length : Int) < (L.length : Int)) = True := by rw [h]; exact mid_lt p q x
    have hx : rd_T41 L (p.length : Int) = x := by rw [h]; simp [rd_T41]
    have hI := fun b' hb0 hb1 => spec_ReturnParts_l1 a1 a2 c st L r q (p ++ [x]) b' (by rw [h]; simp) hl hb0 hb1
    have e1 : ((p ++ [x]).length : Int) = (p.length : Int) + 1 := by simp
    rw [bestV, ← e1] at hE
    have hpl : (p.length : Int) < (L.length : Int) := of_eq_true hlt
    refine ev_up ?_
    simp only [spec_ReturnParts.l1, hlt, mid_ge, hx, wrap_mid p x hp, gt_iff_lt, ↓reduceIte]
    by_cases c1 : x.f0 = a1
    · by_cases c2 : x.f1 = a2
      · by_cases c3 : 0 < x.f2
        · by_cases c4 : b < 0
          · simp only [c1, c2, c3, c4, true_and, true_or, and_true, ↓reduceIte] at hE ⊢
            exact hI _ (by omega) (by omega) hE
          · have c5 : (0 ≤ b) = True := by apply eq_true; omega
            have c6 : (b < (L.length : Int)) = True := eq_true h1
            by_cases c7 : x.f3 < (rd_T41 L b).f3
            · simp only [c1, c2, c3, c4, c5, c6, c7, true_and, false_or, and_true, ↓reduceIte] at hE ⊢
              exact hI _ (by omega) (by omega) hE
            · simp only [c1, c2, c3, c4, c5, c6, c7, true_and, false_or, and_false, ↓reduceIte] at hE ⊢
              exact hI _ h0 h1 hE
        · simp only [c1, c2, c3, true_and, false_and, ↓reduceIte] at hE ⊢
          exact hI _ h0 h1 hE
      · simp only [c1, c2, true_and, false_and, ↓reduceIte] at hE ⊢
        exact hI _ h0 h1 hE
    · simp only [c1, false_and, ↓reduceIte] at hE ⊢
      exact hI _ h0 h1 hE
theorem spec_ReturnParts_l0 (a1 a2 : Int) (st : List Int) (hst : st.length ≤ 1048576) : ∀ (n : Nat) (c : Int) (L : List S41), countOk L → c ≤ n → 0 ≤ c → c ≤ 99 → Ev (fun k => spec_ReturnParts.l0 k a1 a2 c st L) (paidV st (payV a1 a2 (n + 1) c L))
  | n, c, L, h, hn, h0, h9 => by
    refine ev_up ?_
    rw [payV]
    by_cases g : c > 0
    · have hlt := bestV_lt a1 a2 L L [] (-1) rfl (by omega) (by omega)
      have hpos := bestV_pos a1 a2 L L [] (-1) rfl (by omega) (by omega)
      have hl1 := h.1
      have hE := spec_ReturnParts_l1 a1 a2 c st L (paidV st (if bestV a1 a2 L (-1) 0 L < 0 then none else payV a1 a2 n (wrap64 (c - mn c (rd_T41 L (bestV a1 a2 L (-1) 0 L)).f2)) (L.set (bestV a1 a2 L (-1) 0 L).toNat (lessLoan (rd_T41 L (bestV a1 a2 L (-1) 0 L)) (mn c (rd_T41 L (bestV a1 a2 L (-1) 0 L)).f2))))) L [] (-1) rfl (by omega) (by omega) (by omega)
      simp only [List.length_nil, Int.natCast_zero] at hlt hpos hE
      simp only [spec_ReturnParts.l0, g, ↓reduceIte]
      refine hE ?_
      generalize hb : bestV a1 a2 L (-1) 0 L = b at hlt hpos ⊢
      refine ev_up ?_
      have hf : ((L.length : Int) < (L.length : Int)) = False := by apply eq_false; omega
      by_cases b0 : b < 0
      · simp only [spec_ReturnParts.l1, hf, b0, ↓reduceIte, paidV]
        exact Ev.now _
      · have b1 : (0 ≤ b) = True := by apply eq_true; omega
        have b2 : (b < (L.length : Int)) = True := eq_true hlt.2
        obtain ⟨s1, s2, s3⟩ := pay_step h (by omega) hlt.2 (hpos (by omega)) g h9
        obtain ⟨n, rfl⟩ : ∃ m, n = m + 1 := ⟨n - 1, by omega⟩
        simp only [spec_ReturnParts.l1, hf, b0, b1, b2, l1Least_eq, Option.bind_some, ↓reduceIte]
        exact spec_ReturnParts_l0 a1 a2 st hst n _ _ s1 (by omega) s2 (by omega)
    · simp only [spec_ReturnParts.l0, g, ↓reduceIte]
      have hI := spec_ReturnParts_l2 st hst L L [] [] (by simpa using h.1) (by simp)
      simpa [paidV] using hI
theorem impl_ReturnParts_l1 (a1 a2 c : Int) (st : List Int) (L : List S41) (r : List Int × List S41 × Bool) : ∀ (q p : List S41) (b : Int), L = p ++ q → L.length < 9223372036854775807 → -1 ≤ b → b < (L.length : Int) → Ev (fun k => impl_ReturnParts.l1 k a1 a2 c (bestV a1 a2 L b (p.length : Int) q) L (L.length : Int) (L.length : Int) st L) r → Ev (fun k => impl_ReturnParts.l1 k a1 a2 c b L (L.length : Int) (p.length : Int) st L) r
  | [], p, b, h, hl, h0, h1, hE => by
    have e : p = L := by simpa using h.symm
    rw [e]
    rw [e] at hE
    exact hE
  | x :: q, p, b, h, hl, h0, h1, hE => by
    have hp : p.length < 9223372036854775807 := by rw [h] at hl; simp only [List.length_append, List.length_cons] at hl; omega
    have hlt : ((p.length : Int) < (L.length : Int)) = True := by rw [h]; exact mid_lt p q x
    have hx : rd_T41 L (p.length : Int) = x := by rw [h]; simp [rd_T41]
    have hI := fun b' hb0 hb1 => impl_ReturnParts_l1 a1 a2 c st L r q (p ++ [x]) b' (by rw [h]; simp) hl hb0 hb1
    have e1 : ((p ++ [x]).length : Int) = (p.length : Int) + 1 := by simp
    rw [bestV, ← e1] at hE
    have hpl : (p.length : Int) < (L.length : Int) := of_eq_true hlt
    refine ev_up ?_
    simp only [impl_ReturnParts.l1, hlt, mid_ge, hx, wrap_mid p x hp, gt_iff_lt, ↓reduceIte]
    by_cases c1 : x.f0 = a1
    · by_cases c2 : x.f1 = a2
      · by_cases c3 : 0 < x.f2
        · by_cases c4 : b < 0
          · simp only [c1, c2, c3, c4, true_and, true_or, and_true, ↓reduceIte] at hE ⊢
            exact hI _ (by omega) (by omega) hE
          · have c5 : (0 ≤ b) = True := by apply eq_true; omega
            have c6 : (b < (L.length : Int)) = True := eq_true h1
            by_cases c7 : x.f3 < (rd_T41 L b).f3
            · simp only [c1, c2, c3, c4, c5, c6, c7, true_and, false_or, and_true, ↓reduceIte] at hE ⊢
              exact hI _ (by omega) (by omega) hE
            · simp only [c1, c2, c3, c4, c5, c6, c7, true_and, false_or, and_false, ↓reduceIte] at hE ⊢
              exact hI _ h0 h1 hE
        · simp only [c1, c2, c3, true_and, false_and, ↓reduceIte] at hE ⊢
          exact hI _ h0 h1 hE
      · simp only [c1, c2, true_and, false_and, ↓reduceIte] at hE ⊢
        exact hI _ h0 h1 hE
    · simp only [c1, false_and, ↓reduceIte] at hE ⊢
      exact hI _ h0 h1 hE
theorem impl_ReturnParts_l0 (a1 a2 : Int) (st : List Int) (hst : st.length ≤ 1048576) : ∀ (n : Nat) (c : Int) (L : List S41), countOk L → c ≤ n → 0 ≤ c → c ≤ 99 → Ev (fun k => impl_ReturnParts.l0 k a1 a2 c st L) (paidV st (payV a1 a2 (n + 1) c L))
  | n, c, L, h, hn, h0, h9 => by
    refine ev_up ?_
    rw [payV]
    by_cases g : c > 0
    · have hlt := bestV_lt a1 a2 L L [] (-1) rfl (by omega) (by omega)
      have hpos := bestV_pos a1 a2 L L [] (-1) rfl (by omega) (by omega)
      have hl1 := h.1
      have hE := impl_ReturnParts_l1 a1 a2 c st L (paidV st (if bestV a1 a2 L (-1) 0 L < 0 then none else payV a1 a2 n (wrap64 (c - mn c (rd_T41 L (bestV a1 a2 L (-1) 0 L)).f2)) (L.set (bestV a1 a2 L (-1) 0 L).toNat (lessLoan (rd_T41 L (bestV a1 a2 L (-1) 0 L)) (mn c (rd_T41 L (bestV a1 a2 L (-1) 0 L)).f2))))) L [] (-1) rfl (by omega) (by omega) (by omega)
      simp only [List.length_nil, Int.natCast_zero] at hlt hpos hE
      simp only [impl_ReturnParts.l0, g, ↓reduceIte]
      refine hE ?_
      generalize hb : bestV a1 a2 L (-1) 0 L = b at hlt hpos ⊢
      refine ev_up ?_
      have hf : ((L.length : Int) < (L.length : Int)) = False := by apply eq_false; omega
      by_cases b0 : b < 0
      · simp only [impl_ReturnParts.l1, hf, b0, ↓reduceIte, paidV]
        exact Ev.now _
      · have b1 : (0 ≤ b) = True := by apply eq_true; omega
        have b2 : (b < (L.length : Int)) = True := eq_true hlt.2
        obtain ⟨s1, s2, s3⟩ := pay_step h (by omega) hlt.2 (hpos (by omega)) g h9
        obtain ⟨n, rfl⟩ : ∃ m, n = m + 1 := ⟨n - 1, by omega⟩
        simp only [impl_ReturnParts.l1, hf, b0, b1, b2, Option.bind_some, ↓reduceIte]
        exact impl_ReturnParts_l0 a1 a2 st hst n _ _ s1 (by omega) s2 (by omega)
    · simp only [impl_ReturnParts.l0, g, ↓reduceIte]
      refine ev_bind (impl_Loan_48_ev L h.1) ?_
      rw [left_eq h]
      refine ev_bind (impl_validShop_ev st (leftV L) hst (Nat.le_trans (List.length_filter_le _ _) h.1)) ?_
      exact Ev.now _
theorem spec_ReturnParts_ev (st : List Int) (l : List S41) (a1 a2 a3 : Int) (hst : st.length ≤ 1048576) (h : l.length ≤ 1048576) : Ev (fun z => spec_ReturnParts.f z st l a1 a2 a3) (rReturnParts st l a1 a2 a3) := by
  have fin : Ev (fun z => spec_ReturnParts.j0 z a1 a2 a3 true st l) (([] : List Int), ([] : List S41), false) := by
    refine ev_up ?_
    simp only [spec_ReturnParts.j0, ↓reduceIte]
    exact Ev.now _
  unfold rReturnParts
  simp only [spec_ReturnParts.f, psMember_eq, psKind_eq, psCount_eq, Option.bind_some]
  refine ev_bind (spec_psGood_ev st l (by omega) (by omega)) ?_
  cases hg : goodShop st l
  · simpa using fin
  · by_cases h1 : 1 ≤ a1 ∧ a1 ≤ 99
    · by_cases h2 : 1 ≤ a2 ∧ a2 ≤ 7
      · by_cases h3 : 1 ≤ a3 ∧ a3 ≤ 99
        · have hs := (goodShop_len hg).1
          have g1 : (0 ≤ a2) = True := by apply eq_true; omega
          have g2 : (a2 < (st.length : Int)) = True := by apply eq_true; omega
          simp only [h1, h2, h3, and_self, decide_true, Bool.not_true, ↓reduceIte]
          refine ev_up ?_
          simp only [spec_ReturnParts.j0, psOwn_eq st l hst h, g1, g2, Option.bind_some, Bool.false_eq_true, ↓reduceIte]
          exact spec_ReturnParts_l0 a1 a2 _ (by simpa using hst) 99 a3 l (goodShop_count hg) (by omega) (by omega) (by omega)
        · simp only [h1, h2, h3, and_self, decide_true, decide_false, Bool.not_false, and_false, ↓reduceIte]
          exact fin
      · simp only [h1, h2, and_self, decide_true, decide_false, false_and, and_false, Bool.false_eq_true, ↓reduceIte]
        exact fin
    · simp only [h1, decide_false, false_and, and_false, Bool.false_eq_true, ↓reduceIte]
      exact fin
theorem impl_ReturnParts_ev (st : List Int) (l : List S41) (a1 a2 a3 : Int) (hst : st.length ≤ 1048576) (h : l.length ≤ 1048576) : Ev (fun z => impl_ReturnParts.f z st l a1 a2 a3) (rReturnParts st l a1 a2 a3) := by
  have fin : Ev (fun z => impl_ReturnParts.j0 z a1 a2 a3 true st l) (([] : List Int), ([] : List S41), false) := by
    refine ev_up ?_
    simp only [impl_ReturnParts.j0, ↓reduceIte]
    exact Ev.now _
  unfold rReturnParts
  simp only [impl_ReturnParts.f, isLoan_eq, Option.bind_some]
  refine ev_bind (impl_IsShop_ev st l (by omega) (by omega)) ?_
  cases hg : goodShop st l
  · simpa using fin
  · by_cases h1 : (1 ≤ a1 ∧ a1 ≤ 99) ∧ (1 ≤ a2 ∧ a2 ≤ 7) ∧ 1 ≤ a3 ∧ a3 ≤ 99
    · have hs := (goodShop_len hg).1
      have g1 : (0 ≤ a2) = True := by apply eq_true; omega
      have g2 : (a2 < (st.length : Int)) = True := by apply eq_true; omega
      have ho : okLoan ⟨a1, a2, a3, 0⟩ = true := by unfold okLoan; rw [decide_eq_true_iff]; dsimp only; omega
      rw [if_pos ⟨rfl, h1⟩]
      simp only [ho, Bool.not_true, ↓reduceIte]
      refine ev_up ?_
      simp only [impl_ReturnParts.j0, copyShop_eq st l hst h, g1, g2, Option.bind_some, Bool.false_eq_true, ↓reduceIte]
      exact impl_ReturnParts_l0 a1 a2 _ (by simpa using hst) 99 a3 l (goodShop_count hg) (by omega) (by omega) (by omega)
    · have ho : okLoan ⟨a1, a2, a3, 0⟩ = false := by unfold okLoan; rw [decide_eq_false_iff_not]; dsimp only; omega
      rw [if_neg (fun h' => h1 h'.2)]
      simp only [ho, Bool.not_false, ↓reduceIte]
      exact fin
theorem FnExactReturnParts (st : List Int) (l : List S39) (a1 : Int) (a2 : Int) (a3 : Int) (wst : st.length ≤ maxLen) (est : ∀ z ∈ st, (Lit.int .i64 z).wf = true) (wl : l.length ≤ maxLen) (el : ∀ z ∈ l, (Lit.int .i64 z.f0).wf = true ∧ (Lit.int .i64 z.f1).wf = true ∧ (Lit.int .i64 z.f2).wf = true ∧ (Lit.int .i64 z.f3).wf = true) (wa1 : (Lit.int .i64 a1).wf = true) (wa2 : (Lit.int .i64 a2).wf = true) (wa3 : (Lit.int .i64 a3).wf = true) : ∃ k, laws_FnExactReturnParts.f k st l a1 a2 a3 = some true := by
  refine Ev.rounds (g := fun k => laws_FnExactReturnParts.f k st l a1 a2 a3) ?_
  by_cases hb : st.length + l.length ≤ 1048576
  · have hm := (show maxLen ≤ 9223372036854775807 by decide); have SZ := szShop_eq st l (by omega) (by omega)
    have hs1 : st.length ≤ 1048576 := by omega
    have hs2 : l.length ≤ 1048576 := by omega
    have hc1 : (1048576 - (st.length : Int) - (l.length : Int) < 0) = False := by apply eq_false; omega
    have hL : (l.map toLoan).length = l.length := by simp
    have TS := laws_toShop_ev st l hs1 hs2
    have ES := laws_eqShop_ev st (l.map toLoan) (by omega) (by omega)
    have S := spec_ReturnParts_ev st (l.map toLoan) a1 a2 a3 hs1 (by omega)
    have I := impl_ReturnParts_ev st (l.map toLoan) a1 a2 a3 hs1 (by omega)
    obtain ⟨ms, ls, hms, MS⟩ := laws_markShop_only st (l.map toLoan) (by omega) (by omega)
    replace hms : (ms < 0) = False := by apply eq_false; omega
    obtain ⟨R1, R2, ok, hR, hR1, hR2⟩ : ∃ q1 q2 q3, rReturnParts st (l.map toLoan) a1 a2 a3 = (q1, q2, q3) ∧ q1.length ≤ 10000000 ∧ q2.length ≤ 10000000 := by
      obtain ⟨h1, h2⟩ := rReturnParts_len st (l.map toLoan) a1 a2 a3 hs1 (by omega)
      exact ⟨_, _, _, rfl, h1, h2⟩
    rw [hR] at S I
    clear hR
    have E2 := laws_eqShop_ev R1 R2 (by omega) (by omega)
    obtain ⟨m2, la, lb, h2, M2, N2⟩ := laws_markShop_ev R1 R2 (by omega) (by omega)
    replace h2 : (m2 < 0) = False := by apply eq_false; omega
    simp only [laws_FnExactReturnParts.f]
    repeat (first
      | exact Ev.now _
      | with_reducible refine ev_bind (by with_reducible assumption) ?_
      | simp only [*, Option.bind_some, bne_self_eq_false, ↓reduceIte, Bool.false_eq_true, gt_iff_lt]
      | (refine ev_up ?_; simp only [laws_FnExactReturnParts.j0, laws_FnExactReturnParts.j1, laws_FnExactReturnParts.j2, Option.bind_some]))
  · have hm := (show maxLen ≤ 9223372036854775807 by decide); have SZ := szShop_eq st l (by omega) (by omega)
    have hc1 : ((-1 : Int) < 0) = True := by apply eq_true; omega
    simp only [laws_FnExactReturnParts.f]
    repeat (first
      | exact Ev.now _
      | with_reducible refine ev_bind (by with_reducible assumption) ?_
      | simp only [*, Option.bind_some, bne_self_eq_false, ↓reduceIte, Bool.false_eq_true, gt_iff_lt]
      | (refine ev_up ?_; simp only [laws_FnExactReturnParts.j0, laws_FnExactReturnParts.j1, laws_FnExactReturnParts.j2, Option.bind_some]))

end Go.Proofs.Ytokigipkoeeddaa.Pure
