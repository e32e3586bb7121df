/- The law FnExactExtendLoan of plain lists and numbers: whatever the input, it answers true. Condition: the lengths are those of rows that fit a machine. -/
import Derived.Test.YtokigipkoeeddaaMFnExactExtendLoan1
namespace Go.Proofs.Ytokigipkoeeddaa.Pure
open Go.RowKit Go.Proofs.Ytokigipkoeeddaa.Pall Go.Proofs.YtokigipkoeeddaaW.PrintWords Go.Proofs.YtokigipkoeeddaaW.PrintLast Go.Proofs.YtokigipkoeeddaaW.PrintMore
set_option linter.unusedVariables false
set_option linter.unusedSimpArgs false

/-! ### Ground: rounds, and a row seen as what is behind and what is ahead -/
theorem ev_up {α : Type} {g : Nat → Option α} {r : α} (h : Ev (fun k => g (k + 1)) r) : Ev g r := by
  obtain ⟨K, hK⟩ := h
  refine ⟨K + 1, fun k hk => ?_⟩
  obtain ⟨m, rfl⟩ : ∃ m, k = m + 1 := ⟨k - 1, by omega⟩
  exact hK m (by omega)
theorem ev_eq {α : Type} {g : Nat → Option α} {r r' : α} (h : Ev g r) (e : r = r') : Ev g r' := e ▸ h
theorem ev_bind {α β : Type} {g : Nat → Option α} {f : Nat → α → Option β} {a : α} {r : β} (h : Ev g a) (k : Ev (fun n => f n a) r) : Ev (fun n => (g n).bind (f n)) r := Ev.bind h k
theorem mid_lt {α : Type} (p q : List α) (x : α) : ((p.length : Int) < ((p ++ x :: q).length : Int)) = True := by
  apply eq_true; simp only [List.length_append, List.length_cons]; omega
theorem mid_lt2 {α β : Type} (p : List α) (p' q : List β) (x : β) (h : p.length = p'.length) : ((p.length : Int) < ((p' ++ x :: q).length : Int)) = True := by
  apply eq_true; simp only [List.length_append, List.length_cons]; omega
theorem mid_ge {α : Type} (p : List α) : (0 ≤ (p.length : Int)) = True := by apply eq_true; omega
theorem mid_end {α : Type} (p : List α) : ((p.length : Int) < ((p ++ []).length : Int)) = False := by simp
theorem mid_lt_l {α : Type} (p : List α) (x : α) (q : List α) : ((p.length : Int) < (p.length : Int) + ((x :: q).length : Int)) = True := by
  apply eq_true; simp only [List.length_cons]; omega
theorem rd_mid (p q : List Int) (x : Int) : rd (p ++ x :: q) (p.length : Int) = x := by simp [rd]
theorem rd_mid2 {α : Type} (p : List α) (p' q : List Int) (x : Int) (h : p.length = p'.length) : rd (p' ++ x :: q) (p.length : Int) = x := by simp [rd, h]
theorem getD_mid {α : Type} (p q : List α) (x z : α) : (p ++ x :: q).getD ((p.length : Int)).toNat z = x := by simp
theorem getD_mid2 {α β : Type} (p : List α) (p' q : List β) (x z : β) (h : p.length = p'.length) : (p' ++ x :: q).getD ((p.length : Int)).toNat z = x := by simp [h]
theorem set_mid {α : Type} (p q : List α) (x y : α) : (p ++ x :: q).set ((p.length : Int)).toNat y = p ++ y :: q := by simp
theorem set_mid2 {α β : Type} (p : List α) (p' q : List β) (x y : β) (h : p.length = p'.length) : (p' ++ x :: q).set ((p.length : Int)).toNat y = p' ++ y :: q := by simp [h]
theorem wrap_mid {α : Type} (p : List α) (x : α) (h : p.length < 9223372036854775807) : wrap64 ((p.length : Int) + 1) = ((p ++ [x]).length : Int) := by
  unfold wrap64; simp only [List.length_append, List.length_singleton]; omega
theorem step_mid {α : Type} (p q : List α) (x : α) : p ++ x :: q = (p ++ [x]) ++ q := by simp
theorem wrap_id {x : Int} (h0 : -9223372036854775808 ≤ x) (h1 : x ≤ 9223372036854775807) : wrap64 x = x := by unfold wrap64; omega
theorem wf_i64 {x : Int} (h : (Lit.int .i64 x).wf = true) : -9223372036854775808 ≤ x ∧ x ≤ 9223372036854775807 := by
  have h1 : IntKind.i64.min = -9223372036854775808 := by decide +kernel
  have h2 : IntKind.i64.max = 9223372036854775807 := by decide +kernel
  simp only [Lit.wf, h1, h2, Bool.and_eq_true, decide_eq_true_eq] at h
  omega
theorem laws_eqIntS_l0 : ∀ (q p : List Int), (p ++ q).length < 9223372036854775807 → Ev (fun k => laws_eqIntS.l0 k (p ++ q) (p ++ q) (p.length : Int)) true
  | [], p, h => by
    refine ev_up ?_
    simp only [laws_eqIntS.l0, mid_end, ↓reduceIte]
    exact Ev.now _
  | x :: q, p, h => by
    have hp : p.length < 9223372036854775807 := by simp only [List.length_append, List.length_cons] at h; omega
    refine ev_up ?_
    simp only [laws_eqIntS.l0, mid_lt, mid_ge, rd_mid, wrap_mid p x hp, ↓reduceIte]
    rw [step_mid p q x] at h ⊢
    exact laws_eqIntS_l0 q (p ++ [x]) h
theorem laws_eqIntS_ev (l : List Int) (h : l.length < 9223372036854775807) : Ev (fun k => laws_eqIntS.f k l l) true := by
  simp only [laws_eqIntS.f, ↓reduceIte]
  simpa using laws_eqIntS_l0 l [] (by simpa using h)
theorem laws_markIntS_l0 : ∀ (q p : List Int) (m : Int), (p ++ q).length < 1000000000000000 → 0 ≤ m → m + q.length ≤ 1000000000000000 → ∃ q', q'.length = q.length ∧ Ev (fun k => laws_markIntS.l0 k (p ++ q) m (p.length : Int)) (m + q.length, p ++ q') ∧ Ev (fun k => laws_heldIntS.l0 k (p ++ q') m (p.length : Int)) (m + q.length)
  | [], p, m, h, h0, h1 => by
    refine ⟨[], rfl, ev_up ?_, ev_up ?_⟩
    · simp only [laws_markIntS.l0, mid_end, ↓reduceIte]
      exact ev_eq (Ev.now _) (by simp)
    · simp only [laws_heldIntS.l0, mid_end, ↓reduceIte]
      exact ev_eq (Ev.now _) (by simp)
  | x :: q, p, m, h, h0, h1 => by
    have hp : p.length < 9223372036854775807 := by simp only [List.length_append, List.length_cons] at h; omega
    have hm : wrap64 (m + 1) = m + 1 := wrap_id (by omega) (by simp only [List.length_cons] at h1; omega)
    obtain ⟨q', hl, hA, hB⟩ := laws_markIntS_l0 q (p ++ [m]) (m + 1) (by simp only [List.length_append, List.length_cons, List.length_nil] at h ⊢; omega) (by omega) (by simp only [List.length_cons] at h1; omega)
    have e : (m + 1) + (q.length : Int) = m + ((x :: q).length : Int) := by simp only [List.length_cons]; omega
    rw [e] at hA hB
    refine ⟨m :: q', by simp [hl], ev_up ?_, ev_up ?_⟩
    · simp only [laws_markIntS.l0, mid_lt, mid_ge, set_mid, wrap_mid p m hp, hm, ↓reduceIte]
      rw [step_mid p q m, step_mid p q' m]
      exact hA
    · simp only [laws_heldIntS.l0, mid_lt, mid_ge, rd_mid, wrap_mid p m hp, hm, ↓reduceIte]
      rw [step_mid p q' m]
      exact hB
/-- What is marked is held, and anew so. -/
theorem laws_markIntS_ev (l : List Int) (m : Int) (h : l.length < 1000000000000000) (h0 : 0 ≤ m) (h1 : m + l.length ≤ 1000000000000000) : ∃ l', l'.length = l.length ∧ Ev (fun k => laws_markIntS.f k l m) (m + l.length, l') ∧ Ev (fun k => laws_heldIntS.f k l' m) (m + l.length) := by
  obtain ⟨q', hl, hA, hB⟩ := laws_markIntS_l0 l [] m (by simpa using h) h0 h1
  exact ⟨q', hl, by simpa [laws_markIntS.f] using hA, by simpa [laws_heldIntS.f] using hB⟩
theorem laws_toIntS_l0 : ∀ (q p : List Int), (p ++ q).length < 9223372036854775807 → Ev (fun k => laws_toIntS.l0 k (p ++ q) (p ++ List.replicate q.length 0) (p.length : Int)) (p ++ q)
  | [], p, h => by
    refine ev_up ?_
    simp only [laws_toIntS.l0, mid_end, ↓reduceIte]
    exact ev_eq (Ev.now _) (by simp)
  | x :: q, p, h => by
    have hp : p.length < 9223372036854775807 := by simp only [List.length_append, List.length_cons] at h; omega
    refine ev_up ?_
    simp only [laws_toIntS.l0, List.length_cons, List.replicate_succ, mid_lt, mid_ge, rd_mid, set_mid, wrap_mid p x hp, ↓reduceIte]
    rw [step_mid p q x] at h ⊢
    rw [step_mid p (List.replicate q.length 0) x]
    exact laws_toIntS_l0 q (p ++ [x]) h
theorem laws_toIntS_ev (l : List Int) (h : l.length ≤ 1048576) : Ev (fun k => laws_toIntS.f k l) l := by
  have h0 : (0 ≤ (l.length : Int)) = True := by apply eq_true; omega
  have h1 : (((l.length : Int) : Int).toNat ≤ 35184372088832) = True := by apply eq_true; omega
  simp only [laws_toIntS.f, h0, h1, ↓reduceIte]
  simpa using laws_toIntS_l0 l [] (by simp; omega)
theorem l1In_eq (a lo hi : Int) : spec_l1In.f a lo hi = some (decide (lo ≤ a ∧ a ≤ hi)) := by
  by_cases h : lo ≤ a <;> simp [spec_l1In.f, h]
theorem spec_l1All_l0 (lo hi : Int) : ∀ (q p : List Int), (p ++ q).length < 9223372036854775807 → Ev (fun k => spec_l1All.l0 k lo hi (p ++ q) ((p ++ q).length : Int) (p.length : Int)) (q.all fun x => decide (lo ≤ x ∧ x ≤ hi))
  | [], p, h => by
    refine ev_up ?_
    simp only [spec_l1All.l0, mid_end, ↓reduceIte]
    exact Ev.now _
  | x :: q, p, h => by
    have hp : p.length < 9223372036854775807 := by simp only [List.length_append, List.length_cons] at h; omega
    refine ev_up ?_
    simp only [spec_l1All.l0, l1In_eq, Option.bind_some, mid_lt, mid_ge, rd_mid, wrap_mid p x hp, ↓reduceIte, List.all_cons]
    cases decide (lo ≤ x ∧ x ≤ hi) with
    | false => simpa using Ev.now _
    | true =>
      simp only [↓reduceIte, Bool.true_and]
      rw [step_mid p q x] at h ⊢
      exact spec_l1All_l0 lo hi q (p ++ [x]) h
theorem spec_l1All_ev (l : List Int) (lo hi : Int) (h : l.length < 9223372036854775807) : Ev (fun k => spec_l1All.f k l lo hi) (l.all fun x => decide (lo ≤ x ∧ x ≤ hi)) := by
  simpa [spec_l1All.f] using spec_l1All_l0 lo hi l [] (by simpa using h)
theorem l1Own_eq (l : List Int) (h : l.length < 17592186044416) : spec_l1Own.f l = some l := by
  simp [spec_l1Own.f, h]
theorem laws_markIntS_o : ∀ (q p : List Int) (m : Int), (p ++ q).length < 1000000000000000 → 0 ≤ m → m + q.length ≤ 1000000000000000 → ∃ q', Ev (fun k => laws_markIntS.l0 k (p ++ q) m (p.length : Int)) (m + q.length, q')
  | [], p, m, h, h0, h1 => by
    refine ⟨p, ev_up ?_⟩
    simp only [laws_markIntS.l0, mid_end, ↓reduceIte]
    exact ev_eq (Ev.now _) (by simp)
  | x :: q, p, m, h, h0, h1 => by
    have hp : p.length < 9223372036854775807 := by simp only [List.length_append, List.length_cons] at h; omega
    have hm : wrap64 (m + 1) = m + 1 := wrap_id (by omega) (by simp only [List.length_cons] at h1; omega)
    obtain ⟨q', hA⟩ := laws_markIntS_o q (p ++ [m]) (m + 1) (by simp only [List.length_append, List.length_cons, List.length_nil] at h ⊢; omega) (by omega) (by simp only [List.length_cons] at h1; omega)
    have e : (m + 1) + (q.length : Int) = m + ((x :: q).length : Int) := by simp only [List.length_cons]; omega
    rw [e] at hA
    refine ⟨q', ev_up ?_⟩
    simp only [laws_markIntS.l0, mid_lt, mid_ge, set_mid, wrap_mid p m hp, hm, ↓reduceIte]
    rw [step_mid p q m]
    exact hA
theorem laws_markIntS_only (l : List Int) (h : l.length < 100000000000000) : ∃ m' l', 0 ≤ m' ∧ Ev (fun k => laws_markIntS.f k l 1) (m', l') := by
  obtain ⟨q', hA⟩ := laws_markIntS_o l [] 1 (by simp; omega) (by omega) (by omega)
  exact ⟨1 + l.length, q', by omega, by simpa [laws_markIntS.f] using hA⟩
theorem eqLoan_self (a0 a1 a2 a3 : Int) : laws_eqLoan.f a0 a1 a2 a3 a0 a1 a2 a3 = some true := by simp [laws_eqLoan.f]
theorem laws_eqLoanS_l0 : ∀ (q p : List S41), (p ++ q).length < 9223372036854775807 → Ev (fun k => laws_eqLoanS.l0 k (p ++ q) (p ++ q) (p.length : Int)) true
  | [], p, h => by
    refine ev_up ?_
    simp only [laws_eqLoanS.l0, mid_end, ↓reduceIte]
    exact Ev.now _
  | x :: q, p, h => by
    have hp : p.length < 9223372036854775807 := by simp only [List.length_append, List.length_cons] at h; omega
    refine ev_up ?_
    simp only [laws_eqLoanS.l0, eqLoan_self, Option.bind_some, rd_T41, mid_lt, mid_ge, getD_mid, wrap_mid p x hp, ↓reduceIte]
    rw [step_mid p q x] at h ⊢
    exact laws_eqLoanS_l0 q (p ++ [x]) h
theorem laws_eqLoanS_ev (l : List S41) (h : l.length < 9223372036854775807) : Ev (fun k => laws_eqLoanS.f k l l) true := by
  simp only [laws_eqLoanS.f, ↓reduceIte]
  simpa using laws_eqLoanS_l0 l [] (by simpa using h)
theorem laws_markLoanS_l0 : ∀ (q p : List S41) (m : Int), (p ++ q).length < 1000000000000000 → 0 ≤ m → m + 4 * q.length ≤ 1000000000000000 → ∃ q', q'.length = q.length ∧ Ev (fun k => laws_markLoanS.l0 k (p ++ q) m (p.length : Int)) (m + 4 * q.length, p ++ q') ∧ Ev (fun k => laws_heldLoanS.l0 k (p ++ q') m (p.length : Int)) (m + 4 * q.length)
  | [], p, m, h, h0, h1 => by
    refine ⟨[], rfl, ev_up ?_, ev_up ?_⟩
    · simp only [laws_markLoanS.l0, mid_end, ↓reduceIte]
      exact ev_eq (Ev.now _) (by simp)
    · simp only [laws_heldLoanS.l0, mid_end, ↓reduceIte]
      exact ev_eq (Ev.now _) (by simp)
  | x :: q, p, m, h, h0, h1 => by
    have hp : p.length < 9223372036854775807 := by simp only [List.length_append, List.length_cons] at h; omega
    have hm1 : wrap64 (m + 1) = m + 1 := by rw [wrap_id (by omega) (by simp only [List.length_cons] at h1; omega)]
    have hm2 : wrap64 (m + 1 + 1) = m + 2 := by rw [wrap_id (by omega) (by simp only [List.length_cons] at h1; omega)]; omega
    have hm3 : wrap64 (m + 2 + 1) = m + 3 := by rw [wrap_id (by omega) (by simp only [List.length_cons] at h1; omega)]; omega
    have hm4 : wrap64 (m + 3 + 1) = m + 4 := by rw [wrap_id (by omega) (by simp only [List.length_cons] at h1; omega)]; omega
    obtain ⟨q', hl, hA, hB⟩ := laws_markLoanS_l0 q (p ++ [⟨m, m + 1, m + 2, m + 3⟩]) (m + 4) (by simp only [List.length_append, List.length_cons, List.length_nil] at h ⊢; omega) (by omega) (by simp only [List.length_cons] at h1; omega)
    have e : (m + 4) + 4 * (q.length : Int) = m + 4 * ((x :: q).length : Int) := by simp only [List.length_cons]; omega
    rw [e] at hA hB
    refine ⟨⟨m, m + 1, m + 2, m + 3⟩ :: q', by simp [hl], ev_up ?_, ev_up ?_⟩
    · simp only [laws_markLoanS.l0, rd_T41, mid_lt, mid_ge, set_mid, getD_mid, Option.bind_some, hm1, hm2, hm3, hm4, wrap_mid p (⟨m, m + 1, m + 2, m + 3⟩ : S41) hp, ↓reduceIte]
      rw [step_mid p q, step_mid p q']
      exact hA
    · simp only [laws_heldLoanS.l0, rd_T41, mid_lt, mid_ge, getD_mid, hm1, hm2, hm3, hm4, wrap_mid p (⟨m, m + 1, m + 2, m + 3⟩ : S41) hp, ↓reduceIte]
      rw [step_mid p q']
      exact hB
theorem laws_markLoanS_ev (l : List S41) (m : Int) (h : l.length < 100000000000000) (h0 : 0 ≤ m) (h1 : m ≤ 100000000000000) : ∃ m' l', 0 ≤ m' ∧ m' = m + 4 * l.length ∧ l'.length = l.length ∧ Ev (fun k => laws_markLoanS.f k l m) (m', l') ∧ Ev (fun k => laws_heldLoanS.f k l' m) m' := by
  obtain ⟨q', hl, hA, hB⟩ := laws_markLoanS_l0 l [] m (by simp; omega) h0 (by omega)
  exact ⟨m + 4 * l.length, q', by omega, rfl, hl, by simpa [laws_markLoanS.f] using hA, by simpa [laws_heldLoanS.f] using hB⟩
theorem laws_markLoanS_o : ∀ (q p : List S41) (m : Int), (p ++ q).length < 1000000000000000 → 0 ≤ m → m + 4 * q.length ≤ 1000000000000000 → ∃ q', Ev (fun k => laws_markLoanS.l0 k (p ++ q) m (p.length : Int)) (m + 4 * q.length, q')
  | [], p, m, h, h0, h1 => by
    refine ⟨p, ev_up ?_⟩
    simp only [laws_markLoanS.l0, mid_end, ↓reduceIte]
    exact ev_eq (Ev.now _) (by simp)
  | x :: q, p, m, h, h0, h1 => by
    have hp : p.length < 9223372036854775807 := by simp only [List.length_append, List.length_cons] at h; omega
    have hm1 : wrap64 (m + 1) = m + 1 := by rw [wrap_id (by omega) (by simp only [List.length_cons] at h1; omega)]
    have hm2 : wrap64 (m + 1 + 1) = m + 2 := by rw [wrap_id (by omega) (by simp only [List.length_cons] at h1; omega)]; omega
    have hm3 : wrap64 (m + 2 + 1) = m + 3 := by rw [wrap_id (by omega) (by simp only [List.length_cons] at h1; omega)]; omega
    have hm4 : wrap64 (m + 3 + 1) = m + 4 := by rw [wrap_id (by omega) (by simp only [List.length_cons] at h1; omega)]; omega
    obtain ⟨q', hA⟩ := laws_markLoanS_o q (p ++ [⟨m, m + 1, m + 2, m + 3⟩]) (m + 4) (by simp only [List.length_append, List.length_cons, List.length_nil] at h ⊢; omega) (by omega) (by simp only [List.length_cons] at h1; omega)
    have e : (m + 4) + 4 * (q.length : Int) = m + 4 * ((x :: q).length : Int) := by simp only [List.length_cons]; omega
    rw [e] at hA
    refine ⟨q', ev_up ?_⟩
    simp only [laws_markLoanS.l0, rd_T41, mid_lt, mid_ge, set_mid, getD_mid, Option.bind_some, hm1, hm2, hm3, hm4, wrap_mid p (⟨m, m + 1, m + 2, m + 3⟩ : S41) hp, ↓reduceIte]
    rw [step_mid p q]
    exact hA
theorem laws_markLoanS_only (l : List S41) (m : Int) (h : l.length < 100000000000000) (h0 : 0 ≤ m) (h1 : m ≤ 100000000000000) : ∃ m' l', 0 ≤ m' ∧ m' = m + 4 * l.length ∧ Ev (fun k => laws_markLoanS.f k l m) (m', l') := by
  obtain ⟨q', hA⟩ := laws_markLoanS_o l [] m (by simp; omega) (by omega) (by omega)
  exact ⟨m + 4 * l.length, q', by omega, rfl, by simpa [laws_markLoanS.f] using hA⟩
def toLoan (x : S39) : S41 := ⟨x.f0, x.f1, x.f2, x.f3⟩
theorem laws_toLoanS_l0 : ∀ (q p : List S39), (p ++ q).length < 9223372036854775807 → Ev (fun k => laws_toLoanS.l0 k (p ++ q) (p.map toLoan ++ List.replicate q.length z41) (p.length : Int)) ((p ++ q).map toLoan)
  | [], p, h => by
    refine ev_up ?_
    simp only [laws_toLoanS.l0, mid_end, ↓reduceIte]
    exact ev_eq (Ev.now _) (by simp)
  | x :: q, p, h => by
    have hp : p.length < 9223372036854775807 := by simp only [List.length_append, List.length_cons] at h; omega
    have hl : p.length = (p.map toLoan).length := by simp
    refine ev_up ?_
    simp only [laws_toLoanS.l0, laws_toLoan.f, Option.bind_some, rd_T39, List.length_cons, List.replicate_succ, mid_lt, mid_lt2 p _ _ _ hl, mid_ge, getD_mid, set_mid2 p _ _ _ _ hl, wrap_mid p x hp, ↓reduceIte]
    rw [step_mid p q x] at h ⊢
    have e : p.map toLoan ++ (⟨x.f0, x.f1, x.f2, x.f3⟩ : S41) :: List.replicate q.length z41 = (p ++ [x]).map toLoan ++ List.replicate q.length z41 := by simp [toLoan]
    rw [e]
    exact laws_toLoanS_l0 q (p ++ [x]) h
theorem laws_toLoanS_ev (l : List S39) (h : l.length ≤ 1048576) : Ev (fun k => laws_toLoanS.f k l) (l.map toLoan) := by
  have h0 : (0 ≤ (l.length : Int)) = True := by apply eq_true; omega
  have h1 : (((l.length : Int) : Int).toNat ≤ 8796093022208) = True := by apply eq_true; omega
  simp only [laws_toLoanS.f, h0, h1, ↓reduceIte]
  simpa using laws_toLoanS_l0 l [] (by simp; omega)
theorem szLoanS_eq (l : List S39) (n : Int) (h : l.length ≤ 9223372036854775807) (h0 : 0 ≤ n) (h1 : n ≤ 1048576) : laws_szLoanS.f l n = some (if (l.length : Int) ≤ n then n - (l.length : Int) else -1) := by
  have hw : wrap64 (n - (l.length : Int)) = n - (l.length : Int) := wrap_id (by omega) (by omega)
  unfold laws_szLoanS.f
  rw [hw]
  by_cases hl : (l.length : Int) ≤ n
  · rw [if_neg (by omega), if_pos hl]
  · rw [if_pos (by omega), if_neg hl]
def okLoan (x : S41) : Bool := decide (1 ≤ x.f0 ∧ x.f0 ≤ 99 ∧ 1 ≤ x.f1 ∧ x.f1 ≤ 7 ∧ 1 ≤ x.f2 ∧ x.f2 ≤ 99 ∧ 0 ≤ x.f3 ∧ x.f3 ≤ 999)
def same (x y : S41) : Bool := decide (y.f0 = x.f0 ∧ y.f1 = x.f1 ∧ y.f3 = x.f3)
/-- Where the loans have one like x, counted from i; -1 for nowhere. -/
def sameV (x : S41) (i : Int) : List S41 → Int
  | [] => -1
  | y :: q => if same x y = true then i else sameV x (i + 1) q
theorem same_self (x : S41) : same x x = true := by simp [same]
theorem sameV_none (x : S41) : ∀ (p q : List S41) (i : Int), p.any (same x) = false → sameV x i (p ++ x :: q) = i + p.length
  | [], q, i, h => by simp [sameV, same_self]
  | y :: p, q, i, h => by
    simp only [List.any_cons, Bool.or_eq_false_iff] at h
    simp only [List.cons_append, sameV, h.1, Bool.false_eq_true, ↓reduceIte, sameV_none x p q (i + 1) h.2, List.length_cons]
    omega
theorem sameV_some (x : S41) : ∀ (p q : List S41) (i : Int), p.any (same x) = true → i ≤ sameV x i (p ++ q) ∧ sameV x i (p ++ q) < i + p.length
  | [], q, i, h => by simp at h
  | y :: p, q, i, h => by
    simp only [List.cons_append, sameV, List.length_cons]
    cases hy : same x y
    · simp only [List.any_cons, hy, Bool.false_or] at h
      have := sameV_some x p q (i + 1) h
      simp only [Bool.false_eq_true, ↓reduceIte]
      omega
    · simp only [↓reduceIte]; omega
theorem sameV_neg (x : S41) : ∀ (p : List S41) (i : Int), p.any (same x) = false → sameV x i p = -1
  | [], i, h => rfl
  | y :: p, i, h => by
    simp only [List.any_cons, Bool.or_eq_false_iff] at h
    simp only [sameV, h.1, Bool.false_eq_true, ↓reduceIte, sameV_neg x p (i + 1) h.2]
def distinct (p : List S41) : List S41 → Bool
  | [] => true
  | x :: q => okLoan x && (!p.any (same x) && distinct (p ++ [x]) q)
def goodShop (st : List Int) (l : List S41) : Bool := decide (st.length = 8) && ((st.all fun x => decide (0 ≤ x ∧ x ≤ 999)) && (decide (rd st 0 = 0) && (decide (l.length ≤ 20) && distinct [] l)))
theorem goodShop_len {st : List Int} {l : List S41} (h : goodShop st l = true) : st.length = 8 ∧ l.length ≤ 20 := by
  unfold goodShop at h; simp only [Bool.and_eq_true, decide_eq_true_eq] at h; exact ⟨h.1, h.2.2.2.1⟩
theorem distinct_ok : ∀ (q p : List S41), distinct p q = true → ∀ x ∈ q, okLoan x = true
  | [], p, h => by simp
  | y :: q, p, h => by
    simp only [distinct, Bool.and_eq_true] at h
    intro x hx
    rcases List.mem_cons.1 hx with rfl | hx
    · exact h.1
    · exact distinct_ok q _ h.2.2 x hx
theorem goodShop_ok {st : List Int} {l : List S41} (h : goodShop st l = true) : ∀ x ∈ l, okLoan x = true := by
  unfold goodShop at h; simp only [Bool.and_eq_true] at h; exact distinct_ok l [] h.2.2.2.2
theorem okLoan_kind {x : S41} (h : okLoan x = true) : 1 ≤ x.f1 ∧ x.f1 ≤ 7 := by
  unfold okLoan at h; simp only [decide_eq_true_eq] at h; omega
theorem psLoan_eq (a b c d : Int) : spec_psLoan.f a b c d = some (okLoan ⟨a, b, c, d⟩) := by
  simp only [spec_psLoan.f, okLoan, l1In_eq, Option.bind_some]
  repeat' split
  all_goals
    simp only [Option.some.injEq]
    rw [Bool.eq_iff_iff]
    simp_all
    try omega
theorem isDay_eq (a : Int) : impl_isDay.f a = some (decide (0 ≤ a ∧ a ≤ 999)) := by
  by_cases h : 0 ≤ a <;> simp [impl_isDay.f, h]
theorem isLoan_eq (a b c d : Int) : impl_isLoan.f a b c d = some (okLoan ⟨a, b, c, d⟩) := by
  simp only [impl_isLoan.f, okLoan, isDay_eq, Option.bind_some]
  repeat' split
  all_goals
    simp only [Option.some.injEq]
    rw [Bool.eq_iff_iff]
    simp_all
    try omega
theorem spec_psSame_l0 (x : S41) : ∀ (q p : List S41), (p ++ q).length < 9223372036854775807 → Ev (fun k => spec_psSame.l0 k (p ++ q) ((p ++ q).length : Int) (p.length : Int) x.f0 x.f1 x.f2 x.f3) (sameV x (p.length : Int) q)
  | [], p, h => by
    refine ev_up ?_
    simp only [spec_psSame.l0, mid_end, ↓reduceIte]
    exact Ev.now _
  | y :: q, p, h => by
    have hp : p.length < 9223372036854775807 := by simp only [List.length_append, List.length_cons] at h; omega
    have ih := spec_psSame_l0 x q (p ++ [y]) (by rw [step_mid p q y] at h; exact h)
    have e : ((p ++ [y]).length : Int) = (p.length : Int) + 1 := by simp
    rw [e] at ih
    rw [← step_mid p q y] at ih
    refine ev_up ?_
    simp only [spec_psSame.l0, rd_T41, mid_lt, mid_ge, getD_mid, wrap_mid p y hp, e, ↓reduceIte, sameV, same]
    by_cases h0 : y.f0 = x.f0
    · by_cases h1 : y.f1 = x.f1
      · by_cases h2 : y.f3 = x.f3
        · simp only [h0, h1, h2, and_self, decide_true, ↓reduceIte]
          exact Ev.now _
        · simp only [h0, h1, h2, and_false, decide_false, Bool.false_eq_true, ↓reduceIte]
          exact ih
      · simp only [h0, h1, false_and, and_false, decide_false, Bool.false_eq_true, ↓reduceIte]
        exact ih
    · simp only [h0, false_and, decide_false, Bool.false_eq_true, ↓reduceIte]
      exact ih
theorem spec_psSame_ev (st : List Int) (l : List S41) (x : S41) (h : l.length < 9223372036854775807) : Ev (fun k => spec_psSame.f k st l x.f0 x.f1 x.f2 x.f3) (sameV x 0 l) := by
  simpa [spec_psSame.f] using spec_psSame_l0 x l [] (by simpa using h)
theorem impl_sameLoan_l0 (x : S41) : ∀ (q p : List S41), (p ++ q).length < 9223372036854775807 → Ev (fun k => impl_sameLoan.l0 k (p ++ q) ((p ++ q).length : Int) (p.length : Int) x.f0 x.f1 x.f2 x.f3) (sameV x (p.length : Int) q)
  | [], p, h => by
    refine ev_up ?_
    simp only [impl_sameLoan.l0, mid_end, ↓reduceIte]
    exact Ev.now _
  | y :: q, p, h => by
    have hp : p.length < 9223372036854775807 := by simp only [List.length_append, List.length_cons] at h; omega
    have ih := impl_sameLoan_l0 x q (p ++ [y]) (by rw [step_mid p q y] at h; exact h)
    have e : ((p ++ [y]).length : Int) = (p.length : Int) + 1 := by simp
    rw [e] at ih
    rw [← step_mid p q y] at ih
    refine ev_up ?_
    simp only [impl_sameLoan.l0, rd_T41, mid_lt, mid_ge, getD_mid, wrap_mid p y hp, e, ↓reduceIte, sameV, same]
    by_cases h0 : x.f0 = y.f0
    · by_cases h1 : x.f1 = y.f1
      · by_cases h2 : x.f3 = y.f3
        · simp only [h0, h1, h2, and_self, decide_true, ↓reduceIte]
          exact Ev.now _
        · have h2' : ¬ y.f3 = x.f3 := fun h => h2 h.symm
          simp only [h2, h2', and_false, decide_false, Bool.false_eq_true, ↓reduceIte, ite_self]
          exact ih
      · have h1' : ¬ y.f1 = x.f1 := fun h => h1 h.symm
        simp only [h1, h1', false_and, and_false, decide_false, Bool.false_eq_true, ↓reduceIte, ite_self]
        exact ih
    · have h0' : ¬ y.f0 = x.f0 := fun h => h0 h.symm
      simp only [h0, h0', false_and, decide_false, Bool.false_eq_true, ↓reduceIte]
      exact ih
theorem impl_sameLoan_ev (l : List S41) (x : S41) (h : l.length < 9223372036854775807) : Ev (fun k => impl_sameLoan.f k l x.f0 x.f1 x.f2 x.f3) (sameV x 0 l) := by
  simpa [impl_sameLoan.f] using impl_sameLoan_l0 x l [] (by simpa using h)
theorem spec_psGood_l0 (st : List Int) (hst : st.length < 9223372036854775807) : ∀ (q p : List S41), (p ++ q).length < 9223372036854775807 → Ev (fun k => spec_psGood.l0 k (p ++ q) ((p ++ q).length : Int) (p.length : Int) st (p ++ q)) (distinct p q && (decide (st.length = 8) && ((st.all fun x => decide (0 ≤ x ∧ x ≤ 999)) && (decide (rd st 0 = 0) && decide ((p ++ q).length ≤ 20)))))
  | [], p, h => by
    refine ev_up ?_
    simp only [spec_psGood.l0, mid_end, ↓reduceIte, distinct, Bool.true_and]
    simp only [List.append_nil]
    by_cases h8 : st.length = 8
    · have h8' : ((st.length : Int) = 8) = True := by apply eq_true; omega
      have h0 : ((0 : Int) < (st.length : Int)) = True := by apply eq_true; omega
      simp only [h8, h8', ↓reduceIte, decide_true, Bool.true_and]
      refine ev_bind (spec_l1All_ev st 0 999 hst) ?_
      cases st.all fun x => decide (0 ≤ x ∧ x ≤ 999)
      · simpa using Ev.now _
      · simp only [h0, ↓reduceIte, Bool.true_and]
        by_cases hr : rd st 0 = 0
        · simp only [hr, ↓reduceIte, decide_true, Bool.true_and]
          exact ev_eq (Ev.now _) (by simp; omega)
        · simp only [hr, ↓reduceIte, decide_false, Bool.false_and]
          exact Ev.now _
    · have h8' : ((st.length : Int) = 8) = False := by apply eq_false; omega
      simp only [h8, h8', ↓reduceIte, decide_false, Bool.false_and]
      exact Ev.now _
  | x :: q, p, h => by
    have hp : p.length < 9223372036854775807 := by simp only [List.length_append, List.length_cons] at h; omega
    refine ev_up ?_
    simp only [spec_psGood.l0, psLoan_eq, Option.bind_some, rd_T41, mid_lt, mid_ge, getD_mid, wrap_mid p x hp, ↓reduceIte, distinct]
    have ex : (⟨x.f0, x.f1, x.f2, x.f3⟩ : S41) = x := rfl
    rw [ex]
    cases okLoan x with
    | false => simpa using Ev.now _
    | true =>
      simp only [↓reduceIte, Bool.true_and]
      refine ev_bind (spec_psSame_ev st (p ++ x :: q) x h) ?_
      cases ha : p.any (same x)
      · have e : sameV x 0 (p ++ x :: q) = (p.length : Int) := by rw [sameV_none x p q 0 ha]; omega
        simp only [e, ↓reduceIte, Bool.not_false, Bool.true_and]
        rw [step_mid p q x] at h ⊢
        exact spec_psGood_l0 st hst q (p ++ [x]) h
      · have e : ¬ sameV x 0 (p ++ x :: q) = (p.length : Int) := by have := (sameV_some x p (x :: q) 0 ha).2; omega
        simp only [e, ↓reduceIte, Bool.not_true, Bool.false_and]
        exact Ev.now _
theorem spec_psGood_ev (st : List Int) (l : List S41) (hst : st.length < 9223372036854775807) (h : l.length < 9223372036854775807) : Ev (fun k => spec_psGood.f k st l) (goodShop st l) := by
  have := spec_psGood_l0 st hst l [] (by simpa using h)
  simp only [spec_psGood.f]
  refine ev_eq (by simpa using this) ?_
  unfold goodShop
  cases distinct [] l <;> simp
theorem impl_IsShop_l1 (st : List Int) : ∀ (q p : List S41), (p ++ q).length < 9223372036854775807 → Ev (fun k => impl_IsShop.l1 k (p ++ q) ((p ++ q).length : Int) (p.length : Int) st (p ++ q)) (distinct p q)
  | [], p, h => by
    refine ev_up ?_
    simp only [impl_IsShop.l1, mid_end, ↓reduceIte, distinct]
    exact Ev.now _
  | x :: q, p, h => by
    have hp : p.length < 9223372036854775807 := by simp only [List.length_append, List.length_cons] at h; omega
    have hle : ((p.length : Int) ≤ ((p ++ x :: q).length : Int)) = True := by apply eq_true; simp only [List.length_append]; omega
    have ht : (p ++ x :: q).take ((p.length : Int)).toNat = p := by simp
    refine ev_up ?_
    simp only [impl_IsShop.l1, isLoan_eq, Option.bind_some, rd_T41, mid_lt, mid_ge, getD_mid, wrap_mid p x hp, hle, ht, ↓reduceIte, distinct]
    have ex : (⟨x.f0, x.f1, x.f2, x.f3⟩ : S41) = x := rfl
    rw [ex]
    cases okLoan x with
    | false => simpa using Ev.now _
    | true =>
      simp only [↓reduceIte, Bool.true_and]
      refine ev_bind (impl_sameLoan_ev p x (by omega)) ?_
      cases ha : p.any (same x)
      · rw [sameV_neg x p 0 ha]
        simp only [ge_iff_le, Int.reduceNeg, Int.reduceLE, ↓reduceIte, Bool.not_false, Bool.true_and]
        rw [step_mid p q x] at h ⊢
        exact impl_IsShop_l1 st q (p ++ [x]) h
      · have e : sameV x 0 p ≥ 0 := by have := (sameV_some x p [] 0 ha).1; simpa using this
        simp only [e, ↓reduceIte, Bool.not_true, Bool.false_and]
        exact Ev.now _
theorem impl_IsShop_l0 (st : List Int) (l : List S41) (hl : l.length < 9223372036854775807) : ∀ (q p : List Int), (p ++ q).length < 9223372036854775807 → Ev (fun k => impl_IsShop.l0 k (p ++ q) ((p ++ q).length : Int) (p.length : Int) st l) ((q.all fun x => decide (0 ≤ x ∧ x ≤ 999)) && distinct [] l)
  | [], p, h => by
    refine ev_up ?_
    simp only [impl_IsShop.l0, mid_end, ↓reduceIte, List.all_nil, Bool.true_and]
    simpa using impl_IsShop_l1 st l [] (by simpa using hl)
  | x :: q, p, h => by
    have hp : p.length < 9223372036854775807 := by simp only [List.length_append, List.length_cons] at h; omega
    refine ev_up ?_
    simp only [impl_IsShop.l0, mid_lt, mid_ge, rd_mid, wrap_mid p x hp, ↓reduceIte, List.all_cons]
    by_cases h0 : x < 0
    · have e : decide (0 ≤ x ∧ x ≤ 999) = false := by rw [decide_eq_false_iff_not]; omega
      simp only [h0, e, Bool.false_and, ↓reduceIte]
      exact Ev.now _
    · by_cases h1 : x > 999
      · have e : decide (0 ≤ x ∧ x ≤ 999) = false := by rw [decide_eq_false_iff_not]; omega
        simp only [h0, h1, e, Bool.false_and, ↓reduceIte]
        exact Ev.now _
      · have e : decide (0 ≤ x ∧ x ≤ 999) = true := by rw [decide_eq_true_iff]; omega
        simp only [h0, h1, e, Bool.true_and, ↓reduceIte]
        rw [step_mid p q x] at h ⊢
        exact impl_IsShop_l0 st l hl q (p ++ [x]) h
theorem impl_IsShop_ev (st : List Int) (l : List S41) (hst : st.length < 9223372036854775807) (h : l.length < 9223372036854775807) : Ev (fun k => impl_IsShop.f k st l) (goodShop st l) := by
  have fin : Ev (fun k => impl_IsShop.j0 k true st l) false := by
    refine ev_up ?_
    simp only [impl_IsShop.j0, ↓reduceIte]
    exact Ev.now _
  unfold goodShop
  simp only [impl_IsShop.f]
  by_cases h8 : st.length = 8
  · have h8' : ((st.length : Int) = 8) = True := by apply eq_true; omega
    have h0 : ((0 : Int) < (st.length : Int)) = True := by apply eq_true; omega
    by_cases hr : rd st 0 = 0
    · by_cases hl : l.length ≤ 20
      · have hl' : decide ((l.length : Int) > 20) = false := by rw [decide_eq_false_iff_not]; omega
        simp only [h8, h8', h0, hr, hl, hl', ↓reduceIte, decide_true, Bool.true_and]
        refine ev_up ?_
        simp only [impl_IsShop.j0, Bool.false_eq_true, ↓reduceIte]
        simpa using impl_IsShop_l0 st l h st [] (by simpa using hst)
      · have hl' : decide ((l.length : Int) > 20) = true := by rw [decide_eq_true_iff]; omega
        simp only [h8, h8', h0, hr, hl, hl', ↓reduceIte, decide_true, decide_false, Bool.true_and, Bool.false_and, Bool.and_false]
        exact fin
    · simp only [h8, h8', h0, hr, ↓reduceIte, decide_true, decide_false, Bool.true_and, Bool.false_and, Bool.and_false]
      exact fin
  · have h8' : ((st.length : Int) = 8) = False := by apply eq_false; omega
    simp only [h8, h8', ↓reduceIte, decide_false, Bool.false_and]
    exact fin
theorem psDay_eq (a : Int) : spec_psDay.f a = some (decide (0 ≤ a ∧ a ≤ 999)) := by simp [spec_psDay.f, l1In_eq]
def total (v : List Int) : List S41 → List Int
  | [] => v
  | x :: q => total (v.set x.f1.toNat (wrap64 (rd v x.f1 + x.f2))) q
theorem total_len : ∀ (q : List S41) (v : List Int), (total v q).length = v.length
  | [], v => rfl
  | x :: q, v => by rw [total, total_len q]; simp
def pickV (f : S41 → Bool) (i : Nat) : List S41 → List Int
  | [] => []
  | x :: q => if f x = true then (i : Int) :: pickV f (i + 1) q else pickV f (i + 1) q
theorem pickV_len (f : S41 → Bool) : ∀ (q : List S41) (i : Nat), (pickV f i q).length ≤ q.length
  | [], i => by simp [pickV]
  | x :: q, i => by simp only [pickV]; have := pickV_len f q (i + 1); split <;> simp <;> omega
def feeV (m d c s : Int) : List S41 → Int
  | [] => s
  | x :: q => feeV m d c (if x.f0 = m ∧ x.f3 < d then wrap64 (s + wrap64 (wrap64 (wrap64 (d - x.f3) * x.f2) * c)) else s) q
def rTotalParts (st : List Int) (l : List S41) : List Int × Bool := if goodShop st l = true then (total st l, true) else ([], false)
def rLoansOf (st : List Int) (l : List S41) (m : Int) : List Int × Bool := if goodShop st l = true ∧ 1 ≤ m ∧ m ≤ 99 then (pickV (fun x => decide (x.f0 = m)) 0 l, true) else ([], false)
def rOverdueLoans (st : List Int) (l : List S41) (d : Int) : List Int × Bool := if goodShop st l = true ∧ 0 ≤ d ∧ d ≤ 999 then (pickV (fun x => decide (x.f3 < d)) 0 l, true) else ([], false)
def rFeeOf (st : List Int) (l : List S41) (m d c : Int) : Int × Bool := if goodShop st l = true ∧ (1 ≤ m ∧ m ≤ 99) ∧ (0 ≤ d ∧ d ≤ 999) ∧ 0 ≤ c ∧ c ≤ 100 then (feeV m d c 0 l, true) else (0, false)
def shopIf (st : List Int) (l : List S41) : List Int × List S41 × Bool := if goodShop st l = true then (st, l, true) else ([], [], false)
def rBuyParts (st : List Int) (l : List S41) (k n : Int) : List Int × List S41 × Bool := if goodShop st l = true ∧ (1 ≤ k ∧ k ≤ 7) ∧ 1 ≤ n ∧ n ≤ 99 then shopIf (st.set k.toNat (wrap64 (rd st k + n))) l else ([], [], false)
theorem rTotalParts_len (st : List Int) (l : List S41) : (rTotalParts st l).1.length ≤ 10000000 := by
  unfold rTotalParts; split
  · rename_i h; have := (goodShop_len h).1; simp [total_len]; omega
  · simp
theorem rLoansOf_len (st : List Int) (l : List S41) (m : Int) : (rLoansOf st l m).1.length ≤ 10000000 := by
  unfold rLoansOf; split
  · rename_i h; have := (goodShop_len h.1).2; have := pickV_len (fun x => decide (x.f0 = m)) l 0; simp; omega
  · simp
theorem rOverdueLoans_len (st : List Int) (l : List S41) (m : Int) : (rOverdueLoans st l m).1.length ≤ 10000000 := by
  unfold rOverdueLoans; split
  · rename_i h; have := (goodShop_len h.1).2; have := pickV_len (fun x => decide (x.f3 < m)) l 0; simp; omega
  · simp
theorem shopIf_len (st : List Int) (l : List S41) : (shopIf st l).1.length ≤ 10000000 ∧ (shopIf st l).2.1.length ≤ 10000000 := by
  unfold shopIf; split
  · rename_i h; have := goodShop_len h; simp; omega
  · simp
theorem rBuyParts_len (st : List Int) (l : List S41) (k n : Int) : (rBuyParts st l k n).1.length ≤ 10000000 ∧ (rBuyParts st l k n).2.1.length ≤ 10000000 := by
  unfold rBuyParts; split
  · exact shopIf_len _ _
  · simp
theorem psOwn_eq (st : List Int) (l : List S41) (hst : st.length ≤ 1048576) (h : l.length ≤ 1048576) : spec_psOwn.f st l = some (st, l) := by
  have h1 : (([] : List S41).length + l.length < 4398046511104) = True := by apply eq_true; simp; omega
  simp only [spec_psOwn.f, l1Own_eq st (by omega), Option.bind_some, h1, ↓reduceIte, List.nil_append]
theorem copyShop_eq (st : List Int) (l : List S41) (hst : st.length ≤ 1048576) (h : l.length ≤ 1048576) : impl_copyShop.f st l = some (st, l) := by
  have h1 : (([] : List S41).length + l.length < 4398046511104) = True := by apply eq_true; simp; omega
  have h2 : (([] : List Int).length + st.length < 17592186044416) = True := by apply eq_true; simp; omega
  simp only [impl_copyShop.f, Option.bind_some, h1, h2, ↓reduceIte, List.nil_append]
theorem impl_validShop_ev (st : List Int) (l : List S41) (hst : st.length ≤ 1048576) (h : l.length ≤ 1048576) : Ev (fun k => impl_validShop.f k st l) (shopIf st l) := by
  unfold shopIf
  simp only [impl_validShop.f]
  refine ev_bind (impl_IsShop_ev st l (by omega) (by omega)) ?_
  split <;> exact Ev.now _
theorem laws_toShop_ev (st : List Int) (l : List S39) (hst : st.length ≤ 1048576) (h : l.length ≤ 1048576) : Ev (fun k => laws_toShop.f k st l) (st, l.map toLoan) := by
  simp only [laws_toShop.f]
  exact ev_bind (laws_toIntS_ev st hst) (ev_bind (laws_toLoanS_ev l h) (Ev.now _))
theorem laws_eqShop_ev (st : List Int) (l : List S41) (hst : st.length < 9223372036854775807) (h : l.length < 9223372036854775807) : Ev (fun k => laws_eqShop.f k st l st l) true := by
  simp only [laws_eqShop.f]
  refine ev_bind (laws_eqIntS_ev st hst) ?_
  simp only [↓reduceIte]
  refine ev_bind (laws_eqLoanS_ev l h) ?_
  simpa using Ev.now _
theorem laws_markShop_only (st : List Int) (l : List S41) (hst : st.length ≤ 10000000) (h : l.length ≤ 10000000) : ∃ m' l', 0 ≤ m' ∧ Ev (fun k => laws_markShop.f k st l 1) (m', l') := by
  obtain ⟨q, hA⟩ := laws_markIntS_o st [] 1 (by simp; omega) (by omega) (by omega)
  have hA' : Ev (fun k => laws_markIntS.f k st 1) (1 + (st.length : Int), q) := by simpa [laws_markIntS.f] using hA
  obtain ⟨m', l', h2, h3, h4⟩ := laws_markLoanS_only l (1 + (st.length : Int)) (by omega) (by omega) (by omega)
  refine ⟨m', (q, l'), h2, ?_⟩
  simp only [laws_markShop.f]
  exact ev_bind hA' (ev_bind h4 (Ev.now _))
theorem laws_markShop_ev (st : List Int) (l : List S41) (hst : st.length ≤ 10000000) (h : l.length ≤ 10000000) : ∃ m' a b, 0 ≤ m' ∧ Ev (fun k => laws_markShop.f k st l 1) (m', a, b) ∧ Ev (fun k => laws_heldShop.f k a b 1) m' := by
  obtain ⟨q, hl, hA, hB⟩ := laws_markIntS_ev st 1 (by omega) (by omega) (by omega)
  obtain ⟨m', l', h2, h3, h4, h5, h6⟩ := laws_markLoanS_ev l (1 + (st.length : Int)) (by omega) (by omega) (by omega)
  refine ⟨m', q, l', h2, ?_, ?_⟩
  · simp only [laws_markShop.f]
    exact ev_bind hA (ev_bind h5 (Ev.now _))
  · simp only [laws_heldShop.f]
    refine ev_bind hB ?_
    have g : ¬ (1 + (st.length : Int) < 0) := by omega
    simp only [g, ↓reduceIte]
    refine ev_bind h6 ?_
    have g2 : ¬ (m' < 0) := by omega
    simp only [g2, ↓reduceIte]
    exact Ev.now _
theorem szIntS_eq (l : List Int) (n : Int) (h : l.length ≤ 9223372036854775807) (h0 : 0 ≤ n) (h1 : n ≤ 1048576) : laws_szIntS.f l n = some (if (l.length : Int) ≤ n then n - (l.length : Int) else -1) := by
  have hw : wrap64 (n - (l.length : Int)) = n - (l.length : Int) := wrap_id (by omega) (by omega)
  unfold laws_szIntS.f
  rw [hw]
  by_cases hl : (l.length : Int) ≤ n
  · rw [if_neg (by omega), if_pos hl]
  · rw [if_pos (by omega), if_neg hl]
theorem szShop_eq (st : List Int) (l : List S39) (hst : st.length ≤ 9223372036854775807) (h : l.length ≤ 9223372036854775807) : laws_szShop.f st l 1048576 = some (if st.length + l.length ≤ 1048576 then 1048576 - (st.length : Int) - (l.length : Int) else -1) := by
  simp only [laws_szShop.f, szIntS_eq st 1048576 hst (by omega) (by omega), Option.bind_some]
  by_cases h0 : (st.length : Int) ≤ 1048576
  · have g : ¬ (1048576 - (st.length : Int) < 0) := by omega
    simp only [h0, g, ↓reduceIte, szLoanS_eq l (1048576 - (st.length : Int)) h (by omega) (by omega), Option.bind_some]
    by_cases h1 : (l.length : Int) ≤ 1048576 - (st.length : Int)
    · have g1 : ¬ (1048576 - (st.length : Int) - (l.length : Int) < 0) := by omega
      have g2 : st.length + l.length ≤ 1048576 := by omega
      simp only [h1, g1, g2, ↓reduceIte]
    · have g2 : ¬ st.length + l.length ≤ 1048576 := by omega
      have g3 : (-1 : Int) < 0 := by omega
      simp only [h1, g2, g3, ↓reduceIte]
  · have g2 : ¬ st.length + l.length ≤ 1048576 := by omega
    have g3 : (-1 : Int) < 0 := by omega
    simp only [h0, g2, g3, ↓reduceIte]
theorem sameV_lt (x : S41) (l : List S41) (h : sameV x 0 l ≥ 0) : sameV x 0 l < (l.length : Int) := by
  cases ha : l.any (same x)
  · have := sameV_neg x l 0 ha; omega
  · have := (sameV_some x l [] 0 ha).2; simp only [List.append_nil] at this; omega
def moreLoan (x : S41) (c : Int) : S41 := ⟨x.f0, x.f1, wrap64 (x.f2 + c), x.f3⟩
def rLendParts (st : List Int) (l : List S41) (x : S41) : List Int × List S41 × Bool :=
  if goodShop st l = true ∧ okLoan x = true ∧ ¬ rd st x.f1 < x.f2 then (if sameV x 0 l ≥ 0 then shopIf (st.set x.f1.toNat (wrap64 (rd st x.f1 - x.f2))) (l.set (sameV x 0 l).toNat (moreLoan (rd_T41 l (sameV x 0 l)) x.f2)) else shopIf (st.set x.f1.toNat (wrap64 (rd st x.f1 - x.f2))) (l ++ [x])) else ([], [], false)
theorem rLendParts_len (st : List Int) (l : List S41) (x : S41) : (rLendParts st l x).1.length ≤ 10000000 ∧ (rLendParts st l x).2.1.length ≤ 10000000 := by
  unfold rLendParts; split
  · split <;> exact shopIf_len _ _
  · simp
/-- A loan takes the place of one that it is not the same as. -/
theorem same_comm (x y : S41) : same x y = same y x := by
  unfold same; rw [Bool.eq_iff_iff, decide_eq_true_iff, decide_eq_true_iff]; constructor <;> (rintro ⟨a, b, c⟩; exact ⟨a.symm, b.symm, c.symm⟩)
theorem dist_last (x x' : S41) (p : List S41) : ∀ (b r : List S41), distinct (p ++ [x] ++ r) b = true → distinct (p ++ [x'] ++ r) b = !b.any (same x')
  | [], r, h => by simp [distinct]
  | y :: q, r, h => by
    simp only [distinct, Bool.and_eq_true, Bool.not_eq_true'] at h
    obtain ⟨h1, h2, h3⟩ := h
    have h3' : distinct (p ++ [x] ++ (r ++ [y])) q = true := by rw [← List.append_assoc]; exact h3
    have ih := dist_last x x' p q (r ++ [y]) h3'
    rw [← List.append_assoc] at ih
    simp only [List.any_append, List.any_cons, List.any_nil, Bool.or_false, Bool.or_eq_false_iff] at h2
    simp only [distinct, ih, h1, List.any_append, List.any_cons, List.any_nil, Bool.or_false, h2.1.1, h2.2, Bool.false_or, Bool.true_and, same_comm y x']
    cases same x' y <;> cases q.any (same x') <;> rfl
theorem dist_set (x x' : S41) (b : List S41) (ho : okLoan x' = true) : ∀ (a p : List S41), distinct p (a ++ x :: b) = true → distinct p (a ++ x' :: b) = !((p ++ a).any (same x') || b.any (same x'))
  | [], p, h => by
    simp only [List.nil_append, distinct, Bool.and_eq_true, Bool.not_eq_true'] at h
    have hd := dist_last x x' p b [] (by simpa using h.2.2)
    simp only [List.append_nil] at hd
    simp only [List.nil_append, distinct, ho, hd, List.append_nil, Bool.true_and]
    cases p.any (same x') <;> cases b.any (same x') <;> rfl
  | y :: a, p, h => by
    simp only [List.cons_append, distinct, Bool.and_eq_true, Bool.not_eq_true'] at h
    have ih := dist_set x x' b ho a (p ++ [y]) h.2.2
    simp only [List.cons_append, distinct, h.1, h.2.1, ih, Bool.not_false, Bool.true_and, List.append_assoc, List.nil_append]
theorem good_set (st : List Int) (x x' : S41) (a b : List S41) (ho : okLoan x' = true) (hx : same x' x = false) (hg : goodShop st (a ++ x :: b) = true) : goodShop st (a ++ x' :: b) = !(a ++ x :: b).any (same x') := by
  unfold goodShop at hg ⊢
  simp only [Bool.and_eq_true, decide_eq_true_eq, List.length_append, List.length_cons] at hg
  obtain ⟨h1, h2, h3, h4, h5⟩ := hg
  have hd := dist_set x x' b ho a [] h5
  simp only [List.nil_append] at hd
  simp only [h1, h2, h3, h4, hd, List.length_append, List.length_cons, decide_true, Bool.true_and, List.any_append, List.any_cons, hx, Bool.false_or]
theorem cut_at {α : Type} (l : List α) (i : Int) (h0 : 0 ≤ i) (h1 : i < (l.length : Int)) : ∃ a x b, l = a ++ x :: b ∧ i = (a.length : Int) := by
  have hi : i.toNat < l.length := by omega
  refine ⟨l.take i.toNat, l[i.toNat], l.drop (i.toNat + 1), ?_, ?_⟩
  · rw [← List.drop_eq_getElem_cons hi, List.take_append_drop]
  · rw [List.length_take]; omega
def dueLoan (x : S41) (d : Int) : S41 := ⟨x.f0, x.f1, x.f2, d⟩
def rExtendLoan (st : List Int) (l : List S41) (i due : Int) : List Int × List S41 × Bool :=
  if goodShop st l = true ∧ (0 ≤ i ∧ i < (l.length : Int)) ∧ (0 ≤ due ∧ due ≤ 999) ∧ ¬ due ≤ (rd_T41 l i).f3 then (if l.any (same (dueLoan (rd_T41 l i) due)) = true then ([], [], false) else (st, l.set i.toNat (dueLoan (rd_T41 l i) due), true)) else ([], [], false)
theorem rExtendLoan_len (st : List Int) (l : List S41) (i due : Int) (hst : st.length ≤ 1048576) (h : l.length ≤ 1048576) : (rExtendLoan st l i due).1.length ≤ 10000000 ∧ (rExtendLoan st l i due).2.1.length ≤ 10000000 := by
  unfold rExtendLoan; split
  · split
    · simp
    · simp; omega
  · simp
theorem psHas_ev (st : List Int) (l : List S41) (i : Int) (hst : st.length ≤ 1048576) (h : l.length ≤ 1048576) : Ev (fun z => spec_psHas.f z st l i) (goodShop st l && decide (0 ≤ i ∧ i < (l.length : Int))) := by
  simp only [spec_psHas.f]
  refine ev_bind (spec_psGood_ev st l (by omega) (by omega)) ?_
  cases hg : goodShop st l
  · exact ev_eq (Ev.now _) (by simp)
  · have hw : wrap64 ((l.length : Int) - 1) = (l.length : Int) - 1 := wrap_id (by omega) (by omega)
    simp only [l1In_eq, Option.bind_some, hw, Bool.true_and, ↓reduceIte]
    refine ev_eq (Ev.now _) ?_
    rw [Bool.eq_iff_iff, decide_eq_true_iff, decide_eq_true_iff]
    omega
theorem spec_ExtendLoan_ev (st : List Int) (l : List S41) (i due : Int) (hst : st.length ≤ 1048576) (h : l.length ≤ 1048576) : Ev (fun z => spec_ExtendLoan.f z st l i due) (rExtendLoan st l i due) := by
  have fin : Ev (fun z => spec_ExtendLoan.j0 z i due true st l) (([] : List Int), ([] : List S41), false) := by
    refine ev_up ?_
    simp only [spec_ExtendLoan.j0, ↓reduceIte]
    exact Ev.now _
  unfold rExtendLoan
  simp only [spec_ExtendLoan.f, psDay_eq, Option.bind_some]
  refine ev_bind (psHas_ev st l i hst h) ?_
  cases hg : goodShop st l
  · simpa using fin
  · by_cases hi : 0 ≤ i ∧ i < (l.length : Int)
    · by_cases hd : 0 ≤ due ∧ due ≤ 999
      · simp only [hi, hd, and_self, decide_true, Bool.and_self, true_and, ↓reduceIte]
        by_cases hv : due ≤ (rd_T41 l i).f3
        · simp only [hv, decide_true, not_true_eq_false, ↓reduceIte]
          exact fin
        · simp only [hv, decide_false, not_false_eq_true, ↓reduceIte]
          refine ev_up ?_
          simp only [spec_ExtendLoan.j0, psOwn_eq st l hst h, hi, Option.bind_some, Bool.false_eq_true, ↓reduceIte]
          refine ev_bind (spec_psSame_ev st l (dueLoan (rd_T41 l i) due) (by omega)) ?_
          cases ha : l.any (same (dueLoan (rd_T41 l i) due))
          · have hn := sameV_neg _ l 0 ha
            have g : ¬ (sameV (dueLoan (rd_T41 l i) due) 0 l ≥ 0) := by omega
            simp only [g, Bool.false_eq_true, ↓reduceIte]
            exact Ev.now _
          · have hs := sameV_some _ l [] 0 ha
            simp only [List.append_nil] at hs
            have g : sameV (dueLoan (rd_T41 l i) due) 0 l ≥ 0 := by omega
            simp only [g, ↓reduceIte]
            exact Ev.now _
      · simp only [hi, hd, and_self, decide_true, decide_false, Bool.and_self, Bool.false_eq_true, false_and, and_false, ↓reduceIte]
        exact fin
    · simp only [hi, decide_false, Bool.and_false, Bool.false_eq_true, false_and, and_false, ↓reduceIte]
      exact fin
theorem impl_ExtendLoan_ev (st : List Int) (l : List S41) (i due : Int) (hst : st.length ≤ 1048576) (h : l.length ≤ 1048576) : Ev (fun z => impl_ExtendLoan.f z st l i due) (rExtendLoan st l i due) := by
  have fin : Ev (fun z => impl_ExtendLoan.j0 z i due true st l) (([] : List Int), ([] : List S41), false) := by
    refine ev_up ?_
    simp only [impl_ExtendLoan.j0, ↓reduceIte]
    exact Ev.now _
  unfold rExtendLoan
  simp only [impl_ExtendLoan.f, isDay_eq, Option.bind_some]
  refine ev_bind (impl_IsShop_ev st l (by omega) (by omega)) ?_
  cases hg : goodShop st l
  · simpa using fin
  · by_cases hi0 : i < 0
    · have hi : ¬ (0 ≤ i ∧ i < (l.length : Int)) := by omega
      simp only [hi, hi0, false_and, and_false, ↓reduceIte]
      exact fin
    · by_cases hi1 : i ≥ (l.length : Int)
      · have hi : ¬ (0 ≤ i ∧ i < (l.length : Int)) := by omega
        simp only [hi, hi0, hi1, false_and, and_false, ↓reduceIte]
        exact fin
      · have hi : 0 ≤ i ∧ i < (l.length : Int) := by omega
        by_cases hd : 0 ≤ due ∧ due ≤ 999
        · simp only [hi, hi0, hi1, hd, and_self, decide_true, true_and, ↓reduceIte]
          by_cases hv : due ≤ (rd_T41 l i).f3
          · simp only [hv, decide_true, not_true_eq_false, ↓reduceIte]
            exact fin
          · simp only [hv, decide_false, not_false_eq_true, ↓reduceIte]
            refine ev_up ?_
            simp only [impl_ExtendLoan.j0, copyShop_eq st l hst h, hi, Option.bind_some, Bool.false_eq_true, ↓reduceIte]
            refine ev_bind (impl_validShop_ev st _ hst (by simp; omega)) ?_
            refine ev_eq (Ev.now _) ?_
            obtain ⟨a, x, b, rfl, rfl⟩ := cut_at l i hi.1 hi.2
            have hx : rd_T41 (a ++ x :: b) (a.length : Int) = x := by simp only [rd_T41, getD_mid]
            simp only [hx] at hv ⊢
            have hok := goodShop_ok hg x (by simp)
            have ho : okLoan (dueLoan x due) = true := by unfold okLoan dueLoan at *; simp only [decide_eq_true_eq] at hok ⊢; omega
            have hs : same (dueLoan x due) x = false := by unfold same dueLoan; simp only [decide_eq_false_iff_not]; omega
            have hq := good_set st x (dueLoan x due) a b ho hs hg
            have hset : (a ++ x :: b).set (a.length : Int).toNat (⟨x.f0, x.f1, x.f2, due⟩ : S41) = a ++ dueLoan x due :: b := by rw [set_mid]; rfl
            have hset' : (a ++ x :: b).set (a.length : Int).toNat (dueLoan x due) = a ++ dueLoan x due :: b := by rw [set_mid]
            rw [hset, hset']
            unfold shopIf
            rw [hq]
            cases (a ++ x :: b).any (same (dueLoan x due)) <;> rfl
        · simp only [hi, hi0, hi1, hd, and_self, decide_false, Bool.false_eq_true, false_and, and_false, ↓reduceIte]
          exact fin
theorem toLoan_eq (a b c d : Int) : laws_toLoan.f a b c d = some (a, b, c, d) := by simp only [laws_toLoan.f]
def rLostParts (st : List Int) (l : List S41) (i : Int) : List Int × List S41 × Bool := if goodShop st l = true ∧ 0 ≤ i ∧ i < (l.length : Int) then (st, l.eraseIdx i.toNat, true) else ([], [], false)
theorem rLostParts_len (st : List Int) (l : List S41) (i : Int) (hst : st.length ≤ 1048576) (h : l.length ≤ 1048576) : (rLostParts st l i).1.length ≤ 10000000 ∧ (rLostParts st l i).2.1.length ≤ 10000000 := by
  unfold rLostParts; split
  · have := List.length_eraseIdx_le l i.toNat
    simp only; omega
  · simp
theorem FnExactExtendLoan (st : List Int) (l : List S39) (a1 : Int) (a2 : Int) (wst : st.length ≤ maxLen) (est : ∀ z ∈ st, (Lit.int .i64 z).wf = true) (wl : l.length ≤ maxLen) (el : ∀ z ∈ l, (Lit.int .i64 z.f0).wf = true ∧ (Lit.int .i64 z.f1).wf = true ∧ (Lit.int .i64 z.f2).wf = true ∧ (Lit.int .i64 z.f3).wf = true) (wa1 : (Lit.int .i64 a1).wf = true) (wa2 : (Lit.int .i64 a2).wf = true) : ∃ k, laws_FnExactExtendLoan.f k st l a1 a2 = some true := by
  refine Ev.rounds (g := fun k => laws_FnExactExtendLoan.f k st l a1 a2) ?_
  by_cases hb : st.length + l.length ≤ 1048576
  · have hm := (show maxLen ≤ 9223372036854775807 by decide); have SZ := szShop_eq st l (by omega) (by omega)
    have hs1 : st.length ≤ 1048576 := by omega
    have hs2 : l.length ≤ 1048576 := by omega
    have hc1 : (1048576 - (st.length : Int) - (l.length : Int) < 0) = False := by apply eq_false; omega
    have hL : (l.map toLoan).length = l.length := by simp
    have TS := laws_toShop_ev st l hs1 hs2
    have ES := laws_eqShop_ev st (l.map toLoan) (by omega) (by omega)
    have S := spec_ExtendLoan_ev st (l.map toLoan) a1 a2 hs1 (by omega)
    have I := impl_ExtendLoan_ev st (l.map toLoan) a1 a2 hs1 (by omega)
    obtain ⟨ms, ls, hms, MS⟩ := laws_markShop_only st (l.map toLoan) (by omega) (by omega)
    replace hms : (ms < 0) = False := by apply eq_false; omega
    obtain ⟨R1, R2, ok, hR, hR1, hR2⟩ : ∃ q1 q2 q3, rExtendLoan st (l.map toLoan) a1 a2 = (q1, q2, q3) ∧ q1.length ≤ 10000000 ∧ q2.length ≤ 10000000 := by
      obtain ⟨h1, h2⟩ := rExtendLoan_len st (l.map toLoan) a1 a2 hs1 (by omega)
      exact ⟨_, _, _, rfl, h1, h2⟩
    rw [hR] at S I
    clear hR
    have E2 := laws_eqShop_ev R1 R2 (by omega) (by omega)
    obtain ⟨m2, la, lb, h2, M2, N2⟩ := laws_markShop_ev R1 R2 (by omega) (by omega)
    replace h2 : (m2 < 0) = False := by apply eq_false; omega
    simp only [laws_FnExactExtendLoan.f]
    repeat (first
      | exact Ev.now _
      | with_reducible refine ev_bind (by with_reducible assumption) ?_
      | simp only [*, Option.bind_some, bne_self_eq_false, ↓reduceIte, Bool.false_eq_true, gt_iff_lt]
      | (refine ev_up ?_; simp only [laws_FnExactExtendLoan.j0, laws_FnExactExtendLoan.j1, laws_FnExactExtendLoan.j2, Option.bind_some]))
  · have hm := (show maxLen ≤ 9223372036854775807 by decide); have SZ := szShop_eq st l (by omega) (by omega)
    have hc1 : ((-1 : Int) < 0) = True := by apply eq_true; omega
    simp only [laws_FnExactExtendLoan.f]
    repeat (first
      | exact Ev.now _
      | with_reducible refine ev_bind (by with_reducible assumption) ?_
      | simp only [*, Option.bind_some, bne_self_eq_false, ↓reduceIte, Bool.false_eq_true, gt_iff_lt]
      | (refine ev_up ?_; simp only [laws_FnExactExtendLoan.j0, laws_FnExactExtendLoan.j1, laws_FnExactExtendLoan.j2, Option.bind_some]))

end Go.Proofs.Ytokigipkoeeddaa.Pure
