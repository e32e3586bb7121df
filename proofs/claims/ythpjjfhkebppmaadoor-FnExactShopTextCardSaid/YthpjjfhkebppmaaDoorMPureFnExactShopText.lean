/- The law FnExactShopText of plain lists and numbers: whatever the input, it answers true. Condition: the lengths are those of rows that fit a machine. -/
import Derived.Test.YthpjjfhkebppmaaDoorMFnExactShopText1
namespace Go.Proofs.YthpjjfhkebppmaaDoor.Pure
open Go.RowKit Go.Proofs.YthpjjfhkebppmaaDoor.Pall Go.Proofs.YthpjjfhkebppmaaDoorW.PrintWords Go.Proofs.YthpjjfhkebppmaaDoorW.PrintLast Go.Proofs.YthpjjfhkebppmaaDoorW.PrintMore
set_option linter.unusedVariables false
set_option linter.unusedSimpArgs false

/-! ### Ground: rounds, and a row seen as what is behind and what is ahead -/
theorem ev_up {α : Type} {g : Nat → Option α} {r : α} (h : Ev (fun k => g (k + 1)) r) : Ev g r := by
  obtain ⟨K, hK⟩ := h
  refine ⟨K + 1, fun k hk => ?_⟩
  obtain ⟨m, rfl⟩ : ∃ m, k = m + 1 := ⟨k - 1, by omega⟩
  exact hK m (by omega)
theorem ev_eq {α : Type} {g : Nat → Option α} {r r' : α} (h : Ev g r) (e : r = r') : Ev g r' := e ▸ h
theorem ev_bind {α β : Type} {g : Nat → Option α} {f : Nat → α → Option β} {a : α} {r : β} (h : Ev g a) (k : Ev (fun n => f n a) r) : Ev (fun n => (g n).bind (f n)) r := Ev.bind h k
theorem mid_lt {α : Type} (p q : List α) (x : α) : ((p.length : Int) < ((p ++ x :: q).length : Int)) = True := by
  apply eq_true; simp only [List.length_append, List.length_cons]; omega
theorem mid_lt2 {α β : Type} (p : List α) (p' q : List β) (x : β) (h : p.length = p'.length) : ((p.length : Int) < ((p' ++ x :: q).length : Int)) = True := by
  apply eq_true; simp only [List.length_append, List.length_cons]; omega
theorem mid_ge {α : Type} (p : List α) : (0 ≤ (p.length : Int)) = True := by apply eq_true; omega
theorem mid_end {α : Type} (p : List α) : ((p.length : Int) < ((p ++ []).length : Int)) = False := by simp
theorem rd_mid (p q : List Int) (x : Int) : rd (p ++ x :: q) (p.length : Int) = x := by simp [rd]
theorem getD_mid {α : Type} (p q : List α) (x z : α) : (p ++ x :: q).getD ((p.length : Int)).toNat z = x := by simp
theorem set_mid {α : Type} (p q : List α) (x y : α) : (p ++ x :: q).set ((p.length : Int)).toNat y = p ++ y :: q := by simp
theorem set_mid2 {α β : Type} (p : List α) (p' q : List β) (x y : β) (h : p.length = p'.length) : (p' ++ x :: q).set ((p.length : Int)).toNat y = p' ++ y :: q := by simp [h]
theorem wrap_mid {α : Type} (p : List α) (x : α) (h : p.length < 9223372036854775807) : wrap64 ((p.length : Int) + 1) = ((p ++ [x]).length : Int) := by
  unfold wrap64; simp only [List.length_append, List.length_singleton]; omega
theorem step_mid {α : Type} (p q : List α) (x : α) : p ++ x :: q = (p ++ [x]) ++ q := by simp
theorem wrap_id {x : Int} (h0 : -9223372036854775808 ≤ x) (h1 : x ≤ 9223372036854775807) : wrap64 x = x := by unfold wrap64; omega
theorem laws_eqIntS_l0 : ∀ (q p : List Int), (p ++ q).length < 9223372036854775807 → Ev (fun k => laws_eqIntS.l0 k (p ++ q) (p ++ q) (p.length : Int)) true
  | [], p, h => by
    refine ev_up ?_
    simp only [laws_eqIntS.l0, mid_end, ↓reduceIte]
    exact Ev.now _
  | x :: q, p, h => by
    have hp : p.length < 9223372036854775807 := by simp only [List.length_append, List.length_cons] at h; omega
    refine ev_up ?_
    simp only [laws_eqIntS.l0, mid_lt, mid_ge, rd_mid, wrap_mid p x hp, ↓reduceIte]
    rw [step_mid p q x] at h ⊢
    exact laws_eqIntS_l0 q (p ++ [x]) h
theorem laws_eqIntS_ev (l : List Int) (h : l.length < 9223372036854775807) : Ev (fun k => laws_eqIntS.f k l l) true := by
  simp only [laws_eqIntS.f, ↓reduceIte]
  simpa using laws_eqIntS_l0 l [] (by simpa using h)
theorem laws_toIntS_l0 : ∀ (q p : List Int), (p ++ q).length < 9223372036854775807 → Ev (fun k => laws_toIntS.l0 k (p ++ q) (p ++ List.replicate q.length 0) (p.length : Int)) (p ++ q)
  | [], p, h => by
    refine ev_up ?_
    simp only [laws_toIntS.l0, mid_end, ↓reduceIte]
    exact ev_eq (Ev.now _) (by simp)
  | x :: q, p, h => by
    have hp : p.length < 9223372036854775807 := by simp only [List.length_append, List.length_cons] at h; omega
    refine ev_up ?_
    simp only [laws_toIntS.l0, List.length_cons, List.replicate_succ, mid_lt, mid_ge, rd_mid, set_mid, wrap_mid p x hp, ↓reduceIte]
    rw [step_mid p q x] at h ⊢
    rw [step_mid p (List.replicate q.length 0) x]
    exact laws_toIntS_l0 q (p ++ [x]) h
theorem laws_toIntS_ev (l : List Int) (h : l.length ≤ 1048576) : Ev (fun k => laws_toIntS.f k l) l := by
  have h0 : (0 ≤ (l.length : Int)) = True := by apply eq_true; omega
  have h1 : (((l.length : Int) : Int).toNat ≤ 35184372088832) = True := by apply eq_true; omega
  simp only [laws_toIntS.f, h0, h1, ↓reduceIte]
  simpa using laws_toIntS_l0 l [] (by simp; omega)
theorem l1In_eq (a lo hi : Int) : spec_l1In.f a lo hi = some (decide (lo ≤ a ∧ a ≤ hi)) := by
  by_cases h : lo ≤ a <;> simp [spec_l1In.f, h]
theorem spec_l1All_l0 (lo hi : Int) : ∀ (q p : List Int), (p ++ q).length < 9223372036854775807 → Ev (fun k => spec_l1All.l0 k lo hi (p ++ q) ((p ++ q).length : Int) (p.length : Int)) (q.all fun x => decide (lo ≤ x ∧ x ≤ hi))
  | [], p, h => by
    refine ev_up ?_
    simp only [spec_l1All.l0, mid_end, ↓reduceIte]
    exact Ev.now _
  | x :: q, p, h => by
    have hp : p.length < 9223372036854775807 := by simp only [List.length_append, List.length_cons] at h; omega
    refine ev_up ?_
    simp only [spec_l1All.l0, l1In_eq, Option.bind_some, mid_lt, mid_ge, rd_mid, wrap_mid p x hp, ↓reduceIte, List.all_cons]
    cases decide (lo ≤ x ∧ x ≤ hi) with
    | false => simpa using Ev.now _
    | true =>
      simp only [↓reduceIte, Bool.true_and]
      rw [step_mid p q x] at h ⊢
      exact spec_l1All_l0 lo hi q (p ++ [x]) h
theorem spec_l1All_ev (l : List Int) (lo hi : Int) (h : l.length < 9223372036854775807) : Ev (fun k => spec_l1All.f k l lo hi) (l.all fun x => decide (lo ≤ x ∧ x ≤ hi)) := by
  simpa [spec_l1All.f] using spec_l1All_l0 lo hi l [] (by simpa using h)
theorem eqLoan_self (a0 a1 a2 a3 : Int) : laws_eqLoan.f a0 a1 a2 a3 a0 a1 a2 a3 = some true := by simp [laws_eqLoan.f]
theorem laws_eqLoanS_l0 : ∀ (q p : List S40), (p ++ q).length < 9223372036854775807 → Ev (fun k => laws_eqLoanS.l0 k (p ++ q) (p ++ q) (p.length : Int)) true
  | [], p, h => by
    refine ev_up ?_
    simp only [laws_eqLoanS.l0, mid_end, ↓reduceIte]
    exact Ev.now _
  | x :: q, p, h => by
    have hp : p.length < 9223372036854775807 := by simp only [List.length_append, List.length_cons] at h; omega
    refine ev_up ?_
    simp only [laws_eqLoanS.l0, eqLoan_self, Option.bind_some, rd_T40, mid_lt, mid_ge, getD_mid, wrap_mid p x hp, ↓reduceIte]
    rw [step_mid p q x] at h ⊢
    exact laws_eqLoanS_l0 q (p ++ [x]) h
theorem laws_eqLoanS_ev (l : List S40) (h : l.length < 9223372036854775807) : Ev (fun k => laws_eqLoanS.f k l l) true := by
  simp only [laws_eqLoanS.f, ↓reduceIte]
  simpa using laws_eqLoanS_l0 l [] (by simpa using h)
def toLoan (x : S51) : S40 := ⟨x.f0, x.f1, x.f2, x.f3⟩
theorem laws_toLoanS_l0 : ∀ (q p : List S51), (p ++ q).length < 9223372036854775807 → Ev (fun k => laws_toLoanS.l0 k (p ++ q) (p.map toLoan ++ List.replicate q.length z40) (p.length : Int)) ((p ++ q).map toLoan)
  | [], p, h => by
    refine ev_up ?_
    simp only [laws_toLoanS.l0, mid_end, ↓reduceIte]
    exact ev_eq (Ev.now _) (by simp)
  | x :: q, p, h => by
    have hp : p.length < 9223372036854775807 := by simp only [List.length_append, List.length_cons] at h; omega
    have hl : p.length = (p.map toLoan).length := by simp
    refine ev_up ?_
    simp only [laws_toLoanS.l0, laws_toLoan.f, Option.bind_some, rd_T51, List.length_cons, List.replicate_succ, mid_lt, mid_lt2 p _ _ _ hl, mid_ge, getD_mid, set_mid2 p _ _ _ _ hl, wrap_mid p x hp, ↓reduceIte]
    rw [step_mid p q x] at h ⊢
    have e : p.map toLoan ++ (⟨x.f0, x.f1, x.f2, x.f3⟩ : S40) :: List.replicate q.length z40 = (p ++ [x]).map toLoan ++ List.replicate q.length z40 := by simp [toLoan]
    rw [e]
    exact laws_toLoanS_l0 q (p ++ [x]) h
theorem laws_toLoanS_ev (l : List S51) (h : l.length ≤ 1048576) : Ev (fun k => laws_toLoanS.f k l) (l.map toLoan) := by
  have h0 : (0 ≤ (l.length : Int)) = True := by apply eq_true; omega
  have h1 : (((l.length : Int) : Int).toNat ≤ 8796093022208) = True := by apply eq_true; omega
  simp only [laws_toLoanS.f, h0, h1, ↓reduceIte]
  simpa using laws_toLoanS_l0 l [] (by simp; omega)
theorem szLoanS_eq (l : List S51) (n : Int) (h : l.length ≤ 9223372036854775807) (h0 : 0 ≤ n) (h1 : n ≤ 1048576) : laws_szLoanS.f l n = some (if (l.length : Int) ≤ n then n - (l.length : Int) else -1) := by
  have hw : wrap64 (n - (l.length : Int)) = n - (l.length : Int) := wrap_id (by omega) (by omega)
  unfold laws_szLoanS.f
  rw [hw]
  by_cases hl : (l.length : Int) ≤ n
  · rw [if_neg (by omega), if_pos hl]
  · rw [if_pos (by omega), if_neg hl]
def okLoan (x : S40) : Bool := decide (1 ≤ x.f0 ∧ x.f0 ≤ 99 ∧ 1 ≤ x.f1 ∧ x.f1 ≤ 7 ∧ 1 ≤ x.f2 ∧ x.f2 ≤ 99 ∧ 0 ≤ x.f3 ∧ x.f3 ≤ 999)
def same (x y : S40) : Bool := decide (y.f0 = x.f0 ∧ y.f1 = x.f1 ∧ y.f3 = x.f3)
/-- Where the loans have one like x, counted from i; -1 for nowhere. -/
def sameV (x : S40) (i : Int) : List S40 → Int
  | [] => -1
  | y :: q => if same x y = true then i else sameV x (i + 1) q
theorem same_self (x : S40) : same x x = true := by simp [same]
theorem sameV_none (x : S40) : ∀ (p q : List S40) (i : Int), p.any (same x) = false → sameV x i (p ++ x :: q) = i + p.length
  | [], q, i, h => by simp [sameV, same_self]
  | y :: p, q, i, h => by
    simp only [List.any_cons, Bool.or_eq_false_iff] at h
    simp only [List.cons_append, sameV, h.1, Bool.false_eq_true, ↓reduceIte, sameV_none x p q (i + 1) h.2, List.length_cons]
    omega
theorem sameV_some (x : S40) : ∀ (p q : List S40) (i : Int), p.any (same x) = true → i ≤ sameV x i (p ++ q) ∧ sameV x i (p ++ q) < i + p.length
  | [], q, i, h => by simp at h
  | y :: p, q, i, h => by
    simp only [List.cons_append, sameV, List.length_cons]
    cases hy : same x y
    · simp only [List.any_cons, hy, Bool.false_or] at h
      have := sameV_some x p q (i + 1) h
      simp only [Bool.false_eq_true, ↓reduceIte]
      omega
    · simp only [↓reduceIte]; omega
theorem sameV_neg (x : S40) : ∀ (p : List S40) (i : Int), p.any (same x) = false → sameV x i p = -1
  | [], i, h => rfl
  | y :: p, i, h => by
    simp only [List.any_cons, Bool.or_eq_false_iff] at h
    simp only [sameV, h.1, Bool.false_eq_true, ↓reduceIte, sameV_neg x p (i + 1) h.2]
def distinct (p : List S40) : List S40 → Bool
  | [] => true
  | x :: q => okLoan x && (!p.any (same x) && distinct (p ++ [x]) q)
def goodShop (st : List Int) (l : List S40) : Bool := decide (st.length = 8) && ((st.all fun x => decide (0 ≤ x ∧ x ≤ 999)) && (decide (rd st 0 = 0) && (decide (l.length ≤ 20) && distinct [] l)))
theorem goodShop_len {st : List Int} {l : List S40} (h : goodShop st l = true) : st.length = 8 ∧ l.length ≤ 20 := by
  unfold goodShop at h; simp only [Bool.and_eq_true, decide_eq_true_eq] at h; exact ⟨h.1, h.2.2.2.1⟩
theorem distinct_ok : ∀ (q p : List S40), distinct p q = true → ∀ x ∈ q, okLoan x = true
  | [], p, h => by simp
  | y :: q, p, h => by
    simp only [distinct, Bool.and_eq_true] at h
    intro x hx
    rcases List.mem_cons.1 hx with rfl | hx
    · exact h.1
    · exact distinct_ok q _ h.2.2 x hx
theorem goodShop_ok {st : List Int} {l : List S40} (h : goodShop st l = true) : ∀ x ∈ l, okLoan x = true := by
  unfold goodShop at h; simp only [Bool.and_eq_true] at h; exact distinct_ok l [] h.2.2.2.2
theorem psLoan_eq (a b c d : Int) : spec_psLoan.f a b c d = some (okLoan ⟨a, b, c, d⟩) := by
  simp only [spec_psLoan.f, okLoan, l1In_eq, Option.bind_some]
  repeat' split
  all_goals
    simp only [Option.some.injEq]
    rw [Bool.eq_iff_iff]
    simp_all
    try omega
theorem isDay_eq (a : Int) : impl_isDay.f a = some (decide (0 ≤ a ∧ a ≤ 999)) := by
  by_cases h : 0 ≤ a <;> simp [impl_isDay.f, h]
theorem isLoan_eq (a b c d : Int) : impl_isLoan.f a b c d = some (okLoan ⟨a, b, c, d⟩) := by
  simp only [impl_isLoan.f, okLoan, isDay_eq, Option.bind_some]
  repeat' split
  all_goals
    simp only [Option.some.injEq]
    rw [Bool.eq_iff_iff]
    simp_all
    try omega
theorem spec_psSame_l0 (x : S40) : ∀ (q p : List S40), (p ++ q).length < 9223372036854775807 → Ev (fun k => spec_psSame.l0 k (p ++ q) ((p ++ q).length : Int) (p.length : Int) x.f0 x.f1 x.f2 x.f3) (sameV x (p.length : Int) q)
  | [], p, h => by
    refine ev_up ?_
    simp only [spec_psSame.l0, mid_end, ↓reduceIte]
    exact Ev.now _
  | y :: q, p, h => by
    have hp : p.length < 9223372036854775807 := by simp only [List.length_append, List.length_cons] at h; omega
    have ih := spec_psSame_l0 x q (p ++ [y]) (by rw [step_mid p q y] at h; exact h)
    have e : ((p ++ [y]).length : Int) = (p.length : Int) + 1 := by simp
    rw [e] at ih
    rw [← step_mid p q y] at ih
    refine ev_up ?_
    simp only [spec_psSame.l0, rd_T40, mid_lt, mid_ge, getD_mid, wrap_mid p y hp, e, ↓reduceIte, sameV, same]
    by_cases h0 : y.f0 = x.f0
    · by_cases h1 : y.f1 = x.f1
      · by_cases h2 : y.f3 = x.f3
        · simp only [h0, h1, h2, and_self, decide_true, ↓reduceIte]
          exact Ev.now _
        · simp only [h0, h1, h2, and_false, decide_false, Bool.false_eq_true, ↓reduceIte]
          exact ih
      · simp only [h0, h1, false_and, and_false, decide_false, Bool.false_eq_true, ↓reduceIte]
        exact ih
    · simp only [h0, false_and, decide_false, Bool.false_eq_true, ↓reduceIte]
      exact ih
theorem spec_psSame_ev (st : List Int) (l : List S40) (x : S40) (h : l.length < 9223372036854775807) : Ev (fun k => spec_psSame.f k st l x.f0 x.f1 x.f2 x.f3) (sameV x 0 l) := by
  simpa [spec_psSame.f] using spec_psSame_l0 x l [] (by simpa using h)
theorem impl_sameLoan_l0 (x : S40) : ∀ (q p : List S40), (p ++ q).length < 9223372036854775807 → Ev (fun k => impl_sameLoan.l0 k (p ++ q) ((p ++ q).length : Int) (p.length : Int) x.f0 x.f1 x.f2 x.f3) (sameV x (p.length : Int) q)
  | [], p, h => by
    refine ev_up ?_
    simp only [impl_sameLoan.l0, mid_end, ↓reduceIte]
    exact Ev.now _
  | y :: q, p, h => by
    have hp : p.length < 9223372036854775807 := by simp only [List.length_append, List.length_cons] at h; omega
    have ih := impl_sameLoan_l0 x q (p ++ [y]) (by rw [step_mid p q y] at h; exact h)
    have e : ((p ++ [y]).length : Int) = (p.length : Int) + 1 := by simp
    rw [e] at ih
    rw [← step_mid p q y] at ih
    refine ev_up ?_
    simp only [impl_sameLoan.l0, rd_T40, mid_lt, mid_ge, getD_mid, wrap_mid p y hp, e, ↓reduceIte, sameV, same]
    by_cases h0 : x.f0 = y.f0
    · by_cases h1 : x.f1 = y.f1
      · by_cases h2 : x.f3 = y.f3
        · simp only [h0, h1, h2, and_self, decide_true, ↓reduceIte]
          exact Ev.now _
        · have h2' : ¬ y.f3 = x.f3 := fun h => h2 h.symm
          simp only [h2, h2', and_false, decide_false, Bool.false_eq_true, ↓reduceIte, ite_self]
          exact ih
      · have h1' : ¬ y.f1 = x.f1 := fun h => h1 h.symm
        simp only [h1, h1', false_and, and_false, decide_false, Bool.false_eq_true, ↓reduceIte, ite_self]
        exact ih
    · have h0' : ¬ y.f0 = x.f0 := fun h => h0 h.symm
      simp only [h0, h0', false_and, decide_false, Bool.false_eq_true, ↓reduceIte]
      exact ih
theorem impl_sameLoan_ev (l : List S40) (x : S40) (h : l.length < 9223372036854775807) : Ev (fun k => impl_sameLoan.f k l x.f0 x.f1 x.f2 x.f3) (sameV x 0 l) := by
  simpa [impl_sameLoan.f] using impl_sameLoan_l0 x l [] (by simpa using h)
theorem spec_psGood_l0 (st : List Int) (hst : st.length < 9223372036854775807) : ∀ (q p : List S40), (p ++ q).length < 9223372036854775807 → Ev (fun k => spec_psGood.l0 k (p ++ q) ((p ++ q).length : Int) (p.length : Int) st (p ++ q)) (distinct p q && (decide (st.length = 8) && ((st.all fun x => decide (0 ≤ x ∧ x ≤ 999)) && (decide (rd st 0 = 0) && decide ((p ++ q).length ≤ 20)))))
  | [], p, h => by
    refine ev_up ?_
    simp only [spec_psGood.l0, mid_end, ↓reduceIte, distinct, Bool.true_and]
    simp only [List.append_nil]
    by_cases h8 : st.length = 8
    · have h8' : ((st.length : Int) = 8) = True := by apply eq_true; omega
      have h0 : ((0 : Int) < (st.length : Int)) = True := by apply eq_true; omega
      simp only [h8, h8', ↓reduceIte, decide_true, Bool.true_and]
      refine ev_bind (spec_l1All_ev st 0 999 hst) ?_
      cases st.all fun x => decide (0 ≤ x ∧ x ≤ 999)
      · simpa using Ev.now _
      · simp only [h0, ↓reduceIte, Bool.true_and]
        by_cases hr : rd st 0 = 0
        · simp only [hr, ↓reduceIte, decide_true, Bool.true_and]
          exact ev_eq (Ev.now _) (by simp; omega)
        · simp only [hr, ↓reduceIte, decide_false, Bool.false_and]
          exact Ev.now _
    · have h8' : ((st.length : Int) = 8) = False := by apply eq_false; omega
      simp only [h8, h8', ↓reduceIte, decide_false, Bool.false_and]
      exact Ev.now _
  | x :: q, p, h => by
    have hp : p.length < 9223372036854775807 := by simp only [List.length_append, List.length_cons] at h; omega
    refine ev_up ?_
    simp only [spec_psGood.l0, psLoan_eq, Option.bind_some, rd_T40, mid_lt, mid_ge, getD_mid, wrap_mid p x hp, ↓reduceIte, distinct]
    have ex : (⟨x.f0, x.f1, x.f2, x.f3⟩ : S40) = x := rfl
    rw [ex]
    cases okLoan x with
    | false => simpa using Ev.now _
    | true =>
      simp only [↓reduceIte, Bool.true_and]
      refine ev_bind (spec_psSame_ev st (p ++ x :: q) x h) ?_
      cases ha : p.any (same x)
      · have e : sameV x 0 (p ++ x :: q) = (p.length : Int) := by rw [sameV_none x p q 0 ha]; omega
        simp only [e, ↓reduceIte, Bool.not_false, Bool.true_and]
        rw [step_mid p q x] at h ⊢
        exact spec_psGood_l0 st hst q (p ++ [x]) h
      · have e : ¬ sameV x 0 (p ++ x :: q) = (p.length : Int) := by have := (sameV_some x p (x :: q) 0 ha).2; omega
        simp only [e, ↓reduceIte, Bool.not_true, Bool.false_and]
        exact Ev.now _
theorem spec_psGood_ev (st : List Int) (l : List S40) (hst : st.length < 9223372036854775807) (h : l.length < 9223372036854775807) : Ev (fun k => spec_psGood.f k st l) (goodShop st l) := by
  have := spec_psGood_l0 st hst l [] (by simpa using h)
  simp only [spec_psGood.f]
  refine ev_eq (by simpa using this) ?_
  unfold goodShop
  cases distinct [] l <;> simp
theorem impl_IsShop_l1 (st : List Int) : ∀ (q p : List S40), (p ++ q).length < 9223372036854775807 → Ev (fun k => impl_IsShop.l1 k (p ++ q) ((p ++ q).length : Int) (p.length : Int) st (p ++ q)) (distinct p q)
  | [], p, h => by
    refine ev_up ?_
    simp only [impl_IsShop.l1, mid_end, ↓reduceIte, distinct]
    exact Ev.now _
  | x :: q, p, h => by
    have hp : p.length < 9223372036854775807 := by simp only [List.length_append, List.length_cons] at h; omega
    have hle : ((p.length : Int) ≤ ((p ++ x :: q).length : Int)) = True := by apply eq_true; simp only [List.length_append]; omega
    have ht : (p ++ x :: q).take ((p.length : Int)).toNat = p := by simp
    refine ev_up ?_
    simp only [impl_IsShop.l1, isLoan_eq, Option.bind_some, rd_T40, mid_lt, mid_ge, getD_mid, wrap_mid p x hp, hle, ht, ↓reduceIte, distinct]
    have ex : (⟨x.f0, x.f1, x.f2, x.f3⟩ : S40) = x := rfl
    rw [ex]
    cases okLoan x with
    | false => simpa using Ev.now _
    | true =>
      simp only [↓reduceIte, Bool.true_and]
      refine ev_bind (impl_sameLoan_ev p x (by omega)) ?_
      cases ha : p.any (same x)
      · rw [sameV_neg x p 0 ha]
        simp only [ge_iff_le, Int.reduceNeg, Int.reduceLE, ↓reduceIte, Bool.not_false, Bool.true_and]
        rw [step_mid p q x] at h ⊢
        exact impl_IsShop_l1 st q (p ++ [x]) h
      · have e : sameV x 0 p ≥ 0 := by have := (sameV_some x p [] 0 ha).1; simpa using this
        simp only [e, ↓reduceIte, Bool.not_true, Bool.false_and]
        exact Ev.now _
theorem impl_IsShop_l0 (st : List Int) (l : List S40) (hl : l.length < 9223372036854775807) : ∀ (q p : List Int), (p ++ q).length < 9223372036854775807 → Ev (fun k => impl_IsShop.l0 k (p ++ q) ((p ++ q).length : Int) (p.length : Int) st l) ((q.all fun x => decide (0 ≤ x ∧ x ≤ 999)) && distinct [] l)
  | [], p, h => by
    refine ev_up ?_
    simp only [impl_IsShop.l0, mid_end, ↓reduceIte, List.all_nil, Bool.true_and]
    simpa using impl_IsShop_l1 st l [] (by simpa using hl)
  | x :: q, p, h => by
    have hp : p.length < 9223372036854775807 := by simp only [List.length_append, List.length_cons] at h; omega
    refine ev_up ?_
    simp only [impl_IsShop.l0, mid_lt, mid_ge, rd_mid, wrap_mid p x hp, ↓reduceIte, List.all_cons]
    by_cases h0 : x < 0
    · have e : decide (0 ≤ x ∧ x ≤ 999) = false := by rw [decide_eq_false_iff_not]; omega
      simp only [h0, e, Bool.false_and, ↓reduceIte]
      exact Ev.now _
    · by_cases h1 : x > 999
      · have e : decide (0 ≤ x ∧ x ≤ 999) = false := by rw [decide_eq_false_iff_not]; omega
        simp only [h0, h1, e, Bool.false_and, ↓reduceIte]
        exact Ev.now _
      · have e : decide (0 ≤ x ∧ x ≤ 999) = true := by rw [decide_eq_true_iff]; omega
        simp only [h0, h1, e, Bool.true_and, ↓reduceIte]
        rw [step_mid p q x] at h ⊢
        exact impl_IsShop_l0 st l hl q (p ++ [x]) h
theorem impl_IsShop_ev (st : List Int) (l : List S40) (hst : st.length < 9223372036854775807) (h : l.length < 9223372036854775807) : Ev (fun k => impl_IsShop.f k st l) (goodShop st l) := by
  have fin : Ev (fun k => impl_IsShop.j0 k true st l) false := by
    refine ev_up ?_
    simp only [impl_IsShop.j0, ↓reduceIte]
    exact Ev.now _
  unfold goodShop
  simp only [impl_IsShop.f]
  by_cases h8 : st.length = 8
  · have h8' : ((st.length : Int) = 8) = True := by apply eq_true; omega
    have h0 : ((0 : Int) < (st.length : Int)) = True := by apply eq_true; omega
    by_cases hr : rd st 0 = 0
    · by_cases hl : l.length ≤ 20
      · have hl' : decide ((l.length : Int) > 20) = false := by rw [decide_eq_false_iff_not]; omega
        simp only [h8, h8', h0, hr, hl, hl', ↓reduceIte, decide_true, Bool.true_and]
        refine ev_up ?_
        simp only [impl_IsShop.j0, Bool.false_eq_true, ↓reduceIte]
        simpa using impl_IsShop_l0 st l h st [] (by simpa using hst)
      · have hl' : decide ((l.length : Int) > 20) = true := by rw [decide_eq_true_iff]; omega
        simp only [h8, h8', h0, hr, hl, hl', ↓reduceIte, decide_true, decide_false, Bool.true_and, Bool.false_and, Bool.and_false]
        exact fin
    · simp only [h8, h8', h0, hr, ↓reduceIte, decide_true, decide_false, Bool.true_and, Bool.false_and, Bool.and_false]
      exact fin
  · have h8' : ((st.length : Int) = 8) = False := by apply eq_false; omega
    simp only [h8, h8', ↓reduceIte, decide_false, Bool.false_and]
    exact fin
theorem laws_toShop_ev (st : List Int) (l : List S51) (hst : st.length ≤ 1048576) (h : l.length ≤ 1048576) : Ev (fun k => laws_toShop.f k st l) (st, l.map toLoan) := by
  simp only [laws_toShop.f]
  exact ev_bind (laws_toIntS_ev st hst) (ev_bind (laws_toLoanS_ev l h) (Ev.now _))
theorem laws_eqShop_ev (st : List Int) (l : List S40) (hst : st.length < 9223372036854775807) (h : l.length < 9223372036854775807) : Ev (fun k => laws_eqShop.f k st l st l) true := by
  simp only [laws_eqShop.f]
  refine ev_bind (laws_eqIntS_ev st hst) ?_
  simp only [↓reduceIte]
  refine ev_bind (laws_eqLoanS_ev l h) ?_
  simpa using Ev.now _
theorem szIntS_eq (l : List Int) (n : Int) (h : l.length ≤ 9223372036854775807) (h0 : 0 ≤ n) (h1 : n ≤ 1048576) : laws_szIntS.f l n = some (if (l.length : Int) ≤ n then n - (l.length : Int) else -1) := by
  have hw : wrap64 (n - (l.length : Int)) = n - (l.length : Int) := wrap_id (by omega) (by omega)
  unfold laws_szIntS.f
  rw [hw]
  by_cases hl : (l.length : Int) ≤ n
  · rw [if_neg (by omega), if_pos hl]
  · rw [if_pos (by omega), if_neg hl]
theorem szShop_eq (st : List Int) (l : List S51) (hst : st.length ≤ 9223372036854775807) (h : l.length ≤ 9223372036854775807) : laws_szShop.f st l 1048576 = some (if st.length + l.length ≤ 1048576 then 1048576 - (st.length : Int) - (l.length : Int) else -1) := by
  simp only [laws_szShop.f, szIntS_eq st 1048576 hst (by omega) (by omega), Option.bind_some]
  by_cases h0 : (st.length : Int) ≤ 1048576
  · have g : ¬ (1048576 - (st.length : Int) < 0) := by omega
    simp only [h0, g, ↓reduceIte, szLoanS_eq l (1048576 - (st.length : Int)) h (by omega) (by omega), Option.bind_some]
    by_cases h1 : (l.length : Int) ≤ 1048576 - (st.length : Int)
    · have g1 : ¬ (1048576 - (st.length : Int) - (l.length : Int) < 0) := by omega
      have g2 : st.length + l.length ≤ 1048576 := by omega
      simp only [h1, g1, g2, ↓reduceIte]
    · have g2 : ¬ st.length + l.length ≤ 1048576 := by omega
      have g3 : (-1 : Int) < 0 := by omega
      simp only [h1, g2, g3, ↓reduceIte]
  · have g2 : ¬ st.length + l.length ≤ 1048576 := by omega
    have g3 : (-1 : Int) < 0 := by omega
    simp only [h0, g2, g3, ↓reduceIte]
/-- The decimal numeral of a number that is not negative. -/
def num (n : Int) : ByteArray := ⟨(Go.Lib.decDigits n.toNat).toArray⟩
def sp : ByteArray := ⟨#[32]⟩
theorem sp_size : sp.size = 1 := rfl
theorem dig_eq : ∀ m : Nat, m < 10 → strOfNums [(wrap64 (48 + (m : Int))) % 256] = ⟨#[UInt8.ofNat (48 + m)]⟩ := by
  decide +kernel
theorem num_small (m : Nat) (h : m < 10) : num (m : Int) = ⟨#[UInt8.ofNat (48 + m)]⟩ := by
  unfold num
  rw [Int.toNat_natCast, Go.Lib.decDigits, dif_pos h]
theorem num_big (m : Nat) (h : ¬ m < 10) : num (m : Int) = num ((m / 10 : Nat) : Int) ++ (⟨#[UInt8.ofNat (48 + m % 10)]⟩ : ByteArray) := by
  unfold num
  rw [Int.toNat_natCast, Int.toNat_natCast, Go.Lib.decDigits, dif_neg h]
  refine WideShapes.bytes_inj ?_
  simp [ByteArray.data_append]
theorem num_size : ∀ (m : Nat), (num (m : Int)).size ≤ m + 1 := by
  intro m
  induction m using Nat.strongRecOn with
  | _ m ih =>
    by_cases h : m < 10
    · rw [num_small m h]
      have : ((⟨#[UInt8.ofNat (48 + m)]⟩ : ByteArray)).size = 1 := rfl
      rw [this]; omega
    · rw [num_big m h, ByteArray.size_append]
      have : ((⟨#[UInt8.ofNat (48 + m % 10)]⟩ : ByteArray)).size = 1 := rfl
      have := ih (m / 10) (by omega)
      omega
theorem spec_l1Num_nat : ∀ (m : Nat), m ≤ 999999 → Ev (fun k => spec_l1Num.f k (m : Int)) (num (m : Int)) := by
  intro m
  induction m using Nat.strongRecOn with
  | _ m ih =>
    intro hm
    by_cases h : m < 10
    · have g : ((m : Int) < 10) = True := by apply eq_true; omega
      refine ev_up ?_
      simp only [spec_l1Num.f, g, ↓reduceIte]
      rw [dig_eq m h, num_small m h]
      exact Ev.now _
    · have g : ((m : Int) < 10) = False := by apply eq_false; omega
      have e1 : wrap64 (Int.tdiv (m : Int) 10) = ((m / 10 : Nat) : Int) := by
        rw [Int.tdiv_eq_ediv_of_nonneg (by omega), wrap_id (by omega) (by omega)]; omega
      have e2 : Int.tmod (m : Int) 10 = ((m % 10 : Nat) : Int) := by
        rw [Int.tmod_eq_emod_of_nonneg (by omega)]; omega
      have z := num_size (m / 10)
      have e3 : ((⟨#[UInt8.ofNat (48 + m % 10)]⟩ : ByteArray)).size = 1 := rfl
      refine ev_up ?_
      simp only [spec_l1Num.f, g, e1, e2, ↓reduceIte, Option.bind_some, dig_eq (m % 10) (by omega)]
      refine ev_bind (ih (m / 10) (by omega) (by omega)) ?_
      rw [num_big m h]
      have g2 : ((num ((m / 10 : Nat) : Int)).size + ((⟨#[UInt8.ofNat (48 + m % 10)]⟩ : ByteArray)).size ≤ 9223372036854775807) = True := by apply eq_true; rw [e3]; omega
      simp only [g2, ↓reduceIte]
      exact Ev.now _
def okN (n : Int) : Prop := 0 ≤ n ∧ n ≤ 999
theorem spec_l1Num_ev {n : Int} (h : okN n) : Ev (fun k => spec_l1Num.f k n) (num n) := by
  obtain ⟨h0, h1⟩ := h
  obtain ⟨m, rfl⟩ := Int.eq_ofNat_of_zero_le h0
  exact spec_l1Num_nat m (by omega)
theorem num_le {n : Int} (h : okN n) : (num n).size ≤ 1000 := by
  obtain ⟨h0, h1⟩ := h
  obtain ⟨m, rfl⟩ := Int.eq_ofNat_of_zero_le h0
  have := num_size m
  omega
theorem itoa_num (k : Nat) {n : Int} (h : okN n) : strconv_Itoa_25.f k n = some (num n) := by
  obtain ⟨h0, h1⟩ := h
  unfold strconv_Itoa_25.f Go.Lib.itoa num
  rw [if_pos ⟨by omega, by omega⟩, if_neg (by omega)]
/-- Numbers behind a text, a blank ahead of each. -/
def more (s : ByteArray) (q : List Int) : ByteArray := q.foldl (fun s n => s ++ sp ++ num n) s
theorem more_size : ∀ (q : List Int) (s : ByteArray), (∀ n ∈ q, okN n) → (more s q).size ≤ s.size + 1001 * q.length
  | [], s, _ => Nat.le_refl _
  | n :: q, s, h => by
    show (more (s ++ sp ++ num n) q).size ≤ _
    have := more_size q (s ++ sp ++ num n) (fun x hx => h x (List.mem_cons_of_mem _ hx))
    have z := num_le (h n (List.mem_cons_self ..))
    rw [ByteArray.size_append, ByteArray.size_append, sp_size] at this
    rw [List.length_cons]
    omega
/-- A line of numbers. -/
def line : List Int → ByteArray
  | [] => ⟨#[]⟩
  | n :: q => more (num n) q
theorem line_size (q : List Int) (h : ∀ n ∈ q, okN n) : (line q).size ≤ 1001 * q.length := by
  cases q with
  | nil => exact Nat.zero_le _
  | cons n q =>
    have := more_size q (num n) (fun x hx => h x (List.mem_cons_of_mem _ hx))
    have z := num_le (h n (List.mem_cons_self ..))
    show (more (num n) q).size ≤ _
    rw [List.length_cons]; omega
theorem inter_fold (s : List UInt8) : ∀ (xs : List (List UInt8)) (x : List UInt8), Go.Lib.join (x :: xs) s = xs.foldl (fun a y => a ++ s ++ y) x
  | [], x => by simp [Go.Lib.join, List.intercalate]
  | y :: ys, x => by
    rw [List.foldl_cons, ← inter_fold s ys (x ++ s ++ y)]
    cases ys <;> simp [Go.Lib.join, List.intercalate, List.intersperse]
theorem more_data : ∀ (q : List Int) (s : ByteArray), (more s q).data.toList = ((q.map num).map (·.data.toList)).foldl (fun a y => a ++ sp.data.toList ++ y) s.data.toList
  | [], s => rfl
  | n :: q, s => by
    show (more (s ++ sp ++ num n) q).data.toList = _
    rw [more_data q]
    simp [ByteArray.data_append]
theorem join_line (k : Nat) (q : List Int) (hq : ∀ n ∈ q, okN n) (hl : q.length ≤ 1000) : strings_Join.f k (q.map num) ⟨#[32]⟩ = some (line q) := by
  have e : Go.Lib.join ((q.map num).map (·.data.toList)) (⟨#[32]⟩ : ByteArray).data.toList = (line q).data.toList := by
    cases q with
    | nil => rfl
    | cons n q =>
      rw [List.map_cons, List.map_cons, inter_fold]
      exact (more_data q (num n)).symm
  have z := line_size q hq
  have z2 : (line q).data.toList.length ≤ 140737488355328 := by show (line q).size ≤ _; omega
  unfold strings_Join.f
  rw [e, if_pos ⟨by rw [List.length_map]; omega, z2⟩]
theorem impl_numbersText_l0 : ∀ (q p : List Int), (p ++ q).length ≤ 1000 → (∀ n ∈ p ++ q, okN n) → Ev (fun k => impl_numbersText.l0 k (p.map num) (p ++ q) ((p ++ q).length : Int) (p.length : Int)) (line (p ++ q))
  | [], p, h, hq => by
    refine ev_up ?_
    have hj := fun k => join_line k p (by simpa using hq) (by simpa using h)
    simp only [impl_numbersText.l0, mid_end, ↓reduceIte, hj, Option.bind_some]
    exact ev_eq (Ev.now _) (by simp)
  | x :: q, p, h, hq => by
    have hp : p.length < 9223372036854775807 := by simp only [List.length_append, List.length_cons] at h; omega
    have hx : okN x := hq x (by simp)
    have g : ((p.map num).length < 8796093022208) = True := by apply eq_true; rw [List.length_map]; simp only [List.length_append, List.length_cons] at h; omega
    refine ev_up ?_
    simp only [impl_numbersText.l0, mid_lt, mid_ge, rd_mid, itoa_num _ hx, g, wrap_mid p x hp, Option.bind_some, ↓reduceIte]
    have e : p.map num ++ [num x] = (p ++ [x]).map num := by simp
    rw [e]
    rw [step_mid p q x] at h hq ⊢
    exact impl_numbersText_l0 q (p ++ [x]) h hq
theorem impl_numbersText_ev (q : List Int) (h : q.length ≤ 1000) (hq : ∀ n ∈ q, okN n) : Ev (fun k => impl_numbersText.f k q) (line q) := by
  simpa [impl_numbersText.f] using impl_numbersText_l0 q [] (by simpa using h) (by simpa using hq)
def nl : ByteArray := ⟨#[10]⟩
theorem nl_size : nl.size = 1 := rfl
def loanLine (x : S40) : ByteArray := line [x.f0, x.f1, x.f2, x.f3] ++ nl
def loanLines (s : ByteArray) (l : List S40) : ByteArray := l.foldl (fun s x => s ++ loanLine x) s
theorem okLoan_num {x : S40} (h : okLoan x = true) : okN x.f0 ∧ okN x.f1 ∧ okN x.f2 ∧ okN x.f3 := by
  unfold okLoan at h
  simp only [decide_eq_true_eq] at h
  exact ⟨⟨by omega, by omega⟩, ⟨by omega, by omega⟩, ⟨by omega, by omega⟩, ⟨by omega, by omega⟩⟩
theorem loanLine_size {x : S40} (h : okLoan x = true) : (loanLine x).size ≤ 5000 := by
  obtain ⟨a, b, c, d⟩ := okLoan_num h
  have := line_size [x.f0, x.f1, x.f2, x.f3] (by simp [a, b, c, d])
  unfold loanLine
  rw [ByteArray.size_append, nl_size]
  simp only [List.length_cons, List.length_nil] at this
  omega
theorem spec_ShopText_l1 : ∀ (q p : List S40) (s : ByteArray), (p ++ q).length < 1000000000000000 → s.size + 5000 * q.length ≤ 1000000000000000000 → (∀ x ∈ q, okLoan x = true) → Ev (fun k => spec_ShopText.l1 k s (p ++ q) ((p ++ q).length : Int) (p.length : Int)) (loanLines s q, true)
  | [], p, s, h, h1, hq => by
    refine ev_up ?_
    simp only [spec_ShopText.l1, mid_end, ↓reduceIte]
    exact Ev.now _
  | x :: q, p, s, h, h1, hq => by
    have hp : p.length < 9223372036854775807 := by simp only [List.length_append, List.length_cons] at h; omega
    have ok := hq x (List.mem_cons_self ..)
    obtain ⟨a, b, c, d⟩ := okLoan_num ok
    have za := num_le a
    have zb := num_le b
    have zc := num_le c
    have zd := num_le d
    have zl := loanLine_size ok
    have z1 : ((⟨#[32]⟩ : ByteArray)).size = 1 := rfl
    have z2 : ((⟨#[10]⟩ : ByteArray)).size = 1 := rfl
    simp only [List.length_cons] at h1
    have e : (((((((num x.f0 ++ (⟨#[32]⟩ : ByteArray)) ++ num x.f1) ++ (⟨#[32]⟩ : ByteArray)) ++ num x.f2) ++ (⟨#[32]⟩ : ByteArray)) ++ num x.f3) ++ (⟨#[10]⟩ : ByteArray)) = loanLine x := rfl
    refine ev_up ?_
    simp only [spec_ShopText.l1, rd_T40, mid_lt, mid_ge, getD_mid, wrap_mid p x hp, ↓reduceIte]
    have n1 : ((num x.f0).size + 1 ≤ 9223372036854775807) = True := by apply eq_true; omega
    have n2 : ((num x.f0).size + 1 + (num x.f1).size ≤ 9223372036854775807) = True := by apply eq_true; omega
    have n3 : ((num x.f0).size + 1 + (num x.f1).size + 1 ≤ 9223372036854775807) = True := by apply eq_true; omega
    have n4 : ((num x.f0).size + 1 + (num x.f1).size + 1 + (num x.f2).size ≤ 9223372036854775807) = True := by apply eq_true; omega
    have n5 : ((num x.f0).size + 1 + (num x.f1).size + 1 + (num x.f2).size + 1 ≤ 9223372036854775807) = True := by apply eq_true; omega
    have n6 : ((num x.f0).size + 1 + (num x.f1).size + 1 + (num x.f2).size + 1 + (num x.f3).size ≤ 9223372036854775807) = True := by apply eq_true; omega
    have n7 : ((num x.f0).size + 1 + (num x.f1).size + 1 + (num x.f2).size + 1 + (num x.f3).size + 1 ≤ 9223372036854775807) = True := by apply eq_true; omega
    have n8 : (s.size + ((num x.f0).size + 1 + (num x.f1).size + 1 + (num x.f2).size + 1 + (num x.f3).size + 1) ≤ 9223372036854775807) = True := by apply eq_true; omega
    refine ev_bind (spec_l1Num_ev a) ?_
    simp only [n1, ↓reduceIte]
    refine ev_bind (spec_l1Num_ev b) ?_
    simp only [ByteArray.size_append, z1, n2, n3, ↓reduceIte]
    refine ev_bind (spec_l1Num_ev c) ?_
    simp only [ByteArray.size_append, z1, n4, n5, ↓reduceIte]
    refine ev_bind (spec_l1Num_ev d) ?_
    simp only [ByteArray.size_append, z1, z2, n6, n7, n8, ↓reduceIte]
    rw [e]
    show Ev _ (loanLines (s ++ loanLine x) q, true)
    rw [step_mid p q x] at h ⊢
    exact spec_ShopText_l1 q (p ++ [x]) _ h (by rw [ByteArray.size_append]; omega) (fun y hy => hq y (List.mem_cons_of_mem _ hy))
theorem spec_ShopText_l0 (st : List Int) (l : List S40) (hl : l.length ≤ 20) (ho : ∀ x ∈ l, okLoan x = true) : ∀ (q p : List Int) (s : ByteArray), p ≠ [] → (p ++ q).length < 1000000000000000 → s.size + 1001 * q.length ≤ 100000000000000000 → (∀ n ∈ q, okN n) → Ev (fun k => spec_ShopText.l0 k s (p ++ q) ((p ++ q).length : Int) (p.length : Int) st l) (loanLines (more s q ++ nl) l, true)
  | [], p, s, hne, h, h1, hq => by
    have g : (s.size + 1 ≤ 9223372036854775807) = True := by apply eq_true; simp at h1; omega
    refine ev_up ?_
    simp only [spec_ShopText.l0, mid_end, g, ↓reduceIte]
    have := spec_ShopText_l1 l [] (s ++ nl) (by simp; omega) (by rw [ByteArray.size_append, nl_size]; simp at h1; omega) ho
    exact this
  | x :: q, p, s, hne, h, h1, hq => by
    have hp : p.length < 9223372036854775807 := by simp only [List.length_append, List.length_cons] at h; omega
    have ok := hq x (List.mem_cons_self ..)
    have zx := num_le ok
    have z1 : ((⟨#[32]⟩ : ByteArray)).size = 1 := rfl
    have hp0 : 0 < p.length := List.length_pos_iff.2 hne
    have g0 : ((p.length : Int) > 0) = True := by apply eq_true; omega
    simp only [List.length_cons] at h1
    have n1 : (s.size + 1 ≤ 9223372036854775807) = True := by apply eq_true; omega
    have n2 : (s.size + 1 + (num x).size ≤ 9223372036854775807) = True := by apply eq_true; omega
    refine ev_up ?_
    simp only [spec_ShopText.l0, mid_lt, mid_ge, rd_mid, g0, n1, wrap_mid p x hp, ↓reduceIte]
    refine ev_bind (spec_l1Num_ev ok) ?_
    simp only [ByteArray.size_append, z1, n2, ↓reduceIte]
    show Ev _ (loanLines (more (s ++ sp ++ num x) q ++ nl) l, true)
    rw [step_mid p q x] at h ⊢
    exact spec_ShopText_l0 st l hl ho q (p ++ [x]) (s ++ sp ++ num x) (by simp) h (by rw [ByteArray.size_append, ByteArray.size_append, sp_size]; omega) (fun y hy => hq y (List.mem_cons_of_mem _ hy))
def rShopText (st : List Int) (l : List S40) : ByteArray × Bool := if goodShop st l = true then (loanLines (line (st.drop 1) ++ nl) l, true) else (⟨#[]⟩, false)
theorem goodShop_num {st : List Int} {l : List S40} (h : goodShop st l = true) : ∀ n ∈ st.drop 1, okN n := by
  unfold goodShop at h
  simp only [Bool.and_eq_true, List.all_eq_true, decide_eq_true_eq] at h
  intro n hn
  exact h.2.1 n (List.mem_of_mem_drop hn)
theorem spec_ShopText_ev (st : List Int) (l : List S40) (hst : st.length ≤ 1048576) (hl : l.length ≤ 1048576) : Ev (fun k => spec_ShopText.f k st l) (rShopText st l) := by
  simp only [spec_ShopText.f]
  refine ev_bind (spec_psGood_ev st l (by omega) (by omega)) ?_
  unfold rShopText
  cases hg : goodShop st l
  · simpa using Ev.now _
  · have hn := goodShop_num hg
    have hln := goodShop_len hg
    have ho := goodShop_ok hg
    have g1 : (1 ≤ (st.length : Int)) = True := by apply eq_true; omega
    simp only [g1, ↓reduceIte]
    have hd : (st.drop 1).length = 7 := by rw [List.length_drop]; omega
    cases hq : st.drop 1 with
    | nil => rw [hq] at hd; simp at hd
    | cons x q =>
      rw [hq] at hd hn
      have ok := hn x (List.mem_cons_self ..)
      have zx := num_le ok
      have e0 : ((⟨#[]⟩ : ByteArray)).size = 0 := rfl
      have n2 : (((⟨#[]⟩ : ByteArray)).size + (num x).size ≤ 9223372036854775807) = True := by apply eq_true; rw [e0]; omega
      have hlt : ((0 : Int) < ((x :: q).length : Int)) = True := by apply eq_true; simp only [List.length_cons]; omega
      have hr : rd (x :: q) 0 = x := rfl
      have w0 : wrap64 ((0 : Int) + 1) = 1 := by decide +kernel
      have en : (⟨#[]⟩ : ByteArray) ++ num x = num x := by
        refine WideShapes.bytes_inj ?_
        simp [ByteArray.data_append]
      refine ev_up ?_
      simp only [spec_ShopText.l0, hlt, hr, w0, gt_iff_lt, Int.reduceLT, Int.reduceLE, ↓reduceIte]
      refine ev_bind (spec_l1Num_ev ok) ?_
      simp only [n2, en, ↓reduceIte]
      simp only [List.length_cons] at hd
      have := spec_ShopText_l0 st l hln.2 ho q [x] (num x) (by simp) (by simp; omega) (by omega) (fun y hy => hn y (List.mem_cons_of_mem _ hy))
      exact this
theorem impl_ShopText_l0 : ∀ (q p : List S40) (s : ByteArray), (p ++ q).length < 1000000000000000 → s.size + 5000 * q.length ≤ 1000000000000000000 → (∀ x ∈ q, okLoan x = true) → Ev (fun k => impl_ShopText.l0 k s (p ++ q) ((p ++ q).length : Int) (p.length : Int)) (loanLines s q, true)
  | [], p, s, h, h1, hq => by
    refine ev_up ?_
    simp only [impl_ShopText.l0, mid_end, ↓reduceIte]
    exact Ev.now _
  | x :: q, p, s, h, h1, hq => by
    have hp : p.length < 9223372036854775807 := by simp only [List.length_append, List.length_cons] at h; omega
    have ok := hq x (List.mem_cons_self ..)
    obtain ⟨a, b, c, d⟩ := okLoan_num ok
    have zl := line_size [x.f0, x.f1, x.f2, x.f3] (by simp [a, b, c, d])
    have z2 : ((⟨#[10]⟩ : ByteArray)).size = 1 := rfl
    have zl2 := loanLine_size ok
    simp only [List.length_cons, List.length_nil] at h1 zl
    have n1 : ((line [x.f0, x.f1, x.f2, x.f3]).size + 1 ≤ 9223372036854775807) = True := by apply eq_true; omega
    have n2 : (s.size + ((line [x.f0, x.f1, x.f2, x.f3]).size + 1) ≤ 9223372036854775807) = True := by apply eq_true; omega
    refine ev_up ?_
    simp only [impl_ShopText.l0, rd_T40, mid_lt, mid_ge, getD_mid, wrap_mid p x hp, ↓reduceIte]
    refine ev_bind (impl_numbersText_ev [x.f0, x.f1, x.f2, x.f3] (by simp) (by simp [a, b, c, d])) ?_
    simp only [ByteArray.size_append, z2, n1, n2, ↓reduceIte]
    show Ev _ (loanLines (s ++ loanLine x) q, true)
    rw [step_mid p q x] at h ⊢
    exact impl_ShopText_l0 q (p ++ [x]) (s ++ loanLine x) h (by rw [ByteArray.size_append]; omega) (fun y hy => hq y (List.mem_cons_of_mem _ hy))
theorem impl_ShopText_ev (st : List Int) (l : List S40) (hst : st.length ≤ 1048576) (hl : l.length ≤ 1048576) : Ev (fun k => impl_ShopText.f k st l) (rShopText st l) := by
  simp only [impl_ShopText.f]
  refine ev_bind (impl_IsShop_ev st l (by omega) (by omega)) ?_
  unfold rShopText
  cases hg : goodShop st l
  · simpa using Ev.now _
  · have hn := goodShop_num hg
    have hln := goodShop_len hg
    have ho := goodShop_ok hg
    have g1 : (1 ≤ (st.length : Int)) = True := by apply eq_true; omega
    have hd : (st.drop 1).length = 7 := by rw [List.length_drop]; omega
    have zl := line_size (st.drop 1) hn
    have n1 : ((line (st.drop 1)).size + 1 ≤ 9223372036854775807) = True := by apply eq_true; omega
    simp only [g1, ↓reduceIte]
    refine ev_bind (impl_numbersText_ev (st.drop 1) (by omega) hn) ?_
    simp only [n1, ↓reduceIte]
    have := impl_ShopText_l0 l [] (line (st.drop 1) ++ nl) (by simp; omega) (by rw [ByteArray.size_append, nl_size]; omega) ho
    exact this
theorem FnExactShopText (st : List Int) (l : List S51) (wst : st.length ≤ maxLen) (est : ∀ z ∈ st, (Lit.int .i64 z).wf = true) (wl : l.length ≤ maxLen) (el : ∀ z ∈ l, (Lit.int .i64 z.f0).wf = true ∧ (Lit.int .i64 z.f1).wf = true ∧ (Lit.int .i64 z.f2).wf = true ∧ (Lit.int .i64 z.f3).wf = true) : ∃ k, laws_FnExactShopText.f k st l = some true := by
  refine Ev.rounds (g := fun k => laws_FnExactShopText.f k st l) ?_
  by_cases hb : st.length + l.length ≤ 1048576
  · have hm := (show maxLen ≤ 9223372036854775807 by decide); have SZ := szShop_eq st l (by omega) (by omega)
    have hs1 : st.length ≤ 1048576 := by omega
    have hs2 : l.length ≤ 1048576 := by omega
    have hc1 : (1048576 - (st.length : Int) - (l.length : Int) < 0) = False := by apply eq_false; omega
    have hL : (l.map toLoan).length = l.length := by simp
    have TS := laws_toShop_ev st l hs1 hs2
    have ES := laws_eqShop_ev st (l.map toLoan) (by omega) (by omega)
    have S := spec_ShopText_ev st (l.map toLoan) hs1 (by omega)
    have I := impl_ShopText_ev st (l.map toLoan) hs1 (by omega)
    simp only [laws_FnExactShopText.f]
    repeat (first
      | exact Ev.now _
      | with_reducible refine ev_bind (by with_reducible assumption) ?_
      | simp only [*, Option.bind_some, bne_self_eq_false, ↓reduceIte, Bool.false_eq_true, gt_iff_lt]
      | (refine ev_up ?_; simp only [laws_FnExactShopText.j0]))
  · have hm := (show maxLen ≤ 9223372036854775807 by decide); have SZ := szShop_eq st l (by omega) (by omega)
    have hc1 : ((-1 : Int) < 0) = True := by apply eq_true; omega
    simp only [laws_FnExactShopText.f]
    repeat (first
      | exact Ev.now _
      | with_reducible refine ev_bind (by with_reducible assumption) ?_
      | simp only [*, Option.bind_some, bne_self_eq_false, ↓reduceIte, Bool.false_eq_true, gt_iff_lt])

end Go.Proofs.YthpjjfhkebppmaaDoor.Pure
