/- The law FnCuts of plain lists and numbers: whatever the input, it answers true. Condition: the lengths are those of rows that fit a machine. -/
import Derived.Test.YthhoobpmjgpkkaaQ3
namespace Go.Proofs.Ythhoobpmjgpkkaa.Pure
open Go.RowKit Go.Proofs.Ythhoobpmjgpkkaa.E Go.Proofs.YthhoobpmjgpkkaaW.PrintWords Go.Proofs.YthhoobpmjgpkkaaW.PrintLast Go.Proofs.YthhoobpmjgpkkaaW.PrintMore
set_option linter.unusedVariables false
set_option linter.unusedSimpArgs false

/-! ### Ground: rounds, and a row seen as what is behind and what is ahead -/
theorem ev_up {α : Type} {g : Nat → Option α} {r : α} (h : Ev (fun k => g (k + 1)) r) : Ev g r := by
  obtain ⟨K, hK⟩ := h
  refine ⟨K + 1, fun k hk => ?_⟩
  obtain ⟨m, rfl⟩ : ∃ m, k = m + 1 := ⟨k - 1, by omega⟩
  exact hK m (by omega)
theorem ev_eq {α : Type} {g : Nat → Option α} {r r' : α} (h : Ev g r) (e : r = r') : Ev g r' := e ▸ h
theorem ev_bind {α β : Type} {g : Nat → Option α} {f : Nat → α → Option β} {a : α} {r : β} (h : Ev g a) (k : Ev (fun n => f n a) r) : Ev (fun n => (g n).bind (f n)) r := Ev.bind h k
theorem mid_lt {α : Type} (p q : List α) (x : α) : ((p.length : Int) < ((p ++ x :: q).length : Int)) = True := by
  apply eq_true; simp only [List.length_append, List.length_cons]; omega
theorem mid_lt2 {α β : Type} (p : List α) (p' q : List β) (x : β) (h : p.length = p'.length) : ((p.length : Int) < ((p' ++ x :: q).length : Int)) = True := by
  apply eq_true; simp only [List.length_append, List.length_cons]; omega
theorem mid_ge {α : Type} (p : List α) : (0 ≤ (p.length : Int)) = True := by apply eq_true; omega
theorem mid_end {α : Type} (p : List α) : ((p.length : Int) < ((p ++ []).length : Int)) = False := by simp
theorem mid_lt_l {α : Type} (p : List α) (x : α) (q : List α) : ((p.length : Int) < (p.length : Int) + ((x :: q).length : Int)) = True := by
  apply eq_true; simp only [List.length_cons]; omega
theorem rd_mid (p q : List Int) (x : Int) : rd (p ++ x :: q) (p.length : Int) = x := by simp [rd]
theorem rd_mid2 {α : Type} (p : List α) (p' q : List Int) (x : Int) (h : p.length = p'.length) : rd (p' ++ x :: q) (p.length : Int) = x := by simp [rd, h]
theorem getD_mid {α : Type} (p q : List α) (x z : α) : (p ++ x :: q).getD ((p.length : Int)).toNat z = x := by simp
theorem getD_mid2 {α β : Type} (p : List α) (p' q : List β) (x z : β) (h : p.length = p'.length) : (p' ++ x :: q).getD ((p.length : Int)).toNat z = x := by simp [h]
theorem set_mid {α : Type} (p q : List α) (x y : α) : (p ++ x :: q).set ((p.length : Int)).toNat y = p ++ y :: q := by simp
theorem set_mid2 {α β : Type} (p : List α) (p' q : List β) (x y : β) (h : p.length = p'.length) : (p' ++ x :: q).set ((p.length : Int)).toNat y = p' ++ y :: q := by simp [h]
theorem wrap_mid {α : Type} (p : List α) (x : α) (h : p.length < 9223372036854775807) : wrap64 ((p.length : Int) + 1) = ((p ++ [x]).length : Int) := by
  unfold wrap64; simp only [List.length_append, List.length_singleton]; omega
theorem step_mid {α : Type} (p q : List α) (x : α) : p ++ x :: q = (p ++ [x]) ++ q := by simp
theorem wrap_id {x : Int} (h0 : -9223372036854775808 ≤ x) (h1 : x ≤ 9223372036854775807) : wrap64 x = x := by unfold wrap64; omega
theorem wf_i64 {x : Int} (h : (Lit.int .i64 x).wf = true) : -9223372036854775808 ≤ x ∧ x ≤ 9223372036854775807 := by
  have h1 : IntKind.i64.min = -9223372036854775808 := by decide +kernel
  have h2 : IntKind.i64.max = 9223372036854775807 := by decide +kernel
  simp only [Lit.wf, h1, h2, Bool.and_eq_true, decide_eq_true_eq] at h
  omega
theorem l1In_eq (a lo hi : Int) : spec_l1In.f a lo hi = some (decide (lo ≤ a ∧ a ≤ hi)) := by
  by_cases h : lo ≤ a <;> simp [spec_l1In.f, h]
theorem spec_l1All_l0 (lo hi : Int) : ∀ (q p : List Int), (p ++ q).length < 9223372036854775807 → Ev (fun k => spec_l1All.l0 k lo hi (p ++ q) ((p ++ q).length : Int) (p.length : Int)) (q.all fun x => decide (lo ≤ x ∧ x ≤ hi))
  | [], p, h => by
    refine ev_up ?_
    simp only [spec_l1All.l0, mid_end, ↓reduceIte]
    exact Ev.now _
  | x :: q, p, h => by
    have hp : p.length < 9223372036854775807 := by simp only [List.length_append, List.length_cons] at h; omega
    refine ev_up ?_
    simp only [spec_l1All.l0, l1In_eq, Option.bind_some, mid_lt, mid_ge, rd_mid, wrap_mid p x hp, ↓reduceIte, List.all_cons]
    cases decide (lo ≤ x ∧ x ≤ hi) with
    | false => simpa using Ev.now _
    | true =>
      simp only [↓reduceIte, Bool.true_and]
      rw [step_mid p q x] at h ⊢
      exact spec_l1All_l0 lo hi q (p ++ [x]) h
theorem spec_l1All_ev (l : List Int) (lo hi : Int) (h : l.length < 9223372036854775807) : Ev (fun k => spec_l1All.f k l lo hi) (l.all fun x => decide (lo ≤ x ∧ x ≤ hi)) := by
  simpa [spec_l1All.f] using spec_l1All_l0 lo hi l [] (by simpa using h)
theorem l1Own_eq (l : List Int) (h : l.length < 17592186044416) : spec_l1Own.f l = some l := by
  simp [spec_l1Own.f, h]
theorem l1Least_eq (a b : Int) : spec_l1Least.f a b = some (mn a b) := by
  unfold spec_l1Least.f mn; split <;> split <;> first | rfl | (congr 1; omega)
/-- A valid record. -/
def okRec (r : S72) : Bool := decide ((r.f0 = 1 ∧ 0 ≤ r.f1 ∧ r.f1 ≤ 7 ∧ 0 ≤ r.f2 ∧ r.f2 ≤ 999) ∨ (r.f0 = 2 ∧ r.f1 = 0 ∧ r.f2 = 0))
def goodRecs (l : List S72) : Bool := l.all okRec && decide (l.length ≤ 40)
def goodNums (l : List Int) : Bool := (l.all fun x => decide (0 ≤ x ∧ x ≤ 9999)) && decide (l.length ≤ 200)
theorem jrRecord_eq (a b c : Int) : spec_jrRecord.f a b c = some (okRec ⟨a, b, c⟩) := by
  simp only [spec_jrRecord.f, okRec, l1In_eq, Option.bind_some]
  repeat' split
  all_goals
    simp only [Option.some.injEq]
    rw [Bool.eq_iff_iff]
    simp_all
    try omega
theorem IsJournalRecord_eq (a b c : Int) : impl_IsJournalRecord.f a b c = some (okRec ⟨a, b, c⟩) := by
  simp only [impl_IsJournalRecord.f, okRec]
  repeat' split
  all_goals
    simp only [Option.some.injEq]
    rw [Bool.eq_iff_iff]
    simp_all
    try omega
theorem spec_jrGood_l0 (x0 : List S72) : ∀ (q p : List S72), (p ++ q).length < 9223372036854775807 → Ev (fun k => spec_jrGood.l0 k x0 (p ++ q) ((p ++ q).length : Int) (p.length : Int)) (q.all okRec && decide (x0.length ≤ 40))
  | [], p, h => by
    refine ev_up ?_
    simp only [spec_jrGood.l0, mid_end, ↓reduceIte]
    exact ev_eq (Ev.now _) (by simp; omega)
  | x :: q, p, h => by
    have hp : p.length < 9223372036854775807 := by simp only [List.length_append, List.length_cons] at h; omega
    refine ev_up ?_
    simp only [spec_jrGood.l0, jrRecord_eq, Option.bind_some, rd_T72, mid_lt, mid_ge, getD_mid, wrap_mid p x hp, ↓reduceIte, List.all_cons]
    cases okRec x with
    | false => simpa using Ev.now _
    | true =>
      simp only [↓reduceIte, Bool.true_and]
      rw [step_mid p q x] at h ⊢
      exact spec_jrGood_l0 x0 q (p ++ [x]) h
theorem spec_jrGood_ev (l : List S72) (h : l.length < 9223372036854775807) : Ev (fun k => spec_jrGood.f k l) (goodRecs l) := by
  simpa [spec_jrGood.f, goodRecs] using spec_jrGood_l0 l l [] (by simpa using h)
theorem impl_areRecords_l0 : ∀ (q p : List S72), (p ++ q).length < 9223372036854775807 → Ev (fun k => impl_areRecords.l0 k (p ++ q) ((p ++ q).length : Int) (p.length : Int)) (q.all okRec)
  | [], p, h => by
    refine ev_up ?_
    simp only [impl_areRecords.l0, mid_end, ↓reduceIte]
    exact ev_eq (Ev.now _) (by simp)
  | x :: q, p, h => by
    have hp : p.length < 9223372036854775807 := by simp only [List.length_append, List.length_cons] at h; omega
    refine ev_up ?_
    simp only [impl_areRecords.l0, IsJournalRecord_eq, Option.bind_some, rd_T72, mid_lt, mid_ge, getD_mid, wrap_mid p x hp, ↓reduceIte, List.all_cons]
    cases okRec x with
    | false => simpa using Ev.now _
    | true =>
      simp only [↓reduceIte, Bool.true_and]
      rw [step_mid p q x] at h ⊢
      exact impl_areRecords_l0 q (p ++ [x]) h
theorem impl_areRecords_ev (l : List S72) (h : l.length < 9223372036854775807) : Ev (fun k => impl_areRecords.f k l) (goodRecs l) := by
  unfold goodRecs
  by_cases hl : l.length ≤ 40
  · have : ¬ ((l.length : Int) > 40) := by omega
    simp only [impl_areRecords.f, this, ↓reduceIte, hl, decide_true, Bool.and_true]
    simpa using impl_areRecords_l0 l [] (by simpa using h)
  · have : ((l.length : Int) > 40) := by omega
    simp only [impl_areRecords.f, this, ↓reduceIte, hl, decide_false, Bool.and_false]
    exact Ev.now _
theorem spec_jrList_ev (l : List Int) (h : l.length < 9223372036854775807) : Ev (fun k => spec_jrList.f k l) (goodNums l) := by
  unfold goodNums
  by_cases hl : l.length ≤ 200
  · have : ((l.length : Int) ≤ 200) := by omega
    simp only [spec_jrList.f, this, ↓reduceIte, hl, decide_true, Bool.and_true]
    exact ev_bind (spec_l1All_ev l 0 9999 h) (Ev.now _)
  · have : ¬ ((l.length : Int) ≤ 200) := by omega
    simp only [spec_jrList.f, this, ↓reduceIte, hl, decide_false, Bool.and_false]
    exact Ev.now _
theorem impl_areNumbers_l0 : ∀ (q p : List Int), (p ++ q).length < 9223372036854775807 → Ev (fun k => impl_areNumbers.l0 k (p ++ q) ((p ++ q).length : Int) (p.length : Int)) (q.all fun x => decide (0 ≤ x ∧ x ≤ 9999))
  | [], p, h => by
    refine ev_up ?_
    simp only [impl_areNumbers.l0, mid_end, ↓reduceIte]
    exact ev_eq (Ev.now _) (by simp)
  | x :: q, p, h => by
    have hp : p.length < 9223372036854775807 := by simp only [List.length_append, List.length_cons] at h; omega
    refine ev_up ?_
    simp only [impl_areNumbers.l0, mid_lt, mid_ge, rd_mid, wrap_mid p x hp, ↓reduceIte, List.all_cons]
    by_cases h0 : x < 0
    · simp only [h0, ↓reduceIte]
      exact ev_eq (Ev.now _) (by have : ¬ 0 ≤ x := by omega
                                 simp [this])
    · by_cases h1 : x > 9999
      · simp only [h0, h1, ↓reduceIte]
        exact ev_eq (Ev.now _) (by have : ¬ x ≤ 9999 := by omega
                                   simp [this])
      · simp only [h0, h1, ↓reduceIte]
        have e : decide (0 ≤ x ∧ x ≤ 9999) = true := by rw [decide_eq_true_iff]; omega
        rw [e, Bool.true_and]
        rw [step_mid p q x] at h ⊢
        exact impl_areNumbers_l0 q (p ++ [x]) h
theorem impl_areNumbers_ev (l : List Int) (h : l.length < 9223372036854775807) : Ev (fun k => impl_areNumbers.f k l) (goodNums l) := by
  unfold goodNums
  by_cases hl : l.length ≤ 200
  · have : ¬ ((l.length : Int) > 200) := by omega
    simp only [impl_areNumbers.f, this, ↓reduceIte, hl, decide_true, Bool.and_true]
    simpa using impl_areNumbers_l0 l [] (by simpa using h)
  · have : ((l.length : Int) > 200) := by omega
    simp only [impl_areNumbers.f, this, ↓reduceIte, hl, decide_false, Bool.and_false]
    exact Ev.now _
/-- The end of the committed part: e so far, i records are behind. -/
def endOf : Nat → Nat → List S72 → Nat
  | _, e, [] => e
  | i, e, x :: q => endOf (i + 1) (if x.f0 = 2 then i + 1 else e) q
theorem endOf_le : ∀ (q : List S72) (i e : Nat), e ≤ i → e ≤ endOf i e q ∧ endOf i e q ≤ i + q.length
  | [], i, e, h => by simp [endOf, h]
  | x :: q, i, e, h => by
    simp only [endOf, List.length_cons]
    have := endOf_le q (i + 1) (if x.f0 = 2 then i + 1 else e) (by split <;> omega)
    split at this <;> rename_i hx <;> simp only [hx, ↓reduceIte] <;> omega
theorem endOf_snoc : ∀ (q : List S72) (x : S72) (i e : Nat), endOf i e (q ++ [x]) = if x.f0 = 2 then i + q.length + 1 else endOf i e q
  | [], x, i, e => by simp [endOf]
  | y :: q, x, i, e => by
    simp only [List.cons_append, endOf, endOf_snoc q x, List.length_cons]
    split <;> first | rfl | omega
def committed (l : List S72) : List S72 := l.take (endOf 0 0 l)
theorem committed_len (l : List S72) : (committed l).length ≤ l.length := by unfold committed; simp [List.length_take]; omega
theorem committed_mem (l : List S72) : ∀ x ∈ committed l, x ∈ l := fun _ h => List.mem_of_mem_take h
theorem spec_jrCommitted_l0 (x0 : List S72) (hx0 : x0.length < 5864062014805) : ∀ (q p : List S72) (e : Nat), (p ++ q).length ≤ x0.length → e ≤ p.length → Ev (fun k => spec_jrCommitted.l0 k x0 (e : Int) (p ++ q) ((p ++ q).length : Int) (p.length : Int)) (x0.take (endOf p.length e q))
  | [], p, e, h, he => by
    refine ev_up ?_
    have h2 : (0 ≤ (e : Int)) = True := by apply eq_true; omega
    have h3 : ((e : Int) ≤ (x0.length : Int)) = True := by apply eq_true; simp at h; omega
    have h4 : (([] : List S72).length + (x0.take ((e : Int)).toNat).length < 5864062014805) = True := by apply eq_true; simp [List.length_take]; omega
    simp only [spec_jrCommitted.l0, mid_end, ↓reduceIte, Option.bind_some, h2, h3, h4]
    exact ev_eq (Ev.now _) (by simp [endOf])
  | x :: q, p, e, h, he => by
    have hp : p.length < 9223372036854775807 := by simp only [List.length_append, List.length_cons] at h; omega
    refine ev_up ?_
    simp only [spec_jrCommitted.l0, rd_T72, mid_lt, mid_ge, getD_mid, wrap_mid p x hp, ↓reduceIte, endOf]
    rw [step_mid p q x] at h ⊢
    have hlen : (p ++ [x]).length = p.length + 1 := by simp
    by_cases hx : x.f0 = 2
    · simp only [hx, ↓reduceIte]
      have := spec_jrCommitted_l0 x0 hx0 q (p ++ [x]) (p.length + 1) h (by simp)
      rw [hlen] at this ⊢
      exact this
    · simp only [hx, ↓reduceIte]
      have := spec_jrCommitted_l0 x0 hx0 q (p ++ [x]) e h (by simp; omega)
      rw [hlen] at this ⊢
      exact this
theorem spec_jrCommitted_ev (l : List S72) (h : l.length < 5864062014805) : Ev (fun k => spec_jrCommitted.f k l) (committed l) := by
  simpa [spec_jrCommitted.f, committed] using spec_jrCommitted_l0 l h l [] 0 (by simp) (by simp)
theorem impl_committedPart_l0 : ∀ (n : Nat) (p q : List S72), p.length = n → (p ++ q).length < 5864062014805 → Ev (fun k => impl_committedPart.l0 k (p ++ q) (p.length : Int)) ((p ++ q).take (endOf 0 0 p))
  | 0, p, q, hn, h => by
    obtain rfl : p = [] := List.eq_nil_of_length_eq_zero hn
    refine ev_up ?_
    simp [impl_committedPart.l0]
    exact Ev.now _
  | n + 1, p, q, hn, h => by
    obtain ⟨p', x, rfl⟩ : ∃ p' x, p = p' ++ [x] := by
      rcases List.eq_nil_or_concat p with rfl | ⟨p', x, rfl⟩
      · simp at hn
      · exact ⟨p', x, by simp⟩
    have hn' : p'.length = n := by simpa using hn
    have e1 : p' ++ [x] ++ q = p' ++ x :: q := by simp
    have h1 : (((p' ++ [x]).length : Int) > 0) = True := by apply eq_true; simp only [List.length_append, List.length_singleton]; omega
    have h2 : wrap64 (((p' ++ [x]).length : Int) - 1) = (p'.length : Int) := by
      simp only [List.length_append, List.length_singleton] at h ⊢; unfold wrap64; omega
    have h3 : (0 ≤ ((p' ++ [x]).length : Int)) = True := by apply eq_true; omega
    have h4 : (((p' ++ [x]).length : Int) ≤ ((p' ++ x :: q).length : Int)) = True := by apply eq_true; simp only [List.length_append, List.length_cons, List.length_nil]; omega
    have h5 : (([] : List S72).length + ((p' ++ x :: q).take (((p' ++ [x]).length : Int)).toNat).length < 5864062014805) = True := by apply eq_true; rw [e1] at h; simp only [List.length_nil, List.length_take]; omega
    refine ev_up ?_
    rw [e1] at h ⊢
    simp only [impl_committedPart.l0, h1, h2, h3, h4, h5, rd_T72, mid_lt, mid_ge, getD_mid, ↓reduceIte, Option.bind_some, endOf_snoc]
    by_cases hx : x.f0 = 2
    · simp only [hx, ↓reduceIte]
      exact ev_eq (Ev.now _) (by simp)
    · simp only [hx, ↓reduceIte]
      exact impl_committedPart_l0 n p' (x :: q) hn' h
theorem impl_committedPart_ev (l : List S72) (h : l.length < 5864062014805) : Ev (fun k => impl_committedPart.f k l) (committed l) := by
  simpa [impl_committedPart.f, committed] using impl_committedPart_l0 l.length l [] rfl (by simpa using h)
/-- The numbers of record n. -/
def recNums (r : S72) (n : Int) : List Int := [r.f0, r.f1, r.f2, n, Int.tmod (wrap64 ((wrap64 ((wrap64 ((wrap64 ((wrap64 (3 * r.f0)) + (wrap64 (5 * r.f1)))) + (wrap64 (7 * r.f2)))) + (wrap64 (11 * n)))) + 13)) 997]
theorem recNums_len (r : S72) (n : Int) : (recNums r n).length = 5 := rfl
/-- The journal of records, from record i on. -/
def numsFrom : Nat → List S72 → List Int
  | _, [] => []
  | i, x :: q => recNums x i ++ numsFrom (i + 1) q
theorem numsFrom_len : ∀ (q : List S72) (i : Nat), (numsFrom i q).length = 5 * q.length
  | [], _ => rfl
  | x :: q, i => by simp only [numsFrom, List.length_append, recNums_len, numsFrom_len q, List.length_cons]; omega
theorem jrOf_eq (a b c n : Int) : spec_jrOf.f a b c n = some (recNums ⟨a, b, c⟩ n) := rfl
theorem recordNumbers_eq (a b c n : Int) : impl_recordNumbers.f a b c n = some (recNums ⟨a, b, c⟩ n) := rfl
theorem spec_jrAll_l0 : ∀ (q p : List S72) (acc : List Int), (p ++ q).length < 9223372036854775807 → acc.length + 5 * q.length < 17592186044416 → Ev (fun k => spec_jrAll.l0 k acc (p ++ q) ((p ++ q).length : Int) (p.length : Int)) (acc ++ numsFrom p.length q)
  | [], p, acc, h, ha => by
    refine ev_up ?_
    simp only [spec_jrAll.l0, mid_end, ↓reduceIte]
    exact ev_eq (Ev.now _) (by simp [numsFrom])
  | x :: q, p, acc, h, ha => by
    have hp : p.length < 9223372036854775807 := by simp only [List.length_append, List.length_cons] at h; omega
    have hr : (acc.length + (recNums x (p.length : Int)).length < 17592186044416) = True := by apply eq_true; simp only [recNums_len]; simp only [List.length_cons] at ha; omega
    refine ev_up ?_
    simp only [spec_jrAll.l0, jrOf_eq, Option.bind_some, rd_T72, mid_lt, mid_ge, getD_mid, wrap_mid p x hp, hr, ↓reduceIte, numsFrom]
    rw [step_mid p q x] at h ⊢
    have := spec_jrAll_l0 q (p ++ [x]) (acc ++ recNums x (p.length : Int)) h (by simp only [List.length_append, recNums_len, List.length_cons] at ha ⊢; omega)
    rw [List.append_assoc] at this
    simpa using this
theorem spec_jrAll_ev (l : List S72) (h : l.length < 1000000000000) : Ev (fun k => spec_jrAll.f k l) (numsFrom 0 l) := by
  simpa [spec_jrAll.f] using spec_jrAll_l0 l [] [] (by simp; omega) (by simp; omega)
theorem impl_journalNumbers_l0 : ∀ (q p : List S72) (acc : List Int), (p ++ q).length < 9223372036854775807 → acc.length + 5 * q.length < 17592186044416 → Ev (fun k => impl_journalNumbers.l0 k acc (p ++ q) ((p ++ q).length : Int) (p.length : Int)) (acc ++ numsFrom p.length q)
  | [], p, acc, h, ha => by
    refine ev_up ?_
    simp only [impl_journalNumbers.l0, mid_end, ↓reduceIte]
    exact ev_eq (Ev.now _) (by simp [numsFrom])
  | x :: q, p, acc, h, ha => by
    have hp : p.length < 9223372036854775807 := by simp only [List.length_append, List.length_cons] at h; omega
    have hr : (acc.length + (recNums x (p.length : Int)).length < 17592186044416) = True := by apply eq_true; simp only [recNums_len]; simp only [List.length_cons] at ha; omega
    refine ev_up ?_
    simp only [impl_journalNumbers.l0, recordNumbers_eq, Option.bind_some, rd_T72, mid_lt, mid_ge, getD_mid, wrap_mid p x hp, hr, ↓reduceIte, numsFrom]
    rw [step_mid p q x] at h ⊢
    have := impl_journalNumbers_l0 q (p ++ [x]) (acc ++ recNums x (p.length : Int)) h (by simp only [List.length_append, recNums_len, List.length_cons] at ha ⊢; omega)
    rw [List.append_assoc] at this
    simpa using this
theorem impl_journalNumbers_ev (l : List S72) (h : l.length < 1000000000000) : Ev (fun k => impl_journalNumbers.f k l) (numsFrom 0 l) := by
  simpa [impl_journalNumbers.f] using impl_journalNumbers_l0 l [] [] (by simp; omega) (by simp; omega)
theorem spec_l1Same_l0 : ∀ (q q' p p' : List Int), p.length = p'.length → q.length = q'.length → (p ++ q).length < 9223372036854775807 → Ev (fun k => spec_l1Same.l0 k (p ++ q) (p' ++ q') ((p ++ q).length : Int) (p.length : Int)) (decide (q = q'))
  | [], q', p, p', hl, hq, h => by
    obtain rfl : q' = [] := List.eq_nil_of_length_eq_zero hq.symm
    refine ev_up ?_
    simp only [spec_l1Same.l0, mid_end, ↓reduceIte]
    exact ev_eq (Ev.now _) (by simp)
  | x :: q, [], p, p', hl, hq, h => by simp at hq
  | x :: q, y :: q', p, p', hl, hq, h => by
    have hp : p.length < 9223372036854775807 := by simp only [List.length_append, List.length_cons] at h; omega
    refine ev_up ?_
    simp only [spec_l1Same.l0, mid_lt, mid_ge, mid_lt2 p p' q' y hl, rd_mid, rd_mid2 p p' q' y hl, wrap_mid p x hp, ↓reduceIte]
    by_cases e : x = y
    · subst e
      simp only [↓reduceIte]
      rw [step_mid p q x, step_mid p' q' x]
      rw [step_mid p q x] at h
      exact ev_eq (spec_l1Same_l0 q q' (p ++ [x]) (p' ++ [x]) (by simp [hl]) (by simpa using hq) h) (by simp)
    · simp only [e, ↓reduceIte]
      exact ev_eq (Ev.now _) (by simp [e])
theorem spec_l1Same_ev (a b : List Int) (h : a.length < 9223372036854775807) : Ev (fun k => spec_l1Same.f k a b) (decide (a = b)) := by
  by_cases hl : a.length = b.length
  · have e : ((a.length : Int) = (b.length : Int)) = True := by apply eq_true; omega
    simp only [spec_l1Same.f, e, ↓reduceIte]
    simpa using spec_l1Same_l0 a b [] [] rfl hl (by simpa using h)
  · have e : ¬ ((a.length : Int) = (b.length : Int)) := by omega
    simp only [spec_l1Same.f, e, ↓reduceIte]
    exact ev_eq (Ev.now _) (by
      symm; rw [decide_eq_false_iff_not]
      intro he; exact hl (by rw [he]))
theorem slices_Equal_int_int_l0 : ∀ (q q' p p' : List Int), p.length = p'.length → q.length = q'.length → (p ++ q).length < 9223372036854775807 → Ev (fun k => slices_Equal_int_int.l0 k (p ++ q) (p' ++ q') ((p ++ q).length : Int) (p.length : Int)) (decide (q = q'))
  | [], q', p, p', hl, hq, h => by
    obtain rfl : q' = [] := List.eq_nil_of_length_eq_zero hq.symm
    refine ev_up ?_
    simp only [slices_Equal_int_int.l0, mid_end, ↓reduceIte]
    exact ev_eq (Ev.now _) (by simp)
  | x :: q, [], p, p', hl, hq, h => by simp at hq
  | x :: q, y :: q', p, p', hl, hq, h => by
    have hp : p.length < 9223372036854775807 := by simp only [List.length_append, List.length_cons] at h; omega
    refine ev_up ?_
    simp only [slices_Equal_int_int.l0, mid_lt, mid_ge, mid_lt2 p p' q' y hl, rd_mid, rd_mid2 p p' q' y hl, wrap_mid p x hp, ↓reduceIte]
    by_cases e : x = y
    · subst e
      simp only [↓reduceIte]
      rw [step_mid p q x, step_mid p' q' x]
      rw [step_mid p q x] at h
      exact ev_eq (slices_Equal_int_int_l0 q q' (p ++ [x]) (p' ++ [x]) (by simp [hl]) (by simpa using hq) h) (by simp)
    · simp only [e, ↓reduceIte]
      exact ev_eq (Ev.now _) (by simp [e])
theorem slices_Equal_int_int_ev (a b : List Int) (h : a.length < 9223372036854775807) : Ev (fun k => slices_Equal_int_int.f k a b) (decide (a = b)) := by
  by_cases hl : a.length = b.length
  · have e : ((a.length : Int) = (b.length : Int)) = True := by apply eq_true; omega
    simp only [slices_Equal_int_int.f, e, ↓reduceIte]
    simpa using slices_Equal_int_int_l0 a b [] [] rfl hl (by simpa using h)
  · have e : ¬ ((a.length : Int) = (b.length : Int)) := by omega
    simp only [slices_Equal_int_int.f, e, ↓reduceIte]
    exact ev_eq (Ev.now _) (by
      symm; rw [decide_eq_false_iff_not]
      intro he; exact hl (by rw [he]))
theorem rd_at (p q : List Int) (j : Nat) : rd (p ++ q) ((p.length : Int) + (j : Int)) = q.getD j 0 := by
  have : ((p.length : Int) + (j : Int)).toNat = p.length + j := by omega
  unfold rd
  rw [this, List.getD_eq_getElem?_getD, List.getD_eq_getElem?_getD, List.getElem?_append_right (by omega), Nat.add_sub_cancel_left]
theorem five {q : List Int} (h : ¬ q.length < 5) : ∃ a b c d e r, q = a :: b :: c :: d :: e :: r := by
  match q, h with
  | a :: b :: c :: d :: e :: r, _ => exact ⟨a, b, c, d, e, r, rfl⟩
  | [], h => simp at h
  | [_], h => simp at h
  | [_, _], h => simp at h
  | [_, _, _], h => simp at h
  | [_, _, _, _], h => simp at h
/-- The records that are recovered, n are before. -/
def recFrom : Nat → List Int → List S72
  | n, a :: b :: c :: d :: e :: r => if n < 40 ∧ okRec ⟨a, b, c⟩ = true ∧ recNums ⟨a, b, c⟩ n = [a, b, c, d, e] then ⟨a, b, c⟩ :: recFrom (n + 1) r else []
  | _, _ => []
theorem recFrom_short (n : Nat) {q : List Int} (h : q.length < 5) : recFrom n q = [] := by
  match q, h with
  | [], _ => rfl
  | [_], _ => rfl
  | [_, _], _ => rfl
  | [_, _, _], _ => rfl
  | [_, _, _, _], _ => rfl
  | _ :: _ :: _ :: _ :: _ :: _, h => simp at h; omega
theorem recFrom_ok : ∀ (m : Nat) (q : List Int) (n : Nat), q.length ≤ m → (∀ r ∈ recFrom n q, okRec r = true) ∧ n + (recFrom n q).length ≤ max n 40
  | m, q, n, hm => by
    by_cases hq : q.length < 5
    · rw [recFrom_short n hq]; simp; omega
    · obtain ⟨a, b, c, d, e, r, rfl⟩ := five hq
      match m, hm with
      | 0, hm => simp at hm
      | m + 1, hm =>
        simp only [recFrom]
        split
        · rename_i h
          obtain ⟨h1, h2⟩ := recFrom_ok m r (n + 1) (by simp at hm; omega)
          refine ⟨fun x hx => ?_, ?_⟩
          · rcases List.mem_cons.1 hx with rfl | hx
            · exact h.2.1
            · exact h1 x hx
          · simp only [List.length_cons]; omega
        · simp; omega
def recovered (q : List Int) : List S72 := recFrom 0 q
theorem recovered_ok (q : List Int) : ∀ r ∈ recovered q, okRec r = true := (recFrom_ok q.length q 0 (Nat.le_refl _)).1
theorem recovered_len (q : List Int) : (recovered q).length ≤ 40 := by have := (recFrom_ok q.length q 0 (Nat.le_refl _)).2; unfold recovered; omega
theorem slice_five (p : List Int) (a b c d e : Int) (r : List Int) : ((p ++ a :: b :: c :: d :: e :: r).take ((p.length : Int) + 5).toNat).drop ((p.length : Int)).toNat = [a, b, c, d, e] := by
  have h1 : ((p.length : Int) + 5).toNat = p.length + 5 := by omega
  have h2 : ((p.length : Int)).toNat = p.length := by omega
  rw [h1, h2, List.take_append, List.take_of_length_le (by omega : p.length ≤ p.length + 5), Nat.add_sub_cancel_left]
  simp
theorem spec_jrRecover_l0 : ∀ (m : Nat) (q p : List Int) (out : List S72), q.length ≤ m → p.length = 5 * out.length → (p ++ q).length < 1000000000000 → Ev (fun k => spec_jrRecover.l0 k (p ++ q) out (p.length : Int)) (out ++ recFrom out.length q)
  | m, q, p, out, hm, hp, h => by
    have hp5 : wrap64 ((p.length : Int) + 5) = (p.length : Int) + 5 := wrap_id (by omega) (by simp only [List.length_append] at h; omega)
    by_cases hq : q.length < 5
    · have h1 : ((p.length : Int) + 5 ≤ ((p ++ q).length : Int)) = False := by apply eq_false; simp only [List.length_append]; omega
      refine ev_up (ev_up ?_)
      simp only [spec_jrRecover.l0, spec_jrRecover.j1, hp5, h1, ↓reduceIte, Bool.false_eq_true]
      exact ev_eq (Ev.now _) (by rw [recFrom_short _ hq, List.append_nil])
    · obtain ⟨a, b, c, d, e, r, rfl⟩ := five hq
      have h1 : ((p.length : Int) + 5 ≤ ((p ++ a :: b :: c :: d :: e :: r).length : Int)) = True := by apply eq_true; simp only [List.length_append, List.length_cons]; omega
      have h2 : wrap64 ((p.length : Int) + 1) = (p.length : Int) + 1 := wrap_id (by omega) (by simp only [List.length_append] at h; omega)
      have h3 : wrap64 ((p.length : Int) + 2) = (p.length : Int) + 2 := wrap_id (by omega) (by simp only [List.length_append] at h; omega)
      have h4 : (0 ≤ (p.length : Int) + 1) = True := by apply eq_true; omega
      have h5 : (0 ≤ (p.length : Int) + 2) = True := by apply eq_true; omega
      have h6 : ((p.length : Int) + 1 < ((p ++ a :: b :: c :: d :: e :: r).length : Int)) = True := by apply eq_true; simp only [List.length_append, List.length_cons]; omega
      have h7 : ((p.length : Int) + 2 < ((p ++ a :: b :: c :: d :: e :: r).length : Int)) = True := by apply eq_true; simp only [List.length_append, List.length_cons]; omega
      have h8 : ((p.length : Int) ≤ (p.length : Int) + 5) = True := by apply eq_true; omega
      have r1 : rd (p ++ a :: b :: c :: d :: e :: r) ((p.length : Int) + 1) = b := rd_at p _ 1
      have r2 : rd (p ++ a :: b :: c :: d :: e :: r) ((p.length : Int) + 2) = c := rd_at p _ 2
      refine ev_up (ev_up ?_)
      simp only [spec_jrRecover.l0, spec_jrRecover.j1, hp5, h1, h2, h3, h4, h5, h6, h7, h8, r1, r2, rd_mid, mid_lt, mid_ge, jrRecord_eq, jrOf_eq, slice_five, Option.bind_some, ↓reduceIte, recFrom]
      by_cases hn : out.length < 40
      · have hn' : ((out.length : Int) < 40) = True := by apply eq_true; omega
        simp only [hn', decide_true, ↓reduceIte]
        by_cases hok : okRec ⟨a, b, c⟩ = true
        · simp only [hok, ↓reduceIte]
          refine ev_bind (spec_l1Same_ev _ _ (by simp [recNums_len])) ?_
          by_cases hr : recNums ⟨a, b, c⟩ (out.length : Int) = [a, b, c, d, e]
          · have ho : (out.length < 5864062014805) = True := by apply eq_true; omega
            simp only [hr, decide_true, ho, hn, and_self, ↓reduceIte]
            match m, hm with
            | 0, hm => simp at hm
            | m + 1, hm =>
              have := spec_jrRecover_l0 m r (p ++ [a, b, c, d, e]) (out ++ [⟨a, b, c⟩]) (by simp at hm; omega) (by simp; omega) (by simpa using h)
              simpa [List.append_assoc] using this
          · simp only [hr, decide_false, and_false, ↓reduceIte, Bool.false_eq_true, List.append_nil]
            exact Ev.now _
        · simp only [hok, ↓reduceIte, Bool.false_eq_true, false_and, and_false, List.append_nil]
          exact Ev.now _
      · have hn' : ((out.length : Int) < 40) = False := by apply eq_false; omega
        simp only [hn', hn, decide_false, ↓reduceIte, Bool.false_eq_true, false_and, List.append_nil]
        exact Ev.now _
theorem spec_jrRecover_ev (l : List Int) (h : l.length < 1000000000000) : Ev (fun k => spec_jrRecover.f k l) (recovered l) := by
  simpa [spec_jrRecover.f, recovered] using spec_jrRecover_l0 l.length l [] [] (Nat.le_refl _) rfl (by simpa using h)
theorem impl_recovered_l0 : ∀ (m : Nat) (q p : List Int) (out : List S72), q.length ≤ m → p.length = 5 * out.length → (p ++ q).length < 1000000000000 → Ev (fun k => impl_recovered.l0 k (p ++ q) out (out.length : Int)) (out ++ recFrom out.length q)
  | m, q, p, out, hm, hp, h => by
    have hw : wrap64 (5 * (out.length : Int)) = (p.length : Int) := by rw [wrap_id (by omega) (by simp only [List.length_append] at h; omega)]; omega
    have hp5 : wrap64 ((p.length : Int) + 5) = (p.length : Int) + 5 := wrap_id (by omega) (by simp only [List.length_append] at h; omega)
    by_cases hn : out.length < 40
    · have hn' : ((out.length : Int) < 40) = True := by apply eq_true; omega
      by_cases hq : q.length < 5
      · have h1 : ((p.length : Int) + 5 ≤ ((p ++ q).length : Int)) = False := by apply eq_false; simp only [List.length_append]; omega
        refine ev_up (ev_up ?_)
        simp only [impl_recovered.l0, impl_recovered.j1, hw, hp5, h1, hn', decide_false, ↓reduceIte, Bool.false_eq_true]
        exact ev_eq (Ev.now _) (by rw [recFrom_short _ hq, List.append_nil])
      · obtain ⟨a, b, c, d, e, r, rfl⟩ := five hq
        have h1 : ((p.length : Int) + 5 ≤ ((p ++ a :: b :: c :: d :: e :: r).length : Int)) = True := by apply eq_true; simp only [List.length_append, List.length_cons]; omega
        have h8 : ((p.length : Int) ≤ (p.length : Int) + 5) = True := by apply eq_true; omega
        have r0 : rd [a, b, c, d, e] 0 = a := rfl
        have r1 : rd [a, b, c, d, e] 1 = b := rfl
        have r2 : rd [a, b, c, d, e] 2 = c := rfl
        have g0 : ((0 : Int) < (([a, b, c, d, e] : List Int).length : Int)) = True := by simp
        have g1 : ((1 : Int) < (([a, b, c, d, e] : List Int).length : Int)) = True := by simp
        have g2 : ((2 : Int) < (([a, b, c, d, e] : List Int).length : Int)) = True := by simp
        refine ev_up (ev_up ?_)
        simp only [impl_recovered.l0, impl_recovered.j1, hw, hp5, h1, hn', h8, slice_five, r0, r1, r2, g0, g1, g2, mid_ge, IsJournalRecord_eq, recordNumbers_eq, Option.bind_some, decide_true, ↓reduceIte, recFrom]
        by_cases hok : okRec ⟨a, b, c⟩ = true
        · simp only [hok, ↓reduceIte]
          refine ev_bind (slices_Equal_int_int_ev _ _ (by simp [recNums_len])) ?_
          by_cases hr : recNums ⟨a, b, c⟩ (out.length : Int) = [a, b, c, d, e]
          · have ho : (out.length < 5864062014805) = True := by apply eq_true; omega
            have hw1 : wrap64 ((out.length : Int) + 1) = (out.length : Int) + 1 := wrap_id (by omega) (by omega)
            simp only [hr, hw1, decide_true, ho, hn, and_self, ↓reduceIte]
            match m, hm with
            | 0, hm => simp at hm
            | m + 1, hm =>
              have := impl_recovered_l0 m r (p ++ [a, b, c, d, e]) (out ++ [⟨a, b, c⟩]) (by simp at hm; omega) (by simp; omega) (by simpa using h)
              simpa [List.append_assoc] using this
          · simp only [hr, decide_false, and_false, ↓reduceIte, Bool.false_eq_true, List.append_nil]
            exact Ev.now _
        · simp only [hok, ↓reduceIte, Bool.false_eq_true, false_and, and_false, List.append_nil]
          exact Ev.now _
    · have hn' : ((out.length : Int) < 40) = False := by apply eq_false; omega
      refine ev_up (ev_up ?_)
      simp only [impl_recovered.l0, impl_recovered.j1, hn', ↓reduceIte, Bool.false_eq_true]
      refine ev_eq (Ev.now _) ?_
      by_cases hq : q.length < 5
      · rw [recFrom_short _ hq, List.append_nil]
      · obtain ⟨a, b, c, d, e, r, rfl⟩ := five hq
        simp only [recFrom, hn, false_and, ↓reduceIte, List.append_nil]
theorem impl_recovered_ev (l : List Int) (h : l.length < 1000000000000) : Ev (fun k => impl_recovered.f k l) (recovered l) := by
  simpa [impl_recovered.f, recovered] using impl_recovered_l0 l.length l [] [] (Nat.le_refl _) rfl (by simpa using h)
def rRecordNumbers (a b c n : Int) : List Int × Bool := if okRec ⟨a, b, c⟩ = true ∧ 0 ≤ n ∧ n ≤ 39 then (recNums ⟨a, b, c⟩ n, true) else ([], false)
theorem spec_RecordNumbers_eq (a b c n : Int) : spec_RecordNumbers.f a b c n = some (rRecordNumbers a b c n) := by
  unfold rRecordNumbers
  simp only [spec_RecordNumbers.f, jrRecord_eq, l1In_eq, jrOf_eq, Option.bind_some]
  cases okRec ⟨a, b, c⟩ <;> by_cases h : 0 ≤ n ∧ n ≤ 39 <;> simp [h]
theorem impl_RecordNumbers_eq (a b c n : Int) : impl_RecordNumbers.f a b c n = some (rRecordNumbers a b c n) := by
  unfold rRecordNumbers
  simp only [impl_RecordNumbers.f, IsJournalRecord_eq, recordNumbers_eq, Option.bind_some]
  cases okRec ⟨a, b, c⟩
  · simp
  · by_cases h0 : n < 0
    · have : ¬ 0 ≤ n := by omega
      simp [h0, this]
    · by_cases h1 : n ≥ 40
      · have : ¬ n ≤ 39 := by omega
        simp [h0, h1, this]
      · have h2 : 0 ≤ n := by omega
        have h3 : n ≤ 39 := by omega
        simp [h0, h1, h2, h3]
theorem rRecordNumbers_len (a b c n : Int) : (rRecordNumbers a b c n).1.length ≤ 5 := by
  unfold rRecordNumbers; split <;> simp [recNums_len]
def rChangeNumber (l : List Int) (i v : Int) : List Int × Bool := if goodNums l = true ∧ 0 ≤ i ∧ i < l.length ∧ 0 ≤ v ∧ v ≤ 9999 then (l.set i.toNat v, true) else ([], false)
theorem rChangeNumber_len (l : List Int) (i v : Int) (h : l.length ≤ 1048576) : (rChangeNumber l i v).1.length ≤ 10000000 := by
  unfold rChangeNumber; split <;> simp; omega
theorem spec_ChangeNumber_ev (l : List Int) (i v : Int) (h : l.length ≤ 1048576) : Ev (fun k => spec_ChangeNumber.f k l i v) (rChangeNumber l i v) := by
  unfold rChangeNumber
  have hw : wrap64 ((l.length : Int) - 1) = (l.length : Int) - 1 := wrap_id (by omega) (by omega)
  simp only [spec_ChangeNumber.f, l1In_eq, l1Own_eq l (by omega), hw, Option.bind_some]
  refine ev_bind (spec_jrList_ev l (by omega)) ?_
  cases goodNums l
  · exact ev_eq (Ev.now _) (by simp)
  · by_cases h1 : 0 ≤ i ∧ i ≤ (l.length : Int) - 1
    · have h1' : i < (l.length : Int) := by omega
      by_cases h2 : 0 ≤ v ∧ v ≤ 9999
      · simp only [h1, h1', h2, and_self, decide_true, ↓reduceIte]
        exact Ev.now _
      · simp only [h1, h1', h2, and_self, and_false, decide_true, decide_false, ↓reduceIte, Bool.false_eq_true]
        exact Ev.now _
    · have h1' : ¬ (0 ≤ i ∧ i < (l.length : Int) ∧ 0 ≤ v ∧ v ≤ 9999) := by omega
      simp only [h1, h1', and_self, and_false, true_and, decide_true, decide_false, ↓reduceIte, Bool.false_eq_true]
      exact Ev.now _
theorem impl_ChangeNumber_ev (l : List Int) (i v : Int) (h : l.length ≤ 1048576) : Ev (fun k => impl_ChangeNumber.f k l i v) (rChangeNumber l i v) := by
  unfold rChangeNumber
  simp only [impl_ChangeNumber.f, Option.bind_some, List.nil_append]
  refine ev_bind (impl_areNumbers_ev l (by omega)) ?_
  cases goodNums l
  · exact ev_eq (Ev.now _) (by simp)
  · simp only [↓reduceIte, true_and]
    by_cases h1 : 0 ≤ i ∧ i < (l.length : Int) ∧ 0 ≤ v ∧ v ≤ 9999
    · have g1 : ¬ i < 0 := by omega
      have g2 : ¬ i ≥ (l.length : Int) := by omega
      have g3 : ¬ v < 0 := by omega
      have g4 : ¬ v > 9999 := by omega
      have g5 : ([] : List Int).length + l.length < 17592186044416 := by simp; omega
      simp only [g1, g2, g3, g4, g5, h1, and_self, ↓reduceIte]
      exact Ev.now _
    · simp only [h1, ↓reduceIte]
      repeat' split
      all_goals first
        | exact Ev.now _
        | (exfalso; omega)
def rCutNumbers (l : List Int) (n : Int) : List Int × Bool := if goodNums l = true ∧ 0 ≤ n ∧ n ≤ 200 then (l.take (mn n l.length).toNat, true) else ([], false)
theorem rCutNumbers_len (l : List Int) (n : Int) (h : l.length ≤ 1048576) : (rCutNumbers l n).1.length ≤ 10000000 := by
  unfold rCutNumbers; split
  · simp only [List.length_take]; omega
  · simp
theorem mn_le (a b : Int) : mn a b ≤ a ∧ mn a b ≤ b := by unfold mn; split <;> omega
theorem mn_ge {a b c : Int} (h0 : c ≤ a) (h1 : c ≤ b) : c ≤ mn a b := by unfold mn; split <;> omega
def setAll (v : List Int) : List S72 → List Int
  | [] => v
  | x :: q => setAll (if x.f0 = 1 then v.set x.f1.toNat x.f2 else v) q
theorem setAll_len : ∀ (q : List S72) (v : List Int), (setAll v q).length = v.length
  | [], v => rfl
  | x :: q, v => by rw [setAll, setAll_len q]; split <;> simp
def values (l : List S72) : List Int := setAll (List.replicate 8 (-1)) (committed l)
theorem values_len (l : List S72) : (values l).length = 8 := by simp [values, setAll_len]
theorem okRec_key {r : S72} (h : okRec r = true) (h1 : r.f0 = 1) : 0 ≤ r.f1 ∧ r.f1 ≤ 7 := by
  unfold okRec at h; simp only [decide_eq_true_eq] at h; omega
theorem good_ok {l : List S72} (h : goodRecs l = true) : ∀ r ∈ l, okRec r = true := by
  unfold goodRecs at h; simp only [Bool.and_eq_true, List.all_eq_true] at h; exact h.1
theorem good_len {l : List S72} (h : goodRecs l = true) : l.length ≤ 40 := by
  unfold goodRecs at h; simp only [Bool.and_eq_true, decide_eq_true_eq] at h; exact h.2
theorem spec_jrValues_l1 : ∀ (q p : List S72) (v : List Int), (p ++ q).length < 9223372036854775807 → v.length = 8 → (∀ r ∈ q, okRec r = true) → Ev (fun k => spec_jrValues.l1 k v (p ++ q) ((p ++ q).length : Int) (p.length : Int)) (setAll v q)
  | [], p, v, h, hv, ho => by
    refine ev_up ?_
    simp only [spec_jrValues.l1, mid_end, ↓reduceIte, setAll]
    exact Ev.now _
  | x :: q, p, v, h, hv, ho => by
    have hp : p.length < 9223372036854775807 := by simp only [List.length_append, List.length_cons] at h; omega
    have hq : ∀ r ∈ q, okRec r = true := fun r hr => ho r (List.mem_cons_of_mem _ hr)
    refine ev_up ?_
    simp only [spec_jrValues.l1, rd_T72, mid_lt, mid_ge, getD_mid, wrap_mid p x hp, ↓reduceIte, setAll]
    rw [step_mid p q x] at h ⊢
    by_cases hx : x.f0 = 1
    · obtain ⟨k0, k7⟩ := okRec_key (ho x List.mem_cons_self) hx
      have hk : (x.f1 < (v.length : Int)) = True := by apply eq_true; omega
      simp only [hx, k0, hk, ↓reduceIte]
      exact spec_jrValues_l1 q (p ++ [x]) _ h (by simp [hv]) hq
    · simp only [hx, ↓reduceIte]
      exact spec_jrValues_l1 q (p ++ [x]) _ h hv hq
theorem spec_jrValues_l0 (l : List S72) (h : l.length < 5864062014805) (ho : ∀ r ∈ l, okRec r = true) : ∀ (m n : Nat), n + m = 8 → Ev (fun k => spec_jrValues.l0 k l (List.replicate n (-1))) (values l)
  | 0, n, hn => by
    obtain rfl : n = 8 := by omega
    refine ev_up ?_
    have h8 : (((List.replicate 8 (-1 : Int)).length : Int) < 8) = False := by simp
    simp only [spec_jrValues.l0, h8, ↓reduceIte]
    refine ev_bind (spec_jrCommitted_ev l h) ?_
    simpa [values] using spec_jrValues_l1 (committed l) [] (List.replicate 8 (-1)) (by have := committed_len l; simp; omega) (by simp) (fun r hr => ho r (committed_mem l r hr))
  | m + 1, n, hn => by
    refine ev_up ?_
    have h8 : (((List.replicate n (-1 : Int)).length : Int) < 8) = True := by apply eq_true; simp; omega
    have h9 : ((List.replicate n (-1 : Int)).length < 17592186044416) = True := by apply eq_true; simp; omega
    simp only [spec_jrValues.l0, h8, h9, ↓reduceIte, ← List.replicate_succ']
    exact spec_jrValues_l0 l h ho m (n + 1) (by omega)
theorem spec_jrValues_ev (l : List S72) (h : l.length < 5864062014805) (ho : ∀ r ∈ l, okRec r = true) : Ev (fun k => spec_jrValues.f k l) (values l) := by
  simpa [spec_jrValues.f] using spec_jrValues_l0 l h ho 8 0 rfl
theorem impl_committedValues_l1 : ∀ (q p : List S72) (v : List Int), (p ++ q).length < 9223372036854775807 → v.length = 8 → (∀ r ∈ q, okRec r = true) → Ev (fun k => impl_committedValues.l1 k v (p ++ q) ((p ++ q).length : Int) (p.length : Int)) (setAll v q)
  | [], p, v, h, hv, ho => by
    refine ev_up ?_
    simp only [impl_committedValues.l1, mid_end, ↓reduceIte, setAll]
    exact Ev.now _
  | x :: q, p, v, h, hv, ho => by
    have hp : p.length < 9223372036854775807 := by simp only [List.length_append, List.length_cons] at h; omega
    have hq : ∀ r ∈ q, okRec r = true := fun r hr => ho r (List.mem_cons_of_mem _ hr)
    refine ev_up ?_
    simp only [impl_committedValues.l1, rd_T72, mid_lt, mid_ge, getD_mid, wrap_mid p x hp, ↓reduceIte, setAll]
    rw [step_mid p q x] at h ⊢
    by_cases hx : x.f0 = 1
    · obtain ⟨k0, k7⟩ := okRec_key (ho x List.mem_cons_self) hx
      have hk : (x.f1 < (v.length : Int)) = True := by apply eq_true; omega
      simp only [hx, k0, hk, ↓reduceIte]
      exact impl_committedValues_l1 q (p ++ [x]) _ h (by simp [hv]) hq
    · simp only [hx, ↓reduceIte]
      exact impl_committedValues_l1 q (p ++ [x]) _ h hv hq
theorem impl_committedValues_l0 (l : List S72) (h : l.length < 5864062014805) (ho : ∀ r ∈ l, okRec r = true) : ∀ (q p : List Int), p.length + q.length = 8 → Ev (fun k => impl_committedValues.l0 k l (p ++ q) (8 : Int) (p.length : Int)) (setAll (p ++ List.replicate q.length (-1)) (committed l))
  | [], p, hn => by
    have hp : p.length = 8 := by simpa using hn
    refine ev_up ?_
    have h8 : ((p.length : Int) < 8) = False := by apply eq_false; omega
    simp only [impl_committedValues.l0, h8, ↓reduceIte]
    refine ev_bind (impl_committedPart_ev l h) ?_
    simpa using impl_committedValues_l1 (committed l) [] p (by have := committed_len l; simp; omega) hp (fun r hr => ho r (committed_mem l r hr))
  | x :: q, p, hn => by
    simp only [List.length_cons] at hn
    refine ev_up ?_
    have h8 : ((p.length : Int) < 8) = True := by apply eq_true; omega
    simp only [impl_committedValues.l0, h8, mid_lt, mid_ge, set_mid, wrap_mid p (-1 : Int) (by omega), ↓reduceIte, List.length_cons, List.replicate_succ]
    rw [step_mid p q, step_mid p (List.replicate q.length (-1))]
    exact impl_committedValues_l0 l h ho q (p ++ [-1]) (by simp; omega)
theorem impl_committedValues_ev (l : List S72) (h : l.length < 5864062014805) (ho : ∀ r ∈ l, okRec r = true) : Ev (fun k => impl_committedValues.f k l) (values l) := by
  simpa [impl_committedValues.f, values] using impl_committedValues_l0 l h ho (List.replicate 8 0) [] (by simp)
def compactFrom : Nat → List Int → List S72
  | _, [] => []
  | i, v :: q => if v ≥ 0 then ⟨1, i, v⟩ :: compactFrom (i + 1) q else compactFrom (i + 1) q
theorem compactFrom_len : ∀ (q : List Int) (i : Nat), (compactFrom i q).length ≤ q.length
  | [], _ => by simp [compactFrom]
  | v :: q, i => by simp only [compactFrom]; have := compactFrom_len q (i + 1); split <;> simp <;> omega
def closeJ (out : List S72) : List S72 × Bool := if out.length > 0 then (out ++ [⟨2, 0, 0⟩], true) else (out, true)
def rCompactJournal (l : List S72) : List S72 × Bool := if goodRecs l = true then closeJ (compactFrom 0 (values l)) else ([], false)
theorem rCompactJournal_len (l : List S72) (h : l.length ≤ 1048576) : (rCompactJournal l).1.length ≤ 10000000 := by
  unfold rCompactJournal closeJ; have := compactFrom_len (values l) 0; rw [values_len] at this; split
  · split <;> simp <;> omega
  · simp
def rRecoverRecords (l : List Int) : List S72 × Int × Bool := if goodNums l = true then (recovered l, wrap64 (5 * ((recovered l).length : Int)), true) else ([], 0, false)
theorem rRecoverRecords_len (l : List Int) (h : l.length ≤ 1048576) : (rRecoverRecords l).1.length ≤ 10000000 := by
  unfold rRecoverRecords; have := recovered_len l; split <;> simp; omega
theorem spec_RecoverRecords_ev (l : List Int) (h : l.length ≤ 1048576) : Ev (fun k => spec_RecoverRecords.f k l) (rRecoverRecords l) := by
  unfold rRecoverRecords
  simp only [spec_RecoverRecords.f]
  refine ev_bind (spec_jrList_ev l (by omega)) ?_
  split
  · exact ev_bind (spec_jrRecover_ev l (by omega)) (Ev.now _)
  · exact Ev.now _
theorem impl_RecoverRecords_ev (l : List Int) (h : l.length ≤ 1048576) : Ev (fun k => impl_RecoverRecords.f k l) (rRecoverRecords l) := by
  unfold rRecoverRecords
  simp only [impl_RecoverRecords.f]
  refine ev_bind (impl_areNumbers_ev l (by omega)) ?_
  split
  · exact ev_bind (impl_recovered_ev l (by omega)) (Ev.now _)
  · exact Ev.now _
theorem jrCount_eq (n : Int) : spec_jrCount.f n = some (decide (0 ≤ n ∧ n ≤ 200)) := by simp [spec_jrCount.f, l1In_eq]
theorem spec_CutNumbers_ev (l : List Int) (n : Int) (h : l.length ≤ 1048576) : Ev (fun k => spec_CutNumbers.f k l n) (rCutNumbers l n) := by
  unfold rCutNumbers
  simp only [spec_CutNumbers.f, jrCount_eq, Option.bind_some]
  refine ev_bind (spec_jrList_ev l (by omega)) ?_
  cases goodNums l
  · simp only [Bool.false_eq_true, false_and, ↓reduceIte]
    refine ev_up ?_
    simp only [spec_CutNumbers.j0, ↓reduceIte]
    exact Ev.now _
  · by_cases hn : 0 ≤ n ∧ n ≤ 200
    · have m0 : (0 ≤ mn n (l.length : Int)) = True := by apply eq_true; exact mn_ge hn.1 (by omega)
      have m1 : (mn n (l.length : Int) ≤ (l.length : Int)) = True := by apply eq_true; exact (mn_le _ _).2
      simp only [hn, and_self, decide_true, Bool.not_true, ↓reduceIte]
      refine ev_up ?_
      simp only [spec_CutNumbers.j0, m0, m1, l1Least_eq, l1Own_eq (l.take (mn n (l.length : Int)).toNat) (by simp only [List.length_take]; omega), Option.bind_some, Bool.false_eq_true, ↓reduceIte]
      exact Ev.now _
    · simp only [hn, and_false, decide_false, Bool.not_false, ↓reduceIte]
      refine ev_up ?_
      simp only [spec_CutNumbers.j0, ↓reduceIte]
      exact Ev.now _
theorem impl_CutNumbers_ev (l : List Int) (n : Int) (h : l.length ≤ 1048576) : Ev (fun k => impl_CutNumbers.f k l n) (rCutNumbers l n) := by
  unfold rCutNumbers
  simp only [impl_CutNumbers.f, Option.bind_some]
  refine ev_bind (impl_areNumbers_ev l (by omega)) ?_
  cases goodNums l
  · exact ev_eq (Ev.now _) (by simp)
  · by_cases h0 : n < 0
    · have : ¬ (0 ≤ n ∧ n ≤ 200) := by omega
      simp only [h0, this, and_false, ↓reduceIte]
      exact Ev.now _
    · by_cases h1 : n > 200
      · have : ¬ (0 ≤ n ∧ n ≤ 200) := by omega
        simp only [h0, h1, this, and_false, ↓reduceIte]
        exact Ev.now _
      · have hn : 0 ≤ n ∧ n ≤ 200 := by omega
        have m0 : (0 ≤ mn n (l.length : Int)) = True := by apply eq_true; exact mn_ge hn.1 (by omega)
        have m1 : (mn n (l.length : Int) ≤ (l.length : Int)) = True := by apply eq_true; exact (mn_le _ _).2
        have m2 : (([] : List Int).length + (l.take (mn n (l.length : Int)).toNat).length < 17592186044416) = True := by apply eq_true; simp only [List.length_nil, List.length_take]; omega
        simp only [h0, h1, hn, m0, m1, m2, and_self, List.nil_append, ↓reduceIte]
        exact Ev.now _
def cntNe : List Int → List Int → Nat
  | x :: a, y :: b => (if x = y then 0 else 1) + cntNe a b
  | _, _ => 0
theorem cntNe_le : ∀ a b : List Int, cntNe a b ≤ a.length
  | [], b => by simp [cntNe]
  | x :: a, [] => by simp [cntNe]
  | x :: a, y :: b => by simp only [cntNe, List.length_cons]; have := cntNe_le a b; split <;> omega
def rLostAfterCut (l : List S72) (n : Int) : Int × Bool :=
  if goodRecs l = true ∧ 0 ≤ n ∧ n ≤ 200 then ((cntNe (values (recovered ((numsFrom 0 l).take (mn n (numsFrom 0 l).length).toNat))) (values l) : Int), true) else (0, false)
theorem spec_LostAfterCut_l0 : ∀ (q q' p p' : List Int) (c : Int), p.length = p'.length → q.length = q'.length → (p ++ q).length ≤ 8 → 0 ≤ c → c ≤ p.length → Ev (fun k => spec_LostAfterCut.l0 k (p' ++ q') c (p ++ q) ((p ++ q).length : Int) (p.length : Int)) (c + (cntNe q' q : Int), true)
  | [], q', p, p', c, hl, hq, h, h0, h1 => by
    obtain rfl : q' = [] := List.eq_nil_of_length_eq_zero hq.symm
    refine ev_up ?_
    simp only [spec_LostAfterCut.l0, mid_end, ↓reduceIte, cntNe]
    exact ev_eq (Ev.now _) (by simp)
  | x :: q, [], p, p', c, hl, hq, h, h0, h1 => by simp at hq
  | x :: q, y :: q', p, p', c, hl, hq, h, h0, h1 => by
    have hp : p.length < 8 := by simp only [List.length_append, List.length_cons] at h; omega
    refine ev_up ?_
    simp only [spec_LostAfterCut.l0, mid_lt, mid_ge, mid_lt2 p p' q' y hl, rd_mid, rd_mid2 p p' q' y hl, wrap_mid p x (by omega), ↓reduceIte, cntNe]
    rw [step_mid p q x, step_mid p' q' y]
    rw [step_mid p q x] at h
    by_cases e : y = x
    · subst e
      simp only [↓reduceIte]
      exact ev_eq (spec_LostAfterCut_l0 q q' _ _ c (by simp [hl]) (by simpa using hq) h h0 (by simp; omega)) (by simp)
    · have hw : wrap64 (c + 1) = c + 1 := wrap_id (by omega) (by omega)
      simp only [e, hw, ↓reduceIte]
      exact ev_eq (spec_LostAfterCut_l0 q q' (p ++ [x]) (p' ++ [y]) (c + 1) (by simp [hl]) (by simpa using hq) h (by omega) (by simp; omega)) (by simp; omega)
theorem spec_LostAfterCut_ev (l : List S72) (n : Int) (h : l.length ≤ 1048576) : Ev (fun k => spec_LostAfterCut.f k l n) (rLostAfterCut l n) := by
  unfold rLostAfterCut
  simp only [spec_LostAfterCut.f, jrCount_eq, Option.bind_some]
  refine ev_bind (spec_jrGood_ev l (by omega)) ?_
  cases hg : goodRecs l
  · simp only [Bool.false_eq_true, false_and, ↓reduceIte]
    refine ev_up ?_
    simp only [spec_LostAfterCut.j0, ↓reduceIte]
    exact Ev.now _
  · by_cases hn : 0 ≤ n ∧ n ≤ 200
    · have m0 : (0 ≤ mn n ((numsFrom 0 l).length : Int)) = True := by apply eq_true; exact mn_ge hn.1 (by omega)
      have m1 : (mn n ((numsFrom 0 l).length : Int) ≤ ((numsFrom 0 l).length : Int)) = True := by apply eq_true; exact (mn_le _ _).2
      simp only [hn, and_self, decide_true, Bool.not_true, ↓reduceIte]
      refine ev_up ?_
      simp only [spec_LostAfterCut.j0, Bool.false_eq_true, ↓reduceIte]
      refine ev_bind (spec_jrAll_ev l (by omega)) ?_
      simp only [l1Least_eq, m0, m1, Option.bind_some, ↓reduceIte]
      refine ev_bind (spec_jrRecover_ev _ (by simp only [List.length_take, numsFrom_len]; omega)) ?_
      refine ev_bind (spec_jrValues_ev _ (by have := recovered_len ((numsFrom 0 l).take (mn n (numsFrom 0 l).length).toNat); omega) (recovered_ok _)) ?_
      refine ev_bind (spec_jrValues_ev l (by omega) (good_ok hg)) ?_
      have := spec_LostAfterCut_l0 (values l) (values (recovered ((numsFrom 0 l).take (mn n (numsFrom 0 l).length).toNat))) [] [] 0 rfl (by simp [values_len]) (by simp [values_len]) (by omega) (by simp)
      simpa using this
    · simp only [hn, and_false, decide_false, Bool.not_false, ↓reduceIte]
      refine ev_up ?_
      simp only [spec_LostAfterCut.j0, ↓reduceIte]
      exact Ev.now _
theorem impl_LostAfterCut_l0 : ∀ (q q' p p' : List Int) (c : Int), p.length = p'.length → q.length = q'.length → (p ++ q).length ≤ 8 → 0 ≤ c → c ≤ p.length → Ev (fun k => impl_LostAfterCut.l0 k (p' ++ q') c (p ++ q) ((p ++ q).length : Int) (p.length : Int)) (c + (cntNe q q' : Int), true)
  | [], q', p, p', c, hl, hq, h, h0, h1 => by
    obtain rfl : q' = [] := List.eq_nil_of_length_eq_zero hq.symm
    refine ev_up ?_
    simp only [impl_LostAfterCut.l0, mid_end, ↓reduceIte, cntNe]
    exact ev_eq (Ev.now _) (by simp)
  | x :: q, [], p, p', c, hl, hq, h, h0, h1 => by simp at hq
  | x :: q, y :: q', p, p', c, hl, hq, h, h0, h1 => by
    have hp : p.length < 8 := by simp only [List.length_append, List.length_cons] at h; omega
    refine ev_up ?_
    simp only [impl_LostAfterCut.l0, mid_lt, mid_ge, mid_lt2 p p' q' y hl, rd_mid, rd_mid2 p p' q' y hl, wrap_mid p x (by omega), ↓reduceIte, cntNe]
    rw [step_mid p q x, step_mid p' q' y]
    rw [step_mid p q x] at h
    by_cases e : x = y
    · subst e
      simp only [↓reduceIte]
      exact ev_eq (impl_LostAfterCut_l0 q q' _ _ c (by simp [hl]) (by simpa using hq) h h0 (by simp; omega)) (by simp)
    · have hw : wrap64 (c + 1) = c + 1 := wrap_id (by omega) (by omega)
      simp only [e, hw, ↓reduceIte]
      exact ev_eq (impl_LostAfterCut_l0 q q' (p ++ [x]) (p' ++ [y]) (c + 1) (by simp [hl]) (by simpa using hq) h (by omega) (by simp; omega)) (by simp; omega)
theorem impl_LostAfterCut_ev (l : List S72) (n : Int) (h : l.length ≤ 1048576) : Ev (fun k => impl_LostAfterCut.f k l n) (rLostAfterCut l n) := by
  unfold rLostAfterCut
  simp only [impl_LostAfterCut.f]
  refine ev_bind (impl_areRecords_ev l (by omega)) ?_
  cases hg : goodRecs l
  · simp only [Bool.false_eq_true, false_and, ↓reduceIte]
    refine ev_up ?_
    simp only [impl_LostAfterCut.j0, ↓reduceIte]
    exact Ev.now _
  · by_cases hn : 0 ≤ n ∧ n ≤ 200
    · have m0 : (0 ≤ mn n ((numsFrom 0 l).length : Int)) = True := by apply eq_true; exact mn_ge hn.1 (by omega)
      have m1 : (mn n ((numsFrom 0 l).length : Int) ≤ ((numsFrom 0 l).length : Int)) = True := by apply eq_true; exact (mn_le _ _).2
      have g0 : (n < 0) = False := by apply eq_false; omega
      have g1 : decide (n > 200) = false := by rw [decide_eq_false_iff_not]; omega
      simp only [hn, g0, g1, and_self, ↓reduceIte]
      refine ev_up ?_
      simp only [impl_LostAfterCut.j0, Bool.false_eq_true, ↓reduceIte]
      refine ev_bind (impl_journalNumbers_ev l (by omega)) ?_
      refine ev_bind (impl_committedValues_ev l (by omega) (good_ok hg)) ?_
      simp only [m0, m1, ↓reduceIte]
      refine ev_bind (impl_recovered_ev _ (by simp only [List.length_take, numsFrom_len]; omega)) ?_
      refine ev_bind (impl_committedValues_ev _ (by have := recovered_len ((numsFrom 0 l).take (mn n (numsFrom 0 l).length).toNat); omega) (recovered_ok _)) ?_
      have := impl_LostAfterCut_l0 (values (recovered ((numsFrom 0 l).take (mn n (numsFrom 0 l).length).toNat))) (values l) [] [] 0 rfl (by simp [values_len]) (by simp [values_len]) (by omega) (by simp)
      simpa using this
    · simp only [hn, and_false, ↓reduceIte]
      have fin : Ev (fun k => impl_LostAfterCut.j0 k l n true) ((0 : Int), false) := by
        refine ev_up ?_
        simp only [impl_LostAfterCut.j0, ↓reduceIte]
        exact Ev.now _
      by_cases h0 : n < 0
      · simp only [h0, ↓reduceIte]
        exact fin
      · have h1 : decide (n > 200) = true := by rw [decide_eq_true_iff]; omega
        simp only [h0, h1, ↓reduceIte]
        exact fin
def finishA (y : List S72) : List Int × Bool := if y.length ≤ 40 then (numsFrom 0 y, true) else ([], false)
def appendV (acc q : List S72) : List Int × Bool := if (q.all fun r => decide (r.f0 = 1)) = true then finishA (acc ++ q ++ [⟨2, 0, 0⟩]) else ([], false)
def rAppendCommit (l : List Int) (r : List S72) : List Int × Bool := if goodNums l = true ∧ goodRecs r = true then appendV (committed (recovered l)) r else ([], false)
theorem rAppendCommit_len (l : List Int) (r : List S72) : (rAppendCommit l r).1.length ≤ 10000000 := by
  unfold rAppendCommit appendV finishA
  repeat' split
  all_goals simp_all [numsFrom_len]
  all_goals omega
theorem okCommit : okRec ⟨2, 0, 0⟩ = true := by decide
theorem same_l0 : ∀ (q p : List Int), (p ++ q).length < 9223372036854775807 → Ev (fun k => laws_sameInts.l0 k (p ++ q) (p ++ q) ((p ++ q).length : Int) (p.length : Int)) true
  | [], p, h => by
    refine ev_up ?_
    simp only [laws_sameInts.l0, mid_end, ↓reduceIte]
    exact Ev.now _
  | x :: q, p, h => by
    have hp : p.length < 9223372036854775807 := by simp only [List.length_append, List.length_cons] at h; omega
    refine ev_up ?_
    simp only [laws_sameInts.l0, mid_lt, mid_ge, rd_mid, wrap_mid p x hp, ↓reduceIte]
    rw [step_mid p q x] at h ⊢
    exact same_l0 q (p ++ [x]) h
theorem same_ev (l : List Int) (h : l.length < 9223372036854775807) : Ev (fun k => laws_sameInts.f k l l) true := by
  simp only [laws_sameInts.f, ↓reduceIte]
  simpa using same_l0 l [] (by simpa using h)
theorem bits_255 (y : Int) : 0 ≤ wrap64 (Go.bits .and .u64 y 255) ∧ wrap64 (Go.bits .and .u64 y 255) ≤ 255 := by
  have h : ∃ n : Nat, n ≤ 255 ∧ Go.bits .and .u64 y 255 = (n : Int) := by
    refine ⟨(BitVec.ofInt 64 y &&& BitVec.ofInt 64 255).toNat, ?_, ?_⟩
    · rw [BitVec.toNat_and]
      exact Nat.le_trans Nat.and_le_right (by decide)
    · have hle : (BitVec.ofInt 64 y &&& BitVec.ofInt 64 255).toNat ≤ 255 := by
        rw [BitVec.toNat_and]
        exact Nat.le_trans Nat.and_le_right (by decide)
      show IntKind.u64.wrap (((BitVec.ofInt 64 y &&& BitVec.ofInt 64 255).toNat : Nat) : Int) = _
      generalize (BitVec.ofInt 64 y &&& BitVec.ofInt 64 255).toNat = n at hle
      show ((n : Int) % (2 ^ 64 : Int)) = n
      omega
  obtain ⟨n, hn, e⟩ := h
  rw [e]
  unfold wrap64
  omega
theorem next_tot (c : List Int) (hc : ∀ x ∈ c, 0 ≤ x ∧ x ≤ 255) (a s : Int) (h0 : 0 ≤ a) (h1 : a ≤ 4611686018427387904) : ∃ r s', spec_l1Cur_next.f c a s = some (r, a + 1, s') ∧ 0 ≤ r ∧ r ≤ 255 := by
  have wa : wrap64 (a + 1) = a + 1 := wrap_id (by omega) (by omega)
  unfold spec_l1Cur_next.f
  rw [wa]
  by_cases hl : a < (c.length : Int)
  · have hm : rd c a ∈ c := by
      unfold rd
      rw [List.getD_eq_getElem?_getD, List.getElem?_eq_getElem (show a.toNat < c.length by omega)]
      exact List.getElem_mem _
    obtain ⟨g0, g1⟩ := hc _ hm
    have wr : wrap64 (rd c a) = rd c a := wrap_id (by omega) (by omega)
    rw [if_pos hl, if_pos h0, wr]
    split
    · exact ⟨_, _, rfl, g0, g1⟩
    · exact ⟨_, _, rfl, bits_255 _⟩
  · rw [if_neg hl]
    split
    · exact ⟨_, _, rfl, by omega, by omega⟩
    · exact ⟨_, _, rfl, bits_255 _⟩
theorem pick_tot (c : List Int) (hc : ∀ x ∈ c, 0 ≤ x ∧ x ≤ 255) (a s n : Int) (h0 : 0 ≤ a) (h1 : a ≤ 4611686018427387000) (hn : 1 ≤ n) (hn2 : n ≤ 100000) : ∃ r a' s', spec_l1Cur_pick.f c a s n = some (r, a', s') ∧ 0 ≤ r ∧ r < n ∧ a ≤ a' ∧ a' ≤ a + 2 := by
  unfold spec_l1Cur_pick.f
  split
  · exact ⟨_, _, _, rfl, by omega, by omega, by omega, by omega⟩
  · obtain ⟨r, s1, e1, g0, g1⟩ := next_tot c hc a s h0 (by omega)
    rw [e1]
    simp only [Option.bind_some]
    have mod : ∀ x : Int, 0 ≤ x → 0 ≤ Int.tmod x n ∧ Int.tmod x n < n := fun x hx => ⟨Int.tmod_nonneg n hx, Int.tmod_lt_of_pos x (by omega)⟩
    split
    · obtain ⟨r2, s2, e2, k0, k1⟩ := next_tot c hc (a + 1) s1 (by omega) (by omega)
      rw [e2]
      simp only [Option.bind_some]
      rw [if_neg (by omega)]
      have w1 : wrap64 (r * 256) = r * 256 := wrap_id (by omega) (by omega)
      rw [w1, wrap_id (x := r * 256 + r2) (by omega) (by omega)]
      obtain ⟨m1, m2⟩ := mod (r * 256 + r2) (by omega)
      exact ⟨_, _, _, rfl, m1, m2, by omega, by omega⟩
    · rw [if_neg (by omega)]
      obtain ⟨m1, m2⟩ := mod r g0
      exact ⟨_, _, _, rfl, m1, m2, by omega, by omega⟩
theorem one_tot (c : List Int) (hc : ∀ x ∈ c, 0 ≤ x ∧ x ≤ 255) (a s n : Int) (h0 : 0 ≤ a) (h1 : a ≤ 4611686018427387000) (hn : 1 ≤ n) (hn2 : n ≤ 100000) : ∃ r a' s', spec_l1Cur_one.f c a s n = some (r, a', s') ∧ a ≤ a' ∧ a' ≤ a + 2 := by
  obtain ⟨r, a', s', e, _, _, g1, g2⟩ := pick_tot c hc a s n h0 h1 hn hn2
  unfold spec_l1Cur_one.f
  rw [e]
  exact ⟨_, _, _, rfl, g1, g2⟩
theorem among_tot (c : List Int) (hc : ∀ x ∈ c, 0 ≤ x ∧ x ≤ 255) (a s : Int) (l : List Int) (h0 : 0 ≤ a) (h1 : a ≤ 4611686018427387000) (hl : 1 ≤ l.length) (hl2 : l.length ≤ 100000) : ∃ r a' s', spec_l1Cur_among.f c a s l = some (r, a', s') ∧ r ∈ l ∧ a ≤ a' ∧ a' ≤ a + 2 := by
  obtain ⟨r, a', s', e, g0, g3, g1, g2⟩ := pick_tot c hc a s l.length h0 h1 (by omega) (by omega)
  unfold spec_l1Cur_among.f
  rw [e]
  simp only [Option.bind_some]
  rw [if_pos g0, if_pos g3]
  refine ⟨_, _, _, rfl, ?_, g1, g2⟩
  unfold rd
  rw [List.getD_eq_getElem?_getD, List.getElem?_eq_getElem (show r.toNat < l.length by omega)]
  exact List.getElem_mem _
def lA : Int := 6364136223846793005
def lC : Int := 1442695040888963407
/-- One turn of the seed, behind the end of the code. -/
def lF (s : Int) : Int := (s * lA + lC) % 18446744073709551616
def lV (t : Int) : Int := (t / 1099511627776) % 256
def it : Nat → Int → Int
  | 0, s => s
  | n + 1, s => it n (lF s)
theorem it_add : ∀ (m n : Nat) (s : Int), it (m + n) s = it n (it m s)
  | 0, n, s => by simp [it]
  | m + 1, n, s => by rw [Nat.succ_add]; exact it_add m n (lF s)
theorem it_succ' (n : Nat) (s : Int) : it (n + 1) s = lF (it n s) := it_add n 1 s
/-- a to the power 2^k, and what 2^k turns add. -/
def pA : Nat → Int
  | 0 => lA
  | k + 1 => pA k * pA k
def pC : Nat → Int
  | 0 => lC
  | k + 1 => pA k * pC k + pC k
theorem pA_form : ∀ k, ∃ q, pA k = 1 + q * 2 ^ (k + 2)
  | 0 => ⟨1591034055961698251, by decide⟩
  | k + 1 => by
    obtain ⟨q, hq⟩ := pA_form k
    refine ⟨q + q * q * 2 ^ (k + 1), ?_⟩
    simp only [pA, hq]
    have e1 : (2 : Int) ^ (k + 2) = 2 * 2 ^ (k + 1) := by rw [Int.pow_succ, Int.mul_comm]
    have e2 : (2 : Int) ^ (k + 1 + 2) = 4 * 2 ^ (k + 1) := by rw [Int.pow_succ, Int.pow_succ]; omega
    rw [e1, e2]
    generalize (2 : Int) ^ (k + 1) = z
    grind
theorem pC_form : ∀ k, ∃ q, pC k = 2 ^ k + q * 2 ^ (k + 1)
  | 0 => ⟨721347520444481703, by decide⟩
  | k + 1 => by
    obtain ⟨q, hq⟩ := pC_form k
    obtain ⟨u, hu⟩ := pA_form k
    simp only [pC, hq, hu]
    have e1 : (2 : Int) ^ (k + 1) = 2 * 2 ^ k := by rw [Int.pow_succ, Int.mul_comm]
    have e2 : (2 : Int) ^ (k + 2) = 4 * 2 ^ k := by rw [Int.pow_succ, Int.pow_succ]; omega
    refine ⟨q + u * 2 ^ k + 2 * (u * q * 2 ^ k), ?_⟩
    rw [e1, e2]
    generalize (2 : Int) ^ k = z
    grind
theorem emod_pow {x y : Int} {k m : Nat} (h : x % 2 ^ m = y % 2 ^ m) (hk : k ≤ m) : x % 2 ^ k = y % 2 ^ k := by
  have hd : (2 : Int) ^ k ∣ 2 ^ m := ⟨2 ^ (m - k), by rw [← Int.pow_add]; congr 1; omega⟩
  rw [← Int.emod_emod_of_dvd x hd, h, Int.emod_emod_of_dvd y hd]
theorem it_pow : ∀ (k : Nat) (s : Int), ∃ z, it (2 ^ k) s = pA k * s + pC k + z * 18446744073709551616
  | 0, s => by
    refine ⟨-((s * lA + lC) / 18446744073709551616), ?_⟩
    show lF s = _
    simp only [lF, pA, pC]
    rw [Int.mul_comm lA s]
    generalize s * lA + lC = x
    omega
  | k + 1, s => by
    obtain ⟨z, hz⟩ := it_pow k s
    obtain ⟨w, hw⟩ := it_pow k (it (2 ^ k) s)
    refine ⟨pA k * z + w, ?_⟩
    have e : 2 ^ (k + 1) = 2 ^ k + 2 ^ k := by rw [Nat.pow_succ]; omega
    rw [e, it_add, hw, hz]
    simp only [pA, pC]
    grind
/-- From any seed, any low bits are met. -/
theorem it_reach : ∀ (k : Nat), k ≤ 48 → ∀ (s t : Int), ∃ n, n < 2 ^ k ∧ it n s % 2 ^ k = t % 2 ^ k
  | 0, _, s, t => ⟨0, by decide, by simp [Int.emod_one]⟩
  | k + 1, hk, s, t => by
    obtain ⟨n, hn, h⟩ := it_reach k (by omega) s t
    have e : 2 ^ (k + 1) = 2 ^ k + 2 ^ k := by rw [Nat.pow_succ]; omega
    have e1 : (2 : Int) ^ (k + 1) = 2 * 2 ^ k := by rw [Int.pow_succ, Int.mul_comm]
    have e2 : (2 : Int) ^ (k + 2) = 2 * 2 ^ (k + 1) := by rw [Int.pow_succ, Int.mul_comm]
    have hz : (0 : Int) < 2 ^ k := Int.pow_pos (by decide)
    by_cases hc : it n s % 2 ^ (k + 1) = t % 2 ^ (k + 1)
    · exact ⟨n, by omega, hc⟩
    · refine ⟨n + 2 ^ k, by omega, ?_⟩
      rw [it_add]
      obtain ⟨z, hz1⟩ := it_pow k (it n s)
      obtain ⟨q, hq⟩ := pA_form k
      obtain ⟨u, hu⟩ := pC_form k
      obtain ⟨r, hr⟩ : ∃ r, (18446744073709551616 : Int) = r * 2 ^ (k + 1) := ⟨2 ^ (64 - (k + 1)), by rw [← Int.pow_add, show 64 - (k + 1) + (k + 1) = 64 by omega]; decide⟩
      generalize it n s = y at *
      have hy : it (2 ^ k) y = y + 2 ^ k + (2 * (q * y) + u + z * r) * 2 ^ (k + 1) := by
        rw [hz1, hq, hu, hr, e2]
        generalize (2 : Int) ^ (k + 1) = b
        generalize (2 : Int) ^ k = c
        grind
      rw [hy, Int.add_mul_emod_self_right]
      -- y and t agree but for the bit k
      have r1 := Int.emod_nonneg y (show (2 : Int) ^ (k + 1) ≠ 0 by omega)
      have r2 := Int.emod_nonneg t (show (2 : Int) ^ (k + 1) ≠ 0 by omega)
      have r3 := Int.emod_lt_of_pos y (show (0 : Int) < 2 ^ (k + 1) by omega)
      have r4 := Int.emod_lt_of_pos t (show (0 : Int) < 2 ^ (k + 1) by omega)
      have m1 : y % 2 ^ (k + 1) % 2 ^ k = y % 2 ^ k := Int.emod_emod_of_dvd y ⟨2, by rw [e1]; exact Int.mul_comm _ _⟩
      have m2 : t % 2 ^ (k + 1) % 2 ^ k = t % 2 ^ k := Int.emod_emod_of_dvd t ⟨2, by rw [e1]; exact Int.mul_comm _ _⟩
      rw [show (y + 2 ^ k) % 2 ^ (k + 1) = (y % 2 ^ (k + 1) + 2 ^ k) % 2 ^ (k + 1) by rw [Int.emod_add_emod]]
      generalize y % 2 ^ (k + 1) = Y at *
      generalize t % 2 ^ (k + 1) = X at *
      rw [e1] at *
      generalize (2 : Int) ^ k = w at *
      have hYX : Y % w = X % w := by rw [m1, m2, h]
      have wY : Y % w = Y ∨ Y % w = Y - w := by
        by_cases hlt : Y < w
        · left; exact Int.emod_eq_of_lt r1 hlt
        · right; rw [← Int.sub_emod_right]; exact Int.emod_eq_of_lt (by omega) (by omega)
      have wX : X % w = X ∨ X % w = X - w := by
        by_cases hlt : X < w
        · left; exact Int.emod_eq_of_lt r2 hlt
        · right; rw [← Int.sub_emod_right]; exact Int.emod_eq_of_lt (by omega) (by omega)
      by_cases hlt : Y + w < 2 * w
      · rw [Int.emod_eq_of_lt (by omega) hlt]; omega
      · rw [show (Y + w) % (2 * w) = (Y + w - 2 * w) % (2 * w) by rw [Int.sub_emod_right]]
        rw [Int.emod_eq_of_lt (by omega) (by omega)]; omega
theorem lF_low (s t : Int) (h : s % 2 ^ 48 = t % 2 ^ 48) : lF s % 2 ^ 48 = lF t % 2 ^ 48 := by
  simp only [lF]
  have hd : (2 : Int) ^ 48 ∣ 18446744073709551616 := ⟨65536, by decide⟩
  rw [Int.emod_emod_of_dvd _ hd, Int.emod_emod_of_dvd _ hd]
  rw [Int.add_emod, Int.mul_emod, h, ← Int.mul_emod, ← Int.add_emod]
theorem it_low : ∀ (n : Nat) (s t : Int), s % 2 ^ 48 = t % 2 ^ 48 → it n s % 2 ^ 48 = it n t % 2 ^ 48
  | 0, _, _, h => h
  | n + 1, s, t, h => it_low n _ _ (lF_low s t h)
theorem lV_low {s t : Int} (h : s % 2 ^ 48 = t % 2 ^ 48) : lV s = lV t := by
  simp only [lV]
  have e : (2 : Int) ^ 48 = 281474976710656 := by decide
  rw [e] at h
  omega
theorem lF_range (s : Int) : 0 ≤ lF s ∧ lF s < 18446744073709551616 := ⟨Int.emod_nonneg _ (by decide), Int.emod_lt_of_pos _ (by decide)⟩
theorem lV_range (t : Int) : 0 ≤ lV t ∧ lV t ≤ 255 := by unfold lV; omega
/-- Nine turns one behind the other from which a good record begins: from any seed they come. -/
def good9 (s : Int) (n : Nat) : Prop := ∀ j, j < 9 → 3 ≤ lV (it (n + j + 6) s) % 40
theorem zero9 : ∀ j, j < 9 → 3 ≤ lV (it (j + 6) 0) % 40 := by decide +kernel
theorem reach9 (s : Int) : ∃ n, n < 2 ^ 48 ∧ good9 s n := by
  obtain ⟨n, hn, h⟩ := it_reach 48 (Nat.le_refl _) s 0
  refine ⟨n, hn, fun j hj => ?_⟩
  have := zero9 j hj
  rw [show n + j + 6 = n + (j + 6) by omega, it_add, lV_low (it_low (j + 6) _ 0 (by rw [h]))]
  exact this
theorem good9_step {s : Int} {n e : Nat} (h : good9 s n) (he : e ≤ n) : good9 (it e s) (n - e) := by
  intro j hj
  rw [← it_add, show e + (n - e + j + 6) = n + j + 6 by omega]
  exact h j hj
theorem good9_now {s : Int} {n e : Nat} (h : good9 s n) (he : n ≤ e) (he2 : e < n + 9) : 3 ≤ lV (it 6 (it e s)) % 40 := by
  have := h (e - n) (by omega)
  rw [← it_add]
  rw [show n + (e - n) + 6 = e + 6 by omega] at this
  exact this
theorem next_far (c : List Int) (a s : Int) (hf : (c.length : Int) ≤ a) (h1 : a ≤ 4611686018427387904) : spec_l1Cur_next.f c a s = some (lV (lF s), a + 1, lF s) := by
  have h0 : (0 : Int) ≤ c.length := by omega
  have wa : wrap64 (a + 1) = a + 1 := wrap_id (by omega) (by omega)
  have u64 : ∀ x : Int, IntKind.u64.wrap x = x % 18446744073709551616 := fun _ => rfl
  have seed : IntKind.u64.wrap ((IntKind.u64.wrap ((IntKind.u64.wrap (s * 6364136223846793005)) + 0)) + 1442695040888963407) = lF s := by
    simp only [u64, lF, lA, lC]
    omega
  have val : wrap64 (Go.bits .and .u64 (lF s / 1099511627776) 255) = lV (lF s) := by
    obtain ⟨g0, g1⟩ := lF_range s
    generalize lF s = t at g0 g1
    have hb : Go.bits .and .u64 (t / 1099511627776) 255 = lV t := by
      have e : (BitVec.ofInt 64 (t / 1099511627776) &&& BitVec.ofInt 64 255).toNat = ((t / 1099511627776) % 256).toNat := by
        rw [BitVec.toNat_and]
        have e1 : (BitVec.ofInt 64 255).toNat = 2 ^ 8 - 1 := by decide
        rw [e1, Nat.and_two_pow_sub_one_eq_mod, BitVec.toNat_ofInt]
        omega
      show IntKind.u64.wrap (((BitVec.ofInt 64 (t / 1099511627776) &&& BitVec.ofInt 64 255).toNat : Nat) : Int) = _
      rw [e, u64]
      unfold lV
      omega
    rw [hb]
    have := lV_range t
    exact wrap_id (by omega) (by omega)
  unfold spec_l1Cur_next.f
  rw [wa, if_neg (by omega), if_neg (by omega), seed, val]
theorem pick_far (c : List Int) (a s n : Int) (hf : (c.length : Int) ≤ a) (h1 : a ≤ 4611686018427387000) (hn : 2 ≤ n) (hn2 : n ≤ 200) : spec_l1Cur_pick.f c a s n = some (lV (lF s) % n, a + 1, lF s) := by
  unfold spec_l1Cur_pick.f
  rw [if_neg (by omega), next_far c a s hf (by omega)]
  simp only [Option.bind_some]
  rw [if_neg (by omega), if_neg (by omega), Int.tmod_eq_emod_of_nonneg (lV_range _).1]
theorem pick2_far (c : List Int) (a s n : Int) (hf : (c.length : Int) ≤ a) (h1 : a ≤ 4611686018427387000) (hn : 201 ≤ n) (hn2 : n ≤ 100000) : ∃ r, spec_l1Cur_pick.f c a s n = some (r, a + 2, lF (lF s)) ∧ 0 ≤ r ∧ r < n := by
  unfold spec_l1Cur_pick.f
  rw [if_neg (by omega), next_far c a s hf (by omega)]
  simp only [Option.bind_some]
  rw [if_pos (by omega), next_far c (a + 1) (lF s) (by omega) (by omega)]
  simp only [Option.bind_some]
  rw [if_neg (by omega)]
  have v1 := lV_range (lF s)
  have v2 := lV_range (lF (lF s))
  rw [wrap_id (x := lV (lF s) * 256) (by omega) (by omega), wrap_id (x := lV (lF s) * 256 + lV (lF (lF s))) (by omega) (by omega)]
  exact ⟨_, by rw [show a + 1 + 1 = a + 2 by omega], Int.tmod_nonneg n (by omega), Int.tmod_lt_of_pos _ (by omega)⟩
theorem among_far (c : List Int) (a s : Int) (l : List Int) (hf : (c.length : Int) ≤ a) (h1 : a ≤ 4611686018427387000) (hn : 2 ≤ l.length) (hn2 : l.length ≤ 200) : ∃ r, spec_l1Cur_among.f c a s l = some (r, a + 1, lF s) ∧ r ∈ l := by
  unfold spec_l1Cur_among.f
  rw [pick_far c a s l.length hf h1 (by omega) (by omega)]
  simp only [Option.bind_some]
  have g0 : 0 ≤ lV (lF s) % (l.length : Int) := Int.emod_nonneg _ (by omega)
  have g1 : lV (lF s) % (l.length : Int) < l.length := Int.emod_lt_of_pos _ (by omega)
  rw [if_pos g0, if_pos g1]
  generalize lV (lF s) % (l.length : Int) = q at g0 g1
  refine ⟨_, rfl, ?_⟩
  unfold rd
  rw [List.getD_eq_getElem?_getD, List.getElem?_eq_getElem (show q.toNat < l.length by omega)]
  exact List.getElem_mem _
theorem one_far (c : List Int) (a s n : Int) (hf : (c.length : Int) ≤ a) (h1 : a ≤ 4611686018427387000) (hn : 2 ≤ n) (hn2 : n ≤ 200) : ∃ b, spec_l1Cur_one.f c a s n = some (b, a + 1, lF s) := by
  unfold spec_l1Cur_one.f
  rw [pick_far c a s n hf h1 hn hn2]
  exact ⟨_, rfl⟩
/-- A record behind the end of the code. -/
theorem record_far (c : List Int) (a s : Int) (hf : (c.length : Int) ≤ a) (h1 : a ≤ 4611686018427386000) : ∃ x y z, ∃ e : Nat, (e = 6 ∨ e = 7) ∧ Ev (fun k => spec_l1Cur_journalRecord.f k c a s) (x, y, z, a + e, it e s) ∧ (3 ≤ lV (it 6 s) % 40 → okRec ⟨x, y, z⟩ = true) := by
  have e1 := pick_far c a s 8 hf (by omega) (by decide) (by decide)
  obtain ⟨v, e2, v0, v1⟩ := pick2_far c (a + 1) (lF s) 1000 (by omega) (by omega) (by decide) (by decide)
  obtain ⟨w, e3, hw⟩ := among_far c (a + 1 + 2) (lF (lF (lF s))) [0, 5, 999, v] (by omega) (by omega) (by simp) (by simp)
  obtain ⟨b, e4⟩ := one_far c (a + 1 + 2 + 1) (lF (lF (lF (lF s)))) 3 (by omega) (by omega) (by decide) (by decide)
  have hkey : 0 ≤ lV (lF s) % 8 ∧ lV (lF s) % 8 ≤ 7 := by omega
  have hval : 0 ≤ w ∧ w ≤ 999 := by
    simp only [List.mem_cons, List.not_mem_nil, or_false] at hw
    omega
  have j0 : ∀ (x y z : Int), ((x = 1 ∧ 0 ≤ y ∧ y ≤ 7 ∧ 0 ≤ z ∧ z ≤ 999) ∨ (x = 2 ∧ y = 0 ∧ z = 0)) → ∃ x' y' z', ∃ e : Nat, (e = 6 ∨ e = 7) ∧ Ev (fun k => spec_l1Cur_journalRecord.j0 k c (a + 1 + 2 + 1 + 1) (lF (lF (lF (lF (lF s))))) x y z) (x', y', z', a + e, it e s) ∧ (3 ≤ lV (it 6 s) % 40 → okRec ⟨x', y', z'⟩ = true) := by
    intro x y z hok
    have e5 := pick_far c (a + 1 + 2 + 1 + 1) (lF (lF (lF (lF (lF s))))) 40 (by omega) (by omega) (by decide) (by decide)
    have i6 : it 6 s = lF (lF (lF (lF (lF (lF s))))) := rfl
    have i7 : it 7 s = lF (lF (lF (lF (lF (lF (lF s)))))) := rfl
    have a6 : a + 1 + 2 + 1 + 1 + 1 = a + (6 : Nat) := by omega
    have a7 : a + 1 + 2 + 1 + 1 + 1 + 1 = a + (7 : Nat) := by omega
    rw [← i6] at e5
    have m0 : 0 ≤ lV (it 6 s) % 40 := by omega
    by_cases c0 : lV (it 6 s) % 40 = 0
    · obtain ⟨r, e6, _⟩ := among_far c (a + 1 + 2 + 1 + 1 + 1) (it 6 s) [0, 3] (by omega) (by omega) (by decide) (by decide)
      refine ⟨r, y, z, 7, .inr rfl, ?_, fun h => by omega⟩
      refine ev_up ?_
      simp only [spec_l1Cur_journalRecord.j0, e5, Option.bind_some, if_pos c0, e6]
      exact ev_eq (Ev.now _) (by rw [a7, i7, i6])
    · by_cases c1 : lV (it 6 s) % 40 = 1
      · obtain ⟨r, e6, _⟩ := among_far c (a + 1 + 2 + 1 + 1 + 1) (it 6 s) [(-1), 1, 8] (by omega) (by omega) (by decide) (by decide)
        refine ⟨x, r, z, 7, .inr rfl, ?_, fun h => by omega⟩
        refine ev_up ?_
        simp only [spec_l1Cur_journalRecord.j0, e5, Option.bind_some, if_neg c0, if_pos c1, e6]
        exact ev_eq (Ev.now _) (by rw [a7, i7, i6])
      · by_cases c2 : lV (it 6 s) % 40 = 2
        · obtain ⟨r, e6, _⟩ := among_far c (a + 1 + 2 + 1 + 1 + 1) (it 6 s) [(-1), 1, 1000] (by omega) (by omega) (by decide) (by decide)
          refine ⟨x, y, r, 7, .inr rfl, ?_, fun h => by omega⟩
          refine ev_up ?_
          simp only [spec_l1Cur_journalRecord.j0, e5, Option.bind_some, if_neg c0, if_neg c1, if_pos c2, e6]
          exact ev_eq (Ev.now _) (by rw [a7, i7, i6])
        · refine ⟨x, y, z, 6, .inl rfl, ?_, fun _ => by unfold okRec; simpa using hok⟩
          refine ev_up ?_
          simp only [spec_l1Cur_journalRecord.j0, e5, Option.bind_some, if_neg c0, if_neg c1, if_neg c2]
          exact ev_eq (Ev.now _) (by rw [a6])
  unfold spec_l1Cur_journalRecord.f
  simp only [e1, Option.bind_some, e2, e3, e4]
  cases b with
  | true =>
    obtain ⟨x', y', z', e, he, hev, hgood⟩ := j0 2 0 0 (.inr ⟨rfl, rfl, rfl⟩)
    exact ⟨x', y', z', e, he, by simpa only [if_true] using hev, hgood⟩
  | false =>
    obtain ⟨x', y', z', e, he, hev, hgood⟩ := j0 1 (lV (lF s) % 8) w (.inl ⟨rfl, hkey.1, hkey.2, hval.1, hval.2⟩)
    exact ⟨x', y', z', e, he, by simpa only [Bool.false_eq_true, if_false] using hev, hgood⟩
/-- A record, wherever the cursor stands. -/
theorem record_tot (c : List Int) (hc : ∀ x ∈ c, 0 ≤ x ∧ x ≤ 255) (a s : Int) (h0 : 0 ≤ a) (h1 : a ≤ 4611686018427380000) : ∃ x y z a' s', Ev (fun k => spec_l1Cur_journalRecord.f k c a s) (x, y, z, a', s') ∧ a + 1 ≤ a' ∧ a' ≤ a + 12 := by
  obtain ⟨r1, a1, s1, e1, _, _, g1, g2⟩ := pick_tot c hc a s 8 h0 (by omega) (by decide) (by decide)
  have g1' : a1 = a + 1 := by
    obtain ⟨q, s2, e, _, _⟩ := next_tot c hc a s h0 (by omega)
    unfold spec_l1Cur_pick.f at e1
    rw [if_neg (by decide), e] at e1
    simp only [Option.bind_some] at e1
    rw [if_neg (by decide), if_neg (by decide)] at e1
    simp only [Option.some.injEq, Prod.mk.injEq] at e1
    exact e1.2.1.symm
  obtain ⟨r2, a2, s2, e2, _, _, k1, k2⟩ := pick_tot c hc a1 s1 1000 (by omega) (by omega) (by decide) (by decide)
  obtain ⟨r3, a3, s3, e3, _, m1, m2⟩ := among_tot c hc a2 s2 [0, 5, 999, r2] (by omega) (by omega) (by simp) (by simp)
  obtain ⟨b, a4, s4, e4, n1, n2⟩ := one_tot c hc a3 s3 3 (by omega) (by omega) (by decide) (by decide)
  have j0 : ∀ (x y z : Int), ∃ x' y' z' a' s', Ev (fun k => spec_l1Cur_journalRecord.j0 k c a4 s4 x y z) (x', y', z', a', s') ∧ a4 ≤ a' ∧ a' ≤ a4 + 4 := by
    intro x y z
    obtain ⟨q, a5, s5, e5, _, _, o1, o2⟩ := pick_tot c hc a4 s4 40 (by omega) (by omega) (by decide) (by decide)
    by_cases c0 : q = 0
    · obtain ⟨r, a6, s6, e6, _, p1, p2⟩ := among_tot c hc a5 s5 [0, 3] (by omega) (by omega) (by decide) (by decide)
      refine ⟨r, y, z, a6, s6, ?_, by omega, by omega⟩
      refine ev_up ?_
      simp only [spec_l1Cur_journalRecord.j0, e5, Option.bind_some, if_pos c0, e6]
      exact Ev.now _
    · by_cases c1 : q = 1
      · obtain ⟨r, a6, s6, e6, _, p1, p2⟩ := among_tot c hc a5 s5 [(-1), 1, 8] (by omega) (by omega) (by decide) (by decide)
        refine ⟨x, r, z, a6, s6, ?_, by omega, by omega⟩
        refine ev_up ?_
        simp only [spec_l1Cur_journalRecord.j0, e5, Option.bind_some, if_neg c0, if_pos c1, e6]
        exact Ev.now _
      · by_cases c2 : q = 2
        · obtain ⟨r, a6, s6, e6, _, p1, p2⟩ := among_tot c hc a5 s5 [(-1), 1, 1000] (by omega) (by omega) (by decide) (by decide)
          refine ⟨x, y, r, a6, s6, ?_, by omega, by omega⟩
          refine ev_up ?_
          simp only [spec_l1Cur_journalRecord.j0, e5, Option.bind_some, if_neg c0, if_neg c1, if_pos c2, e6]
          exact Ev.now _
        · refine ⟨x, y, z, a5, s5, ?_, by omega, by omega⟩
          refine ev_up ?_
          simp only [spec_l1Cur_journalRecord.j0, e5, Option.bind_some, if_neg c0, if_neg c1, if_neg c2]
          exact Ev.now _
  unfold spec_l1Cur_journalRecord.f
  simp only [e1, Option.bind_some, e2, e3, e4]
  cases b with
  | true =>
    obtain ⟨x', y', z', a', s', hev, p1, p2⟩ := j0 2 0 0
    exact ⟨x', y', z', a', s', by simpa only [if_true] using hev, by omega, by omega⟩
  | false =>
    obtain ⟨x', y', z', a', s', hev, p1, p2⟩ := j0 1 r1 r3
    exact ⟨x', y', z', a', s', by simpa only [Bool.false_eq_true, if_false] using hev, by omega, by omega⟩
/-- The records drawn end with such a row. -/
def RTot (c : List Int) (N : Int) (l : List S72) (a s : Int) : Prop := ∃ r a' s', Ev (fun k => spec_l1Cur_journalRecords.l0 k l N c a s) (r, a', s') ∧ r.length ≤ 50 ∧ 0 ≤ a' ∧ a' ≤ 1152921504606846976
theorem rec_step {c : List Int} {N : Int} {l : List S72} {a2 s2 a1 s1 a3 s3 a4 s4 x y z : Int} {b b2 : Bool} (hl : (l.length : Int) < N) (hN : N ≤ 41) (hrec : Ev (fun k => spec_l1Cur_journalRecord.f k c a2 s2) (x, y, z, a1, s1))
    (h3 : spec_l1Cur_one.f c a1 s1 4 = some (b, a3, s3)) (h4 : spec_l1Cur_one.f c a3 s3 8 = some (b2, a4, s4)) (ha : 0 ≤ a4) (hb : a4 ≤ 1152921504606846976)
    (hI1 : RTot c N (l ++ [⟨x, y, z⟩]) a1 s1) (hI4 : RTot c N (l ++ [⟨x, y, z⟩]) a4 s4) (hT : okRec ⟨x, y, z⟩ = false → RTot c N l a4 s4) : RTot c N l a2 s2 := by
  have hlen : l.length < 5864062014805 := by omega
  cases hok : okRec ⟨x, y, z⟩ with
  | true =>
    obtain ⟨r, a', s', hev, h5, h6, h7⟩ := hI1
    refine ⟨r, a', s', ?_, h5, h6, h7⟩
    refine ev_up ?_
    simp only [spec_l1Cur_journalRecords.l0, if_pos hl]
    refine ev_bind hrec ?_
    simp only [jrRecord_eq, hok, Option.bind_some, if_true]
    refine ev_up ?_
    simp only [spec_l1Cur_journalRecords.j2, if_true, if_pos hlen]
    refine ev_up ?_
    simp only [spec_l1Cur_journalRecords.j3, jrRecord_eq, hok, Option.bind_some, if_true]
    exact hev
  | false =>
    have start : ∀ {R : List S72 × Int × Int}, Ev (fun k => spec_l1Cur_journalRecords.j2 k l N b c a3 s3 x y z) R → Ev (fun k => spec_l1Cur_journalRecords.l0 k l N c a2 s2) R := by
      intro R hR
      refine ev_up ?_
      simp only [spec_l1Cur_journalRecords.l0, if_pos hl]
      refine ev_bind hrec ?_
      simp only [jrRecord_eq, hok, Option.bind_some, Bool.false_eq_true, if_false, h3]
      exact hR
    have end3 : ∀ {l' : List S72}, (b2 = true → l'.length ≤ 50) → (b2 = false → RTot c N l' a4 s4) → ∃ r a' s', Ev (fun k => spec_l1Cur_journalRecords.j3 k l' N c a3 s3 x y z) (r, a', s') ∧ r.length ≤ 50 ∧ 0 ≤ a' ∧ a' ≤ 1152921504606846976 := by
      intro l' g1 g2
      cases b2 with
      | true =>
        refine ⟨l', a4, s4, ?_, g1 rfl, ha, hb⟩
        refine ev_up ?_
        simp only [spec_l1Cur_journalRecords.j3, jrRecord_eq, hok, Option.bind_some, Bool.false_eq_true, if_false, h4, if_true]
        exact Ev.now _
      | false =>
        obtain ⟨r, a', s', hev, h5, h6, h7⟩ := g2 rfl
        refine ⟨r, a', s', ?_, h5, h6, h7⟩
        refine ev_up ?_
        simp only [spec_l1Cur_journalRecords.j3, jrRecord_eq, hok, Option.bind_some, Bool.false_eq_true, if_false, h4]
        exact hev
    cases b with
    | true =>
      obtain ⟨r, a', s', hev, h5, h6, h7⟩ := end3 (l' := l ++ [⟨x, y, z⟩]) (fun _ => by simp; omega) (fun _ => hI4)
      refine ⟨r, a', s', start ?_, h5, h6, h7⟩
      refine ev_up ?_
      simp only [spec_l1Cur_journalRecords.j2, if_true, if_pos hlen]
      exact hev
    | false =>
      obtain ⟨r, a', s', hev, h5, h6, h7⟩ := end3 (l' := l) (fun _ => by omega) (fun _ => hT hok)
      refine ⟨r, a', s', start ?_, h5, h6, h7⟩
      refine ev_up ?_
      simp only [spec_l1Cur_journalRecords.j2, Bool.false_eq_true, if_false]
      exact hev
theorem recs_l0 (c : List Int) (hc : ∀ x ∈ c, 0 ≤ x ∧ x ≤ 255) (hL : c.length ≤ 1048576) (N : Int) (hN : N ≤ 41) : ∀ (m : Nat) (l : List S72) (a s : Int), (l.length : Int) + m = N → 0 ≤ a → a + 562949953421312 * (m + 1 : Nat) ≤ 1152921504606846976 → RTot c N l a s
  | 0, l, a, s, hl, h0, h1 => by
    refine ⟨l, a, s, ?_, by omega, h0, by omega⟩
    refine ev_up ?_
    simp only [spec_l1Cur_journalRecords.l0, if_neg (show ¬ (l.length : Int) < N by omega)]
    exact Ev.now _
  | m + 1, l, a, s, hl, h0, h1 => by
    have hlN : (l.length : Int) < N := by omega
    have IH : ∀ (x : S72) (a1 s1 : Int), a ≤ a1 → a1 ≤ a + 562949953421312 → RTot c N (l ++ [x]) a1 s1 := fun x a1 s1 g1 g2 =>
      recs_l0 c hc hL N hN m (l ++ [x]) a1 s1 (by simp; omega) (by omega) (by omega)
    have p48 : (2 : Nat) ^ 48 = 281474976710656 := by decide
    -- behind the end of the code, a good record ahead
    have ready : ∀ (a2 s2 : Int), (c.length : Int) ≤ a2 → a ≤ a2 → a2 + 20 ≤ a + 562949953421312 → 3 ≤ lV (it 6 s2) % 40 → RTot c N l a2 s2 := by
      intro a2 s2 hf g1 g2 hg
      obtain ⟨x, y, z, e, he, hrec, hok⟩ := record_far c a2 s2 hf (by omega)
      have he7 : e ≤ 7 := by omega
      obtain ⟨b, h3⟩ := one_far c (a2 + e) (it e s2) 4 (by omega) (by omega) (by decide) (by decide)
      obtain ⟨b2, h4⟩ := one_far c (a2 + e + 1) (lF (it e s2)) 8 (by omega) (by omega) (by decide) (by decide)
      exact rec_step hlN hN hrec h3 h4 (by omega) (by omega) (IH _ _ _ (by omega) (by omega)) (IH _ _ _ (by omega) (by omega)) (fun hn => by rw [hok hg] at hn; cases hn)
    have far : ∀ (n : Nat) (a2 s2 : Int), (c.length : Int) ≤ a2 → a ≤ a2 → a2 + n + 40 ≤ a + 562949953421312 → good9 s2 n → RTot c N l a2 s2 := by
      intro n
      induction n using Nat.strongRecOn with
      | _ n ih =>
        intro a2 s2 hf g1 g2 hg
        by_cases hn0 : n = 0
        · subst hn0
          exact ready a2 s2 hf g1 (by omega) (by have := hg 0 (by decide); simpa using this)
        · obtain ⟨x, y, z, e, he, hrec, hok⟩ := record_far c a2 s2 hf (by omega)
          have he7 : e ≤ 7 := by omega
          have he6 : 6 ≤ e := by omega
          obtain ⟨b, h3⟩ := one_far c (a2 + e) (it e s2) 4 (by omega) (by omega) (by decide) (by decide)
          obtain ⟨b2, h4⟩ := one_far c (a2 + e + 1) (lF (it e s2)) 8 (by omega) (by omega) (by decide) (by decide)
          have hs : lF (lF (it e s2)) = it (e + 2) s2 := by rw [← it_succ', ← it_succ']
          refine rec_step hlN hN hrec h3 h4 (by omega) (by omega) (IH _ _ _ (by omega) (by omega)) (IH _ _ _ (by omega) (by omega)) (fun _ => ?_)
          rw [hs]
          by_cases hen : e + 2 ≤ n
          · exact ih (n - (e + 2)) (by omega) _ _ (by omega) (by omega) (by omega) (good9_step hg hen)
          · exact ready _ _ (by omega) (by omega) (by omega) (good9_now hg (by omega) (by omega))
    -- within the code
    have near : ∀ (d : Nat) (a2 s2 : Int), (c.length : Int) ≤ a2 + d → a ≤ a2 → a2 ≤ a + 20971520 - 20 * d → RTot c N l a2 s2 := by
      intro d
      induction d with
      | zero =>
        intro a2 s2 hf g1 g2
        obtain ⟨n, hn, hg⟩ := reach9 s2
        exact far n a2 s2 (by omega) g1 (by omega) hg
      | succ d ih =>
        intro a2 s2 hf g1 g2
        by_cases hfar : (c.length : Int) ≤ a2
        · obtain ⟨n, hn, hg⟩ := reach9 s2
          exact far n a2 s2 hfar g1 (by omega) hg
        · obtain ⟨x, y, z, a1, s1, hrec, k1, k2⟩ := record_tot c hc a2 s2 (by omega) (by omega)
          obtain ⟨b, a3, s3, h3, q1, q2⟩ := one_tot c hc a1 s1 4 (by omega) (by omega) (by decide) (by decide)
          obtain ⟨b2, a4, s4, h4, q3, q4⟩ := one_tot c hc a3 s3 8 (by omega) (by omega) (by decide) (by decide)
          refine rec_step hlN hN hrec h3 h4 (by omega) (by omega) (IH _ _ _ (by omega) (by omega)) (IH _ _ _ (by omega) (by omega)) (fun _ => ?_)
          exact ih a4 s4 (by omega) (by omega) (by omega)
    exact near c.length a s (by omega) (by omega) (by omega)
theorem recs_tot (c : List Int) (hc : ∀ x ∈ c, 0 ≤ x ∧ x ≤ 255) (hL : c.length ≤ 1048576) (a s : Int) (h0 : 0 ≤ a) (h1 : a ≤ 1000000) : ∃ r a' s', Ev (fun k => spec_l1Cur_journalRecords.f k c a s) (r, a', s') ∧ r.length ≤ 50 ∧ 0 ≤ a' ∧ a' ≤ 1152921504606846976 := by
  obtain ⟨n, a1, s1, e1, n0, n1, g1, g2⟩ := pick_tot c hc a s 9 h0 (by omega) (by decide) (by decide)
  obtain ⟨b, a2, s2, e2, k1, k2⟩ := one_tot c hc a1 s1 16 (by omega) (by omega) (by decide) (by decide)
  have j0 : ∀ (N a3 s3 : Int), 0 ≤ N → N ≤ 41 → 0 ≤ a3 → a3 ≤ 2000000 → ∃ r a' s', Ev (fun k => spec_l1Cur_journalRecords.j0 k [] N c a3 s3) (r, a', s') ∧ r.length ≤ 50 ∧ 0 ≤ a' ∧ a' ≤ 1152921504606846976 := by
    intro N a3 s3 hN0 hN h3 h4
    obtain ⟨r, a', s', hev, q⟩ := recs_l0 c hc hL N hN N.toNat [] a3 s3 (by simp; omega) h3 (by omega)
    refine ⟨r, a', s', ?_, q⟩
    refine ev_up ?_
    simp only [spec_l1Cur_journalRecords.j0]
    exact hev
  unfold spec_l1Cur_journalRecords.f
  simp only [e1, Option.bind_some, e2]
  cases b with
  | true =>
    obtain ⟨q, a3, s3, e3, q0, q1, m1, m2⟩ := pick_tot c hc a2 s2 2 (by omega) (by omega) (by decide) (by decide)
    simp only [if_true, e3, Option.bind_some]
    rw [wrap_id (x := 40 + q) (by omega) (by omega)]
    exact j0 (40 + q) a3 s3 (by omega) (by omega) (by omega) (by omega)
  | false =>
    simp only [Bool.false_eq_true, if_false]
    exact j0 n a2 s2 (by omega) (by omega) (by omega) (by omega)
theorem numbers_l0 (c : List Int) (N a s : Int) (hN : N ≤ 201) : ∀ (m : Nat) (l : List Int), (l.length : Int) + m = max N l.length → Ev (fun k => spec_l1Cur_numbers.l0 k l N c a s) (l ++ List.replicate m 1, a, s)
  | 0, l, h => by
    refine ev_up ?_
    simp only [spec_l1Cur_numbers.l0, if_neg (show ¬ (l.length : Int) < N by omega), List.replicate_zero, List.append_nil]
    exact Ev.now _
  | m + 1, l, h => by
    refine ev_up ?_
    simp only [spec_l1Cur_numbers.l0, if_pos (show (l.length : Int) < N by omega), if_pos (show l.length < 17592186044416 by omega)]
    exact ev_eq (numbers_l0 c N a s hN m (l ++ [1]) (by simp; omega)) (by rw [List.append_assoc]; rfl)
theorem numbers_tot (c : List Int) (hc : ∀ x ∈ c, 0 ≤ x ∧ x ≤ 255) (hL : c.length ≤ 1048576) : ∃ r a' s', Ev (fun k => spec_l1Cur_numbers.f k c 0 0) (r, a', s') ∧ r.length ≤ 600 ∧ 0 ≤ a' ∧ a' ≤ 2305843009213693952 := by
  obtain ⟨R, a1, s1, e1, hR, h0, h1⟩ := recs_tot c hc hL 0 0 (by decide) (by decide)
  have j1 : ∀ (l : List Int) (q : Int) (b : Bool) (a s : Int), l.length ≤ 250 → 0 ≤ a → a ≤ 2305843009213693000 → ∃ r a' s', Ev (fun k => spec_l1Cur_numbers.j1 k l q b c a s) (r, a', s') ∧ r.length ≤ 600 ∧ 0 ≤ a' ∧ a' ≤ 2305843009213693952 := by
    intro l q b a s hl g0 g1
    cases b with
    | true =>
      obtain ⟨r, a2, s2, e2, k0, k1, k2, k3⟩ := pick_tot c hc a s (l.length + 1) g0 (by omega) (by omega) (by omega)
      refine ⟨l.take r.toNat, a2, s2, ?_, by rw [List.length_take]; omega, by omega, by omega⟩
      refine ev_up ?_
      simp only [spec_l1Cur_numbers.j1, if_true, wrap_id (x := (l.length : Int) + 1) (by omega) (by omega), e2, Option.bind_some, if_pos k0, if_pos (show r ≤ (l.length : Int) by omega)]
      exact Ev.now _
    | false =>
      by_cases q2 : q = 2
      · by_cases hpos : (l.length : Int) > 0
        · obtain ⟨r, a2, s2, e2, k0, k1, k2, k3⟩ := pick_tot c hc a s l.length g0 (by omega) (by omega) (by omega)
          obtain ⟨r3, a3, s3, e3, m0, m1, m2, m3⟩ := pick_tot c hc a2 s2 1000 (by omega) (by omega) (by decide) (by decide)
          obtain ⟨r4, a4, s4, e4, _, n2, n3⟩ := among_tot c hc a3 s3 [0, 1, 2, r3, 9999] (by omega) (by omega) (by simp) (by simp)
          refine ⟨l.set r.toNat r4, a4, s4, ?_, by rw [List.length_set]; omega, by omega, by omega⟩
          refine ev_up ?_
          simp only [spec_l1Cur_numbers.j1, Bool.false_eq_true, if_false, if_pos q2, if_pos hpos, e2, Option.bind_some, e3, e4, if_pos k0, if_pos k1]
          exact Ev.now _
        · refine ⟨l, a, s, ?_, by omega, by omega, by omega⟩
          refine ev_up ?_
          simp only [spec_l1Cur_numbers.j1, Bool.false_eq_true, if_false, if_pos q2, if_neg hpos]
          exact Ev.now _
      · by_cases q3 : q = 3
        · by_cases hlt : (l.length : Int) < 200
          · obtain ⟨r, a2, s2, e2, k0, k1, k2, k3⟩ := pick_tot c hc a s 3 g0 (by omega) (by decide) (by decide)
            refine ⟨l ++ [r], a2, s2, ?_, by simp; omega, by omega, by omega⟩
            refine ev_up ?_
            simp only [spec_l1Cur_numbers.j1, Bool.false_eq_true, if_false, if_neg q2, if_pos q3, if_pos hlt, e2, Option.bind_some, if_pos (show l.length < 17592186044416 by omega)]
            exact Ev.now _
          · refine ⟨l, a, s, ?_, by omega, by omega, by omega⟩
            refine ev_up ?_
            simp only [spec_l1Cur_numbers.j1, Bool.false_eq_true, if_false, if_neg q2, if_pos q3, if_neg hlt]
            exact Ev.now _
        · by_cases q4 : q = 4
          · obtain ⟨r, a2, s2, e2, k0, k1, k2, k3⟩ := pick_tot c hc a s 8 g0 (by omega) (by decide) (by decide)
            by_cases r0 : r = 0
            · obtain ⟨t, a3, s3, e3, m0, m1, m2, m3⟩ := pick_tot c hc a2 s2 2 (by omega) (by omega) (by decide) (by decide)
              have hl0 := numbers_l0 c (200 + t) a3 s3 (by omega) (max (200 + t) l.length - l.length).toNat l (by omega)
              refine ⟨l ++ List.replicate (max (200 + t) l.length - l.length).toNat 1, a3, s3, ?_, ?_, by omega, by omega⟩
              · refine ev_up ?_
                simp only [spec_l1Cur_numbers.j1, Bool.false_eq_true, if_false, if_neg q2, if_neg q3, if_pos q4, e2, Option.bind_some, if_pos r0, e3, wrap_id (x := 200 + t) (by omega) (by omega)]
                exact hl0
              · rw [List.length_append, List.length_replicate]; omega
            · by_cases r1 : r = 1
              · obtain ⟨t, a3, s3, e3, _, m2, m3⟩ := among_tot c hc a2 s2 [(-1), 10000] (by omega) (by omega) (by decide) (by decide)
                refine ⟨l ++ [t], a3, s3, ?_, by simp; omega, by omega, by omega⟩
                refine ev_up ?_
                simp only [spec_l1Cur_numbers.j1, Bool.false_eq_true, if_false, if_neg q2, if_neg q3, if_pos q4, e2, Option.bind_some, if_neg r0, if_pos r1, e3, if_pos (show l.length < 17592186044416 by omega)]
                exact Ev.now _
              · refine ⟨l, a2, s2, ?_, by omega, by omega, by omega⟩
                refine ev_up ?_
                simp only [spec_l1Cur_numbers.j1, Bool.false_eq_true, if_false, if_neg q2, if_neg q3, if_pos q4, e2, Option.bind_some, if_neg r0, if_neg r1]
                exact Ev.now _
          · refine ⟨l, a, s, ?_, by omega, by omega, by omega⟩
            refine ev_up ?_
            simp only [spec_l1Cur_numbers.j1, Bool.false_eq_true, if_false, if_neg q2, if_neg q3, if_neg q4]
            exact Ev.now _
  have j0 : ∀ (x : List S72), x.length ≤ 50 → ∃ r a' s', Ev (fun k => spec_l1Cur_numbers.j0 k x c a1 s1) (r, a', s') ∧ r.length ≤ 600 ∧ 0 ≤ a' ∧ a' ≤ 2305843009213693952 := by
    intro x hx
    obtain ⟨q, a2, s2, e2, k0, k1, k2, k3⟩ := pick_tot c hc a1 s1 6 (by omega) (by omega) (by decide) (by decide)
    have hj : ∀ b, ∃ r a' s', Ev (fun k => spec_l1Cur_numbers.j1 k (numsFrom 0 x) q b c a2 s2) (r, a', s') ∧ r.length ≤ 600 ∧ 0 ≤ a' ∧ a' ≤ 2305843009213693952 := fun b => j1 _ q b a2 s2 (by rw [numsFrom_len]; omega) (by omega) (by omega)
    by_cases hq : q = 0
    · obtain ⟨r, a', s', hev, g⟩ := hj (q == 0)
      refine ⟨r, a', s', ?_, g⟩
      refine ev_up ?_
      simp only [spec_l1Cur_numbers.j0]
      refine ev_bind (spec_jrAll_ev x (by omega)) ?_
      simp only [e2, Option.bind_some, if_pos hq]
      exact hev
    · obtain ⟨r, a', s', hev, g⟩ := hj (q == 1)
      refine ⟨r, a', s', ?_, g⟩
      refine ev_up ?_
      simp only [spec_l1Cur_numbers.j0]
      refine ev_bind (spec_jrAll_ev x (by omega)) ?_
      simp only [e2, Option.bind_some, if_neg hq]
      exact hev
  unfold spec_l1Cur_numbers.f
  cases hg : goodRecs R with
  | true =>
    obtain ⟨r, a', s', hev, g⟩ := j0 R hR
    refine ⟨r, a', s', ?_, g⟩
    refine ev_bind e1 ?_
    refine ev_bind (ev_eq (spec_jrGood_ev R (by omega)) hg) ?_
    simp only [if_true]
    exact hev
  | false =>
    obtain ⟨r, a', s', hev, g⟩ := j0 [⟨1, 2, 5⟩] (by decide)
    refine ⟨r, a', s', ?_, g⟩
    refine ev_bind e1 ?_
    refine ev_bind (ev_eq (spec_jrGood_ev R (by omega)) hg) ?_
    simp only [Bool.false_eq_true, if_false]
    exact hev
theorem cutAt_tot (c : List Int) (hc : ∀ x ∈ c, 0 ≤ x ∧ x ≤ 255) (a s : Int) (h0 : 0 ≤ a) (h1 : a ≤ 2305843009213693952) : ∃ r a' s', spec_l1Cur_cutAt.f c a s = some (r, a', s') := by
  obtain ⟨r1, a1, s1, e1, _, _, g1, g2⟩ := pick_tot c hc a s 60 h0 (by omega) (by decide) (by decide)
  obtain ⟨r2, a2, s2, e2, _, k1, k2⟩ := among_tot c hc a1 s1 [201, (-1)] (by omega) (by omega) (by decide) (by decide)
  obtain ⟨r3, a3, s3, e3, _, m1, m2⟩ := among_tot c hc a2 s2 [0, 1, 5, 9, 10, r1, 200, r2] (by omega) (by omega) (by simp) (by simp)
  refine ⟨r3, a3, s3, ?_⟩
  unfold spec_l1Cur_cutAt.f
  simp only [e1, Option.bind_some, e2, e3]
theorem pSame_l0 : ∀ (q p : List S72), (p ++ q).length < 9223372036854775807 → Ev (fun k => laws_pSameRecords.l0 k (p ++ q) (p ++ q) ((p ++ q).length : Int) (p.length : Int)) true
  | [], p, h => by
    refine ev_up ?_
    simp only [laws_pSameRecords.l0, mid_end, ↓reduceIte]
    exact Ev.now _
  | x :: q, p, h => by
    have hp : p.length < 9223372036854775807 := by simp only [List.length_append, List.length_cons] at h; omega
    refine ev_up ?_
    simp only [laws_pSameRecords.l0, mid_lt, mid_ge, wrap_mid p x hp, ↓reduceIte, beq_self_eq_true, Bool.not_true, Bool.or_self, Bool.false_eq_true]
    rw [step_mid p q x] at h ⊢
    exact pSame_l0 q (p ++ [x]) h
theorem pSame_ev (l : List S72) (h : l.length < 9223372036854775807) : Ev (fun k => laws_pSameRecords.f k l l) true := by
  simp only [laws_pSameRecords.f, ↓reduceIte]
  simpa using pSame_l0 l [] (by simpa using h)
theorem good_sub {l l' : List Int} (h : goodNums l = true) (hm : ∀ x ∈ l', x ∈ l) (hl : l'.length ≤ l.length) : goodNums l' = true := by
  unfold goodNums at h ⊢
  simp only [Bool.and_eq_true, List.all_eq_true, decide_eq_true_eq] at h ⊢
  exact ⟨fun x hx => h.1 x (hm x hx), by omega⟩
/-- What is recovered of a beginning is a beginning of what is recovered. -/
theorem recFrom_take : ∀ (m : Nat) (q : List Int) (n i : Nat), q.length ≤ m → (recFrom i q).take (recFrom i (q.take n)).length = recFrom i (q.take n) ∧ (recFrom i (q.take n)).length ≤ (recFrom i q).length ∧ 5 * (recFrom i (q.take n)).length ≤ (q.take n).length
  | m, q, n, i, hm => by
    by_cases hq : (q.take n).length < 5
    · rw [recFrom_short i hq]; simp
    · rw [List.length_take] at hq
      obtain ⟨a, b, c, d, e, r, rfl⟩ := five (show ¬ q.length < 5 by omega)
      obtain ⟨n', rfl⟩ : ∃ n', n = n' + 5 := ⟨n - 5, by simp at hq; omega⟩
      simp only [List.take_succ_cons]
      match m, hm with
      | 0, hm => simp at hm
      | m + 1, hm =>
        simp only [recFrom]
        split
        · obtain ⟨h1, h2, h3⟩ := recFrom_take m r n' (i + 1) (by simp at hm; omega)
          refine ⟨by simp only [List.length_cons, List.take_succ_cons, h1], by simp only [List.length_cons]; omega, by simp only [List.length_cons]; omega⟩
        · simp
/-- A changed number leaves the records before it. -/
theorem recFrom_set : ∀ (m : Nat) (q : List Int) (n i : Nat) (v : Int), q.length ≤ m → (recFrom i (q.set n v)).take (n / 5) = (recFrom i q).take (n / 5) ∧ (n / 5 ≤ (recFrom i q).length → n / 5 ≤ (recFrom i (q.set n v)).length)
  | m, q, n, i, v, hm => by
    by_cases hn : n < 5
    · rw [Nat.div_eq_of_lt hn]; simp
    · by_cases hq : q.length < 5
      · rw [recFrom_short i hq, recFrom_short i (by rw [List.length_set]; exact hq)]; simp
      · obtain ⟨a, b, c, d, e, r, rfl⟩ := five hq
        obtain ⟨n', rfl⟩ : ∃ n', n = n' + 5 := ⟨n - 5, by omega⟩
        have hdiv : (n' + 5) / 5 = n' / 5 + 1 := by omega
        simp only [List.set_cons_succ]
        match m, hm with
        | 0, hm => simp at hm
        | m + 1, hm =>
          simp only [recFrom, hdiv]
          split
          · obtain ⟨h1, h2⟩ := recFrom_set m r n' (i + 1) v (by simp at hm; omega)
            refine ⟨by simp only [List.take_succ_cons, h1], fun h => ?_⟩
            simp only [List.length_cons] at h ⊢
            have := h2 (by omega)
            omega
          · simp
theorem FnCuts_j4 (y1 : List Int) (y2 : List S72) (a b c : Int) (h1 : y1.length ≤ 1000) (h2 : y2.length ≤ 1000) : Ev (fun k => laws_FnCuts.j4 k y1 y2 a b c) true := by
  refine ev_up ?_
  simp only [laws_FnCuts.j4]
  refine ev_bind (same_ev y1 (by omega)) ?_
  simp only [if_true]
  refine ev_bind (pSame_ev y2 (by omega)) ?_
  simp only [if_true, IsJournalRecord_eq, spec_IsJournalRecord.f, jrRecord_eq, Option.bind_some]
  exact Ev.now _
theorem FnCuts_j3 (x : List Int) (hx : ∀ z ∈ x, 0 ≤ z ∧ z ≤ 255) (hL : x.length ≤ 1048576) : Ev (fun k => laws_FnCuts.j3 k x) true := by
  obtain ⟨R, a1, s1, e1, hR, h0, h1⟩ := recs_tot x hx hL 0 0 (by decide) (by decide)
  obtain ⟨n, a2, s2, e2⟩ := cutAt_tot x hx a1 s1 h0 (by omega)
  obtain ⟨p, q, r, a3, s3, e3, g1, g2⟩ := record_tot x hx 0 0 (by decide) (by decide)
  obtain ⟨t, a4, s4, e4, _, k1, k2⟩ := among_tot x hx a3 s3 [40, (-1)] (by omega) (by omega) (by decide) (by decide)
  obtain ⟨u, a5, s5, e5, _, _, _⟩ := among_tot x hx a4 s4 [0, 1, 7, 39, t] (by omega) (by omega) (by simp) (by simp)
  obtain ⟨Y, a6, s6, e6, hY, _, _⟩ := numbers_tot x hx hL
  have d1 : Ev (fun k => spec_DrawLostAfterCut.f k x) (R, n) := by
    unfold spec_DrawLostAfterCut.f
    refine ev_bind e1 ?_
    simp only [e2, Option.bind_some]
    exact Ev.now _
  have d2 : Ev (fun k => spec_DrawRecordNumbers.f k x) (p, q, r, u) := by
    unfold spec_DrawRecordNumbers.f
    refine ev_bind e3 ?_
    simp only [e4, Option.bind_some, e5]
    exact Ev.now _
  have d3 : Ev (fun k => spec_DrawRecoverRecords.f k x) Y := by
    unfold spec_DrawRecoverRecords.f
    refine ev_bind e6 ?_
    exact Ev.now _
  have d4 : Ev (fun k => spec_DrawIsJournalRecord.f k x) (p, q, r) := by
    unfold spec_DrawIsJournalRecord.f
    refine ev_bind e3 ?_
    exact Ev.now _
  have hj4 := FnCuts_j4 (rRecordNumbers p q r u).1 (rRecoverRecords Y).1 p q r (by have := rRecordNumbers_len p q r u; omega) (by unfold rRecoverRecords; split; have := recovered_len Y; simp; omega; simp)
  refine ev_up ?_
  simp only [laws_FnCuts.j3]
  refine ev_bind d1 ?_
  refine ev_bind (impl_LostAfterCut_ev R n (by omega)) ?_
  refine ev_bind (spec_LostAfterCut_ev R n (by omega)) ?_
  simp only [↓reduceIte]
  refine ev_bind d2 ?_
  simp only [impl_RecordNumbers_eq, spec_RecordNumbers_eq, Option.bind_some, ↓reduceIte]
  refine ev_bind d3 ?_
  refine ev_bind (impl_RecoverRecords_ev Y (by omega)) ?_
  refine ev_bind (spec_RecoverRecords_ev Y (by omega)) ?_
  simp only [↓reduceIte]
  refine ev_bind d4 ?_
  by_cases hb : (rLostAfterCut R n).2 = true
  · have hv : 0 ≤ (rLostAfterCut R n).1 ∧ (rLostAfterCut R n).1 ≤ 8 := by
      unfold rLostAfterCut at hb ⊢
      split
      · have := cntNe_le (values (recovered ((numsFrom 0 R).take (mn n (numsFrom 0 R).length).toNat))) (values R)
        rw [values_len] at this
        simp only
        omega
      · simp
    simp only [if_pos hb, if_pos hv.1, if_pos hv.2]
    exact hj4
  · simp only [if_neg hb]
    exact hj4
theorem FnCuts_j1 (x : List Int) (hx : ∀ z ∈ x, 0 ≤ z ∧ z ≤ 255) (hL : x.length ≤ 1048576) : Ev (fun k => laws_FnCuts.j1 k x) true := by
  have j3 := FnCuts_j3 x hx hL
  obtain ⟨U, a1, s1, e1, hU, h0, h1⟩ := numbers_tot x hx hL
  obtain ⟨r1, a2, s2, e2, k0, k1, k2, k3⟩ := pick_tot x hx a1 s1 16 (by omega) (by omega) (by decide) (by decide)
  have ht : 0 ≤ Int.tdiv r1 15 ∧ Int.tdiv r1 15 ≤ 1 := by rw [Int.tdiv_eq_ediv_of_nonneg k0]; omega
  generalize ht1 : Int.tdiv r1 15 = t1 at ht
  -- pick of a small number ends, whatever it is
  have pick' : ∀ (a s n : Int), 0 ≤ a → a ≤ 4611686018427387000 → n ≤ 100000 → ∃ r a' s', spec_l1Cur_pick.f x a s n = some (r, a', s') ∧ 0 ≤ r ∧ r ≤ 100000 ∧ a ≤ a' ∧ a' ≤ a + 2 := by
    intro a s n g0 g1 hn
    by_cases hn1 : n ≤ 1
    · exact ⟨0, a, s, by unfold spec_l1Cur_pick.f; rw [if_pos hn1], by omega, by omega, by omega, by omega⟩
    · obtain ⟨r, a', s', e, q0, q1, q2, q3⟩ := pick_tot x hx a s n g0 g1 (by omega) hn
      exact ⟨r, a', s', e, q0, by omega, q2, q3⟩
  obtain ⟨r2, a3, s3, e3, m0, m1, m2, m3⟩ := pick' a2 s2 (U.length + t1) (by omega) (by omega) (by omega)
  obtain ⟨r3, a4, s4, e4, n0, n1, n2, n3⟩ := pick_tot x hx a3 s3 24 (by omega) (by omega) (by decide) (by decide)
  have hu : 0 ≤ Int.tdiv r3 23 ∧ Int.tdiv r3 23 ≤ 1 := by rw [Int.tdiv_eq_ediv_of_nonneg n0]; omega
  generalize ht2 : Int.tdiv r3 23 = t2 at hu
  obtain ⟨w, a5, s5, e5, _, o2, o3⟩ := among_tot x hx a4 s4 [10000, (-1)] (by omega) (by omega) (by decide) (by decide)
  obtain ⟨v, a6, s6, e6, _, _, _⟩ := among_tot x hx a5 s5 [0, 1, 5, 997, 9999, w] (by omega) (by omega) (by simp) (by simp)
  have d1 : Ev (fun k => spec_DrawChangeNumber.f k x) (U, r2 - t2, v) := by
    unfold spec_DrawChangeNumber.f
    refine ev_bind e1 ?_
    simp only [e2, Option.bind_some, ht1, wrap_id (x := t1) (by omega) (by omega), wrap_id (x := (U.length : Int) + t1) (by omega) (by omega), e3, e4, ht2, wrap_id (x := t2) (by omega) (by omega), wrap_id (x := r2 - t2) (by omega) (by omega), e5, e6]
    exact Ev.now _
  generalize hi : r2 - t2 = i at d1
  have hib : -10 ≤ i ∧ i ≤ 200000 := by omega
  have hlen : (rChangeNumber U i v).1.length ≤ 1000 := by unfold rChangeNumber; split <;> simp <;> omega
  refine ev_up ?_
  simp only [laws_FnCuts.j1]
  refine ev_bind d1 ?_
  refine ev_bind (impl_ChangeNumber_ev U i v (by omega)) ?_
  refine ev_bind (spec_ChangeNumber_ev U i v (by omega)) ?_
  simp only [↓reduceIte]
  refine ev_bind (same_ev _ (by omega)) ?_
  simp only [if_true]
  refine ev_up ?_
  by_cases hok : goodNums U = true ∧ 0 ≤ i ∧ i < U.length ∧ 0 ≤ v ∧ v ≤ 9999
  · have hr : rChangeNumber U i v = (U.set i.toNat v, true) := by unfold rChangeNumber; rw [if_pos hok]
    obtain ⟨hg, hi0, hi1, hv0, hv1⟩ := hok
    have hin : i.toNat < U.length := by omega
    have hgU := hg
    unfold goodNums at hgU
    simp only [Bool.and_eq_true, List.all_eq_true, decide_eq_true_eq] at hgU
    have hrd : 0 ≤ rd U i ∧ rd U i ≤ 9999 := by
      unfold rd
      rw [List.getD_eq_getElem?_getD, List.getElem?_eq_getElem hin]
      exact hgU.1 _ (List.getElem_mem _)
    have hgv : goodNums (U.set i.toNat v) = true := by
      unfold goodNums
      simp only [Bool.and_eq_true, List.all_eq_true, decide_eq_true_eq, List.length_set]
      exact ⟨fun z hz => by rcases List.mem_or_eq_of_mem_set hz with hz | rfl; exact hgU.1 z hz; omega, hgU.2⟩
    have hback : rChangeNumber (U.set i.toNat v) i (rd U i) = (U, true) := by
      unfold rChangeNumber
      rw [if_pos ⟨hgv, hi0, by rw [List.length_set]; exact hi1, hrd⟩, List.set_set]
      congr 1
      unfold rd
      rw [List.getD_eq_getElem?_getD, List.getElem?_eq_getElem hin]
      exact List.set_getElem_self hin
    have hdiv : wrap64 (Int.tdiv i 5) = ((i.toNat / 5 : Nat) : Int) := by
      rw [Int.tdiv_eq_ediv_of_nonneg hi0, wrap_id (by omega) (by omega)]; omega
    obtain ⟨t1, t2⟩ := recFrom_set (U.length) U i.toNat 0 v (Nat.le_refl _)
    have eR : rRecoverRecords (U.set i.toNat v) = (recovered (U.set i.toNat v), wrap64 (5 * ((recovered (U.set i.toNat v)).length : Int)), true) := by unfold rRecoverRecords; rw [if_pos hgv]
    have eU : rRecoverRecords U = (recovered U, wrap64 (5 * ((recovered U).length : Int)), true) := by unfold rRecoverRecords; rw [if_pos hg]
    have lR := recovered_len (U.set i.toNat v)
    have lU := recovered_len U
    simp only [laws_FnCuts.j2, hr, if_true, if_pos hi0, if_pos hi1]
    refine ev_bind (ev_eq (impl_ChangeNumber_ev (U.set i.toNat v) i (rd U i) (by rw [List.length_set]; omega)) hback) ?_
    refine ev_bind (ev_eq (impl_RecoverRecords_ev (U.set i.toNat v) (by rw [List.length_set]; omega)) eR) ?_
    refine ev_bind (ev_eq (spec_RecoverRecords_ev (U.set i.toNat v) (by rw [List.length_set]; omega)) eR) ?_
    simp only [↓reduceIte]
    refine ev_bind (ev_eq (spec_RecoverRecords_ev U (by omega)) eU) ?_
    simp only [if_true]
    refine ev_bind (same_ev U (by omega)) ?_
    simp only [if_true]
    refine ev_bind (pSame_ev _ (by omega)) ?_
    simp only [if_true, hdiv]
    by_cases hlt : ((i.toNat / 5 : Nat) : Int) < ((recovered U).length : Int)
    · have t2' := t2 (by unfold recovered at hlt; omega)
      simp only [if_pos hlt, if_pos (show (0 : Int) ≤ ((i.toNat / 5 : Nat) : Int) by omega), if_pos (show ((i.toNat / 5 : Nat) : Int) ≤ ((recovered (U.set i.toNat v)).length : Int) by unfold recovered; omega), if_pos (show ((i.toNat / 5 : Nat) : Int) ≤ ((recovered U).length : Int) by omega), Int.toNat_natCast]
      have et : (recovered (U.set i.toNat v)).take (i.toNat / 5) = (recovered U).take (i.toNat / 5) := t1
      rw [et]
      refine ev_bind (pSame_ev _ (by rw [List.length_take]; omega)) ?_
      simp only [if_true]
      exact j3
    · simp only [if_neg hlt]
      exact j3
  · have hr : rChangeNumber U i v = ([], false) := by unfold rChangeNumber; rw [if_neg hok]
    simp only [laws_FnCuts.j2, hr, Bool.false_eq_true, if_false]
    exact j3
theorem FnCuts_ev (l0 l1 : List Int) (h0 : ∀ x ∈ l0, 0 ≤ x ∧ x ≤ 255) (h1 : ∀ x ∈ l1, 0 ≤ x ∧ x ≤ 255) : Ev (fun k => laws_FnCuts.f k l0 l1) true := by
  by_cases hbig : laws_big.f l0 l1 = some true
  · unfold laws_FnCuts.f
    simp only [hbig, Option.bind_some, if_true]
    exact Ev.now _
  · have hb : laws_big.f l0 l1 = some false ∧ l0.length ≤ 1048576 ∧ l1.length ≤ 1048576 := by
      unfold laws_big.f at hbig ⊢
      split at hbig
      · exact (hbig rfl).elim
      · rename_i hl
        rw [if_neg hl]
        rw [wrap_id (by omega) (by omega)] at hbig ⊢
        have : ¬ (l1.length : Int) > 1048576 - (l0.length : Int) := fun h => hbig (by simp only [decide_eq_true h])
        exact ⟨by simp only [decide_eq_false this], by omega, by omega⟩
    obtain ⟨hb, hL0, hL1⟩ := hb
    have j1 := FnCuts_j1 l1 h1 hL1
    obtain ⟨X, a1, s1, e1, hX, g0, g1⟩ := numbers_tot l0 h0 hL0
    obtain ⟨n, a2, s2, e2⟩ := cutAt_tot l0 h0 a1 s1 g0 g1
    have d1 : Ev (fun k => spec_DrawCutNumbers.f k l0) (X, n) := by
      unfold spec_DrawCutNumbers.f
      refine ev_bind e1 ?_
      simp only [e2, Option.bind_some]
      exact Ev.now _
    have hlen : (rCutNumbers X n).1.length ≤ 1000 := by unfold rCutNumbers; split <;> simp <;> omega
    unfold laws_FnCuts.f
    simp only [hb, Option.bind_some, Bool.false_eq_true, if_false]
    refine ev_bind d1 ?_
    refine ev_bind (impl_CutNumbers_ev X n (by omega)) ?_
    refine ev_bind (spec_CutNumbers_ev X n (by omega)) ?_
    simp only [↓reduceIte]
    refine ev_bind (same_ev _ (by omega)) ?_
    simp only [if_true]
    refine ev_up ?_
    by_cases hok : goodNums X = true ∧ 0 ≤ n ∧ n ≤ 200
    · have hr : rCutNumbers X n = (X.take (mn n X.length).toNat, true) := by unfold rCutNumbers; rw [if_pos hok]
      generalize (mn n X.length).toNat = w at hr
      have hg := good_sub hok.1 (l' := X.take w) (fun x hx => List.mem_of_mem_take hx) (by rw [List.length_take]; omega)
      obtain ⟨t1, t2, t3⟩ := recFrom_take X.length X w 0 (Nat.le_refl _)
      have lX := recovered_len X
      have lW := recovered_len (X.take w)
      have eW : rRecoverRecords (X.take w) = (recovered (X.take w), wrap64 (5 * ((recovered (X.take w)).length : Int)), true) := by unfold rRecoverRecords; rw [if_pos hg]
      have eX : rRecoverRecords X = (recovered X, wrap64 (5 * ((recovered X).length : Int)), true) := by unfold rRecoverRecords; rw [if_pos hok.1]
      have hw1 : wrap64 (5 * ((recovered (X.take w)).length : Int)) = 5 * ((recovered (X.take w)).length : Int) := wrap_id (by omega) (by omega)
      have hw2 : wrap64 (5 * ((recovered X).length : Int)) = 5 * ((recovered X).length : Int) := wrap_id (by omega) (by omega)
      rw [hw1] at eW
      rw [hw2] at eX
      have et : (recovered X).take (recovered (X.take w)).length = recovered (X.take w) := t1
      simp only [laws_FnCuts.j0, hr, if_true]
      refine ev_bind (ev_eq (impl_RecoverRecords_ev (X.take w) (by rw [List.length_take]; omega)) eW) ?_
      refine ev_bind (ev_eq (spec_RecoverRecords_ev (X.take w) (by rw [List.length_take]; omega)) eW) ?_
      simp only [↓reduceIte]
      refine ev_bind (ev_eq (spec_RecoverRecords_ev X (by omega)) eX) ?_
      simp only [if_true]
      refine ev_bind (pSame_ev _ (by omega)) ?_
      simp only [if_true, hw1, if_neg (show ¬ (5 * ((recovered X).length : Int)) < 5 * ((recovered (X.take w)).length : Int) by unfold recovered; omega), if_neg (show ¬ ((X.take w).length : Int) < 5 * ((recovered (X.take w)).length : Int) by unfold recovered; omega), ↓reduceIte, if_pos (show (0 : Int) ≤ ((recovered (X.take w)).length : Int) by omega), if_pos (show ((recovered (X.take w)).length : Int) ≤ ((recovered X).length : Int) by unfold recovered; omega), Int.toNat_natCast, et]
      refine ev_bind (pSame_ev _ (by omega)) ?_
      simp only [if_true]
      exact j1
    · have hr : rCutNumbers X n = ([], false) := by unfold rCutNumbers; rw [if_neg hok]
      simp only [laws_FnCuts.j0, hr, Bool.false_eq_true, if_false]
      exact j1

end Go.Proofs.Ythhoobpmjgpkkaa.Pure
