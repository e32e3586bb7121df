/- The law FnJournal of plain lists and numbers: whatever the input, it answers true. Condition: the lengths are those of rows that fit a machine. -/
import Derived.Test.YthhoobpmjgpkkaaQ4
namespace Go.Proofs.Ythhoobpmjgpkkaa.Pure
open Go.RowKit Go.Proofs.Ythhoobpmjgpkkaa.E Go.Proofs.YthhoobpmjgpkkaaW.PrintWords Go.Proofs.YthhoobpmjgpkkaaW.PrintLast Go.Proofs.YthhoobpmjgpkkaaW.PrintMore
set_option linter.unusedVariables false
set_option linter.unusedSimpArgs false

/-! ### Ground: rounds, and a row seen as what is behind and what is ahead -/
theorem ev_up {α : Type} {g : Nat → Option α} {r : α} (h : Ev (fun k => g (k + 1)) r) : Ev g r := by
  obtain ⟨K, hK⟩ := h
  refine ⟨K + 1, fun k hk => ?_⟩
  obtain ⟨m, rfl⟩ : ∃ m, k = m + 1 := ⟨k - 1, by omega⟩
  exact hK m (by omega)
theorem ev_eq {α : Type} {g : Nat → Option α} {r r' : α} (h : Ev g r) (e : r = r') : Ev g r' := e ▸ h
theorem ev_bind {α β : Type} {g : Nat → Option α} {f : Nat → α → Option β} {a : α} {r : β} (h : Ev g a) (k : Ev (fun n => f n a) r) : Ev (fun n => (g n).bind (f n)) r := Ev.bind h k
theorem mid_lt {α : Type} (p q : List α) (x : α) : ((p.length : Int) < ((p ++ x :: q).length : Int)) = True := by
  apply eq_true; simp only [List.length_append, List.length_cons]; omega
theorem mid_lt2 {α β : Type} (p : List α) (p' q : List β) (x : β) (h : p.length = p'.length) : ((p.length : Int) < ((p' ++ x :: q).length : Int)) = True := by
  apply eq_true; simp only [List.length_append, List.length_cons]; omega
theorem mid_ge {α : Type} (p : List α) : (0 ≤ (p.length : Int)) = True := by apply eq_true; omega
theorem mid_end {α : Type} (p : List α) : ((p.length : Int) < ((p ++ []).length : Int)) = False := by simp
theorem mid_lt_l {α : Type} (p : List α) (x : α) (q : List α) : ((p.length : Int) < (p.length : Int) + ((x :: q).length : Int)) = True := by
  apply eq_true; simp only [List.length_cons]; omega
theorem rd_mid (p q : List Int) (x : Int) : rd (p ++ x :: q) (p.length : Int) = x := by simp [rd]
theorem rd_mid2 {α : Type} (p : List α) (p' q : List Int) (x : Int) (h : p.length = p'.length) : rd (p' ++ x :: q) (p.length : Int) = x := by simp [rd, h]
theorem getD_mid {α : Type} (p q : List α) (x z : α) : (p ++ x :: q).getD ((p.length : Int)).toNat z = x := by simp
theorem getD_mid2 {α β : Type} (p : List α) (p' q : List β) (x z : β) (h : p.length = p'.length) : (p' ++ x :: q).getD ((p.length : Int)).toNat z = x := by simp [h]
theorem set_mid {α : Type} (p q : List α) (x y : α) : (p ++ x :: q).set ((p.length : Int)).toNat y = p ++ y :: q := by simp
theorem set_mid2 {α β : Type} (p : List α) (p' q : List β) (x y : β) (h : p.length = p'.length) : (p' ++ x :: q).set ((p.length : Int)).toNat y = p' ++ y :: q := by simp [h]
theorem wrap_mid {α : Type} (p : List α) (x : α) (h : p.length < 9223372036854775807) : wrap64 ((p.length : Int) + 1) = ((p ++ [x]).length : Int) := by
  unfold wrap64; simp only [List.length_append, List.length_singleton]; omega
theorem step_mid {α : Type} (p q : List α) (x : α) : p ++ x :: q = (p ++ [x]) ++ q := by simp
theorem wrap_id {x : Int} (h0 : -9223372036854775808 ≤ x) (h1 : x ≤ 9223372036854775807) : wrap64 x = x := by unfold wrap64; omega
theorem wf_i64 {x : Int} (h : (Lit.int .i64 x).wf = true) : -9223372036854775808 ≤ x ∧ x ≤ 9223372036854775807 := by
  have h1 : IntKind.i64.min = -9223372036854775808 := by decide +kernel
  have h2 : IntKind.i64.max = 9223372036854775807 := by decide +kernel
  simp only [Lit.wf, h1, h2, Bool.and_eq_true, decide_eq_true_eq] at h
  omega
theorem l1In_eq (a lo hi : Int) : spec_l1In.f a lo hi = some (decide (lo ≤ a ∧ a ≤ hi)) := by
  by_cases h : lo ≤ a <;> simp [spec_l1In.f, h]
theorem spec_l1All_l0 (lo hi : Int) : ∀ (q p : List Int), (p ++ q).length < 9223372036854775807 → Ev (fun k => spec_l1All.l0 k lo hi (p ++ q) ((p ++ q).length : Int) (p.length : Int)) (q.all fun x => decide (lo ≤ x ∧ x ≤ hi))
  | [], p, h => by
    refine ev_up ?_
    simp only [spec_l1All.l0, mid_end, ↓reduceIte]
    exact Ev.now _
  | x :: q, p, h => by
    have hp : p.length < 9223372036854775807 := by simp only [List.length_append, List.length_cons] at h; omega
    refine ev_up ?_
    simp only [spec_l1All.l0, l1In_eq, Option.bind_some, mid_lt, mid_ge, rd_mid, wrap_mid p x hp, ↓reduceIte, List.all_cons]
    cases decide (lo ≤ x ∧ x ≤ hi) with
    | false => simpa using Ev.now _
    | true =>
      simp only [↓reduceIte, Bool.true_and]
      rw [step_mid p q x] at h ⊢
      exact spec_l1All_l0 lo hi q (p ++ [x]) h
theorem spec_l1All_ev (l : List Int) (lo hi : Int) (h : l.length < 9223372036854775807) : Ev (fun k => spec_l1All.f k l lo hi) (l.all fun x => decide (lo ≤ x ∧ x ≤ hi)) := by
  simpa [spec_l1All.f] using spec_l1All_l0 lo hi l [] (by simpa using h)
theorem l1Most_eq (a b : Int) : spec_l1Most.f a b = some (mx a b) := by
  unfold spec_l1Most.f mx; split <;> split <;> first | rfl | (congr 1; omega)
/-- A valid record. -/
def okRec (r : S72) : Bool := decide ((r.f0 = 1 ∧ 0 ≤ r.f1 ∧ r.f1 ≤ 7 ∧ 0 ≤ r.f2 ∧ r.f2 ≤ 999) ∨ (r.f0 = 2 ∧ r.f1 = 0 ∧ r.f2 = 0))
def goodRecs (l : List S72) : Bool := l.all okRec && decide (l.length ≤ 40)
def goodNums (l : List Int) : Bool := (l.all fun x => decide (0 ≤ x ∧ x ≤ 9999)) && decide (l.length ≤ 200)
theorem jrRecord_eq (a b c : Int) : spec_jrRecord.f a b c = some (okRec ⟨a, b, c⟩) := by
  simp only [spec_jrRecord.f, okRec, l1In_eq, Option.bind_some]
  repeat' split
  all_goals
    simp only [Option.some.injEq]
    rw [Bool.eq_iff_iff]
    simp_all
    try omega
theorem IsJournalRecord_eq (a b c : Int) : impl_IsJournalRecord.f a b c = some (okRec ⟨a, b, c⟩) := by
  simp only [impl_IsJournalRecord.f, okRec]
  repeat' split
  all_goals
    simp only [Option.some.injEq]
    rw [Bool.eq_iff_iff]
    simp_all
    try omega
theorem spec_jrGood_l0 (x0 : List S72) : ∀ (q p : List S72), (p ++ q).length < 9223372036854775807 → Ev (fun k => spec_jrGood.l0 k x0 (p ++ q) ((p ++ q).length : Int) (p.length : Int)) (q.all okRec && decide (x0.length ≤ 40))
  | [], p, h => by
    refine ev_up ?_
    simp only [spec_jrGood.l0, mid_end, ↓reduceIte]
    exact ev_eq (Ev.now _) (by simp; omega)
  | x :: q, p, h => by
    have hp : p.length < 9223372036854775807 := by simp only [List.length_append, List.length_cons] at h; omega
    refine ev_up ?_
    simp only [spec_jrGood.l0, jrRecord_eq, Option.bind_some, rd_T72, mid_lt, mid_ge, getD_mid, wrap_mid p x hp, ↓reduceIte, List.all_cons]
    cases okRec x with
    | false => simpa using Ev.now _
    | true =>
      simp only [↓reduceIte, Bool.true_and]
      rw [step_mid p q x] at h ⊢
      exact spec_jrGood_l0 x0 q (p ++ [x]) h
theorem spec_jrGood_ev (l : List S72) (h : l.length < 9223372036854775807) : Ev (fun k => spec_jrGood.f k l) (goodRecs l) := by
  simpa [spec_jrGood.f, goodRecs] using spec_jrGood_l0 l l [] (by simpa using h)
theorem impl_areRecords_l0 : ∀ (q p : List S72), (p ++ q).length < 9223372036854775807 → Ev (fun k => impl_areRecords.l0 k (p ++ q) ((p ++ q).length : Int) (p.length : Int)) (q.all okRec)
  | [], p, h => by
    refine ev_up ?_
    simp only [impl_areRecords.l0, mid_end, ↓reduceIte]
    exact ev_eq (Ev.now _) (by simp)
  | x :: q, p, h => by
    have hp : p.length < 9223372036854775807 := by simp only [List.length_append, List.length_cons] at h; omega
    refine ev_up ?_
    simp only [impl_areRecords.l0, IsJournalRecord_eq, Option.bind_some, rd_T72, mid_lt, mid_ge, getD_mid, wrap_mid p x hp, ↓reduceIte, List.all_cons]
    cases okRec x with
    | false => simpa using Ev.now _
    | true =>
      simp only [↓reduceIte, Bool.true_and]
      rw [step_mid p q x] at h ⊢
      exact impl_areRecords_l0 q (p ++ [x]) h
theorem impl_areRecords_ev (l : List S72) (h : l.length < 9223372036854775807) : Ev (fun k => impl_areRecords.f k l) (goodRecs l) := by
  unfold goodRecs
  by_cases hl : l.length ≤ 40
  · have : ¬ ((l.length : Int) > 40) := by omega
    simp only [impl_areRecords.f, this, ↓reduceIte, hl, decide_true, Bool.and_true]
    simpa using impl_areRecords_l0 l [] (by simpa using h)
  · have : ((l.length : Int) > 40) := by omega
    simp only [impl_areRecords.f, this, ↓reduceIte, hl, decide_false, Bool.and_false]
    exact Ev.now _
theorem spec_jrList_ev (l : List Int) (h : l.length < 9223372036854775807) : Ev (fun k => spec_jrList.f k l) (goodNums l) := by
  unfold goodNums
  by_cases hl : l.length ≤ 200
  · have : ((l.length : Int) ≤ 200) := by omega
    simp only [spec_jrList.f, this, ↓reduceIte, hl, decide_true, Bool.and_true]
    exact ev_bind (spec_l1All_ev l 0 9999 h) (Ev.now _)
  · have : ¬ ((l.length : Int) ≤ 200) := by omega
    simp only [spec_jrList.f, this, ↓reduceIte, hl, decide_false, Bool.and_false]
    exact Ev.now _
theorem impl_areNumbers_l0 : ∀ (q p : List Int), (p ++ q).length < 9223372036854775807 → Ev (fun k => impl_areNumbers.l0 k (p ++ q) ((p ++ q).length : Int) (p.length : Int)) (q.all fun x => decide (0 ≤ x ∧ x ≤ 9999))
  | [], p, h => by
    refine ev_up ?_
    simp only [impl_areNumbers.l0, mid_end, ↓reduceIte]
    exact ev_eq (Ev.now _) (by simp)
  | x :: q, p, h => by
    have hp : p.length < 9223372036854775807 := by simp only [List.length_append, List.length_cons] at h; omega
    refine ev_up ?_
    simp only [impl_areNumbers.l0, mid_lt, mid_ge, rd_mid, wrap_mid p x hp, ↓reduceIte, List.all_cons]
    by_cases h0 : x < 0
    · simp only [h0, ↓reduceIte]
      exact ev_eq (Ev.now _) (by have : ¬ 0 ≤ x := by omega
                                 simp [this])
    · by_cases h1 : x > 9999
      · simp only [h0, h1, ↓reduceIte]
        exact ev_eq (Ev.now _) (by have : ¬ x ≤ 9999 := by omega
                                   simp [this])
      · simp only [h0, h1, ↓reduceIte]
        have e : decide (0 ≤ x ∧ x ≤ 9999) = true := by rw [decide_eq_true_iff]; omega
        rw [e, Bool.true_and]
        rw [step_mid p q x] at h ⊢
        exact impl_areNumbers_l0 q (p ++ [x]) h
theorem impl_areNumbers_ev (l : List Int) (h : l.length < 9223372036854775807) : Ev (fun k => impl_areNumbers.f k l) (goodNums l) := by
  unfold goodNums
  by_cases hl : l.length ≤ 200
  · have : ¬ ((l.length : Int) > 200) := by omega
    simp only [impl_areNumbers.f, this, ↓reduceIte, hl, decide_true, Bool.and_true]
    simpa using impl_areNumbers_l0 l [] (by simpa using h)
  · have : ((l.length : Int) > 200) := by omega
    simp only [impl_areNumbers.f, this, ↓reduceIte, hl, decide_false, Bool.and_false]
    exact Ev.now _
/-- The end of the committed part: e so far, i records are behind. -/
def endOf : Nat → Nat → List S72 → Nat
  | _, e, [] => e
  | i, e, x :: q => endOf (i + 1) (if x.f0 = 2 then i + 1 else e) q
theorem endOf_le : ∀ (q : List S72) (i e : Nat), e ≤ i → e ≤ endOf i e q ∧ endOf i e q ≤ i + q.length
  | [], i, e, h => by simp [endOf, h]
  | x :: q, i, e, h => by
    simp only [endOf, List.length_cons]
    have := endOf_le q (i + 1) (if x.f0 = 2 then i + 1 else e) (by split <;> omega)
    split at this <;> rename_i hx <;> simp only [hx, ↓reduceIte] <;> omega
theorem endOf_snoc : ∀ (q : List S72) (x : S72) (i e : Nat), endOf i e (q ++ [x]) = if x.f0 = 2 then i + q.length + 1 else endOf i e q
  | [], x, i, e => by simp [endOf]
  | y :: q, x, i, e => by
    simp only [List.cons_append, endOf, endOf_snoc q x, List.length_cons]
    split <;> first | rfl | omega
def committed (l : List S72) : List S72 := l.take (endOf 0 0 l)
theorem committed_len (l : List S72) : (committed l).length ≤ l.length := by unfold committed; simp [List.length_take]; omega
theorem committed_mem (l : List S72) : ∀ x ∈ committed l, x ∈ l := fun _ h => List.mem_of_mem_take h
theorem spec_jrCommitted_l0 (x0 : List S72) (hx0 : x0.length < 5864062014805) : ∀ (q p : List S72) (e : Nat), (p ++ q).length ≤ x0.length → e ≤ p.length → Ev (fun k => spec_jrCommitted.l0 k x0 (e : Int) (p ++ q) ((p ++ q).length : Int) (p.length : Int)) (x0.take (endOf p.length e q))
  | [], p, e, h, he => by
    refine ev_up ?_
    have h2 : (0 ≤ (e : Int)) = True := by apply eq_true; omega
    have h3 : ((e : Int) ≤ (x0.length : Int)) = True := by apply eq_true; simp at h; omega
    have h4 : (([] : List S72).length + (x0.take ((e : Int)).toNat).length < 5864062014805) = True := by apply eq_true; simp [List.length_take]; omega
    simp only [spec_jrCommitted.l0, mid_end, ↓reduceIte, Option.bind_some, h2, h3, h4]
    exact ev_eq (Ev.now _) (by simp [endOf])
  | x :: q, p, e, h, he => by
    have hp : p.length < 9223372036854775807 := by simp only [List.length_append, List.length_cons] at h; omega
    refine ev_up ?_
    simp only [spec_jrCommitted.l0, rd_T72, mid_lt, mid_ge, getD_mid, wrap_mid p x hp, ↓reduceIte, endOf]
    rw [step_mid p q x] at h ⊢
    have hlen : (p ++ [x]).length = p.length + 1 := by simp
    by_cases hx : x.f0 = 2
    · simp only [hx, ↓reduceIte]
      have := spec_jrCommitted_l0 x0 hx0 q (p ++ [x]) (p.length + 1) h (by simp)
      rw [hlen] at this ⊢
      exact this
    · simp only [hx, ↓reduceIte]
      have := spec_jrCommitted_l0 x0 hx0 q (p ++ [x]) e h (by simp; omega)
      rw [hlen] at this ⊢
      exact this
theorem spec_jrCommitted_ev (l : List S72) (h : l.length < 5864062014805) : Ev (fun k => spec_jrCommitted.f k l) (committed l) := by
  simpa [spec_jrCommitted.f, committed] using spec_jrCommitted_l0 l h l [] 0 (by simp) (by simp)
theorem impl_committedPart_l0 : ∀ (n : Nat) (p q : List S72), p.length = n → (p ++ q).length < 5864062014805 → Ev (fun k => impl_committedPart.l0 k (p ++ q) (p.length : Int)) ((p ++ q).take (endOf 0 0 p))
  | 0, p, q, hn, h => by
    obtain rfl : p = [] := List.eq_nil_of_length_eq_zero hn
    refine ev_up ?_
    simp [impl_committedPart.l0]
    exact Ev.now _
  | n + 1, p, q, hn, h => by
    obtain ⟨p', x, rfl⟩ : ∃ p' x, p = p' ++ [x] := by
      rcases List.eq_nil_or_concat p with rfl | ⟨p', x, rfl⟩
      · simp at hn
      · exact ⟨p', x, by simp⟩
    have hn' : p'.length = n := by simpa using hn
    have e1 : p' ++ [x] ++ q = p' ++ x :: q := by simp
    have h1 : (((p' ++ [x]).length : Int) > 0) = True := by apply eq_true; simp only [List.length_append, List.length_singleton]; omega
    have h2 : wrap64 (((p' ++ [x]).length : Int) - 1) = (p'.length : Int) := by
      simp only [List.length_append, List.length_singleton] at h ⊢; unfold wrap64; omega
    have h3 : (0 ≤ ((p' ++ [x]).length : Int)) = True := by apply eq_true; omega
    have h4 : (((p' ++ [x]).length : Int) ≤ ((p' ++ x :: q).length : Int)) = True := by apply eq_true; simp only [List.length_append, List.length_cons, List.length_nil]; omega
    have h5 : (([] : List S72).length + ((p' ++ x :: q).take (((p' ++ [x]).length : Int)).toNat).length < 5864062014805) = True := by apply eq_true; rw [e1] at h; simp only [List.length_nil, List.length_take]; omega
    refine ev_up ?_
    rw [e1] at h ⊢
    simp only [impl_committedPart.l0, h1, h2, h3, h4, h5, rd_T72, mid_lt, mid_ge, getD_mid, ↓reduceIte, Option.bind_some, endOf_snoc]
    by_cases hx : x.f0 = 2
    · simp only [hx, ↓reduceIte]
      exact ev_eq (Ev.now _) (by simp)
    · simp only [hx, ↓reduceIte]
      exact impl_committedPart_l0 n p' (x :: q) hn' h
theorem impl_committedPart_ev (l : List S72) (h : l.length < 5864062014805) : Ev (fun k => impl_committedPart.f k l) (committed l) := by
  simpa [impl_committedPart.f, committed] using impl_committedPart_l0 l.length l [] rfl (by simpa using h)
/-- The numbers of record n. -/
def recNums (r : S72) (n : Int) : List Int := [r.f0, r.f1, r.f2, n, Int.tmod (wrap64 ((wrap64 ((wrap64 ((wrap64 ((wrap64 (3 * r.f0)) + (wrap64 (5 * r.f1)))) + (wrap64 (7 * r.f2)))) + (wrap64 (11 * n)))) + 13)) 997]
theorem recNums_len (r : S72) (n : Int) : (recNums r n).length = 5 := rfl
/-- The journal of records, from record i on. -/
def numsFrom : Nat → List S72 → List Int
  | _, [] => []
  | i, x :: q => recNums x i ++ numsFrom (i + 1) q
theorem numsFrom_len : ∀ (q : List S72) (i : Nat), (numsFrom i q).length = 5 * q.length
  | [], _ => rfl
  | x :: q, i => by simp only [numsFrom, List.length_append, recNums_len, numsFrom_len q, List.length_cons]; omega
theorem jrOf_eq (a b c n : Int) : spec_jrOf.f a b c n = some (recNums ⟨a, b, c⟩ n) := rfl
theorem recordNumbers_eq (a b c n : Int) : impl_recordNumbers.f a b c n = some (recNums ⟨a, b, c⟩ n) := rfl
theorem spec_jrAll_l0 : ∀ (q p : List S72) (acc : List Int), (p ++ q).length < 9223372036854775807 → acc.length + 5 * q.length < 17592186044416 → Ev (fun k => spec_jrAll.l0 k acc (p ++ q) ((p ++ q).length : Int) (p.length : Int)) (acc ++ numsFrom p.length q)
  | [], p, acc, h, ha => by
    refine ev_up ?_
    simp only [spec_jrAll.l0, mid_end, ↓reduceIte]
    exact ev_eq (Ev.now _) (by simp [numsFrom])
  | x :: q, p, acc, h, ha => by
    have hp : p.length < 9223372036854775807 := by simp only [List.length_append, List.length_cons] at h; omega
    have hr : (acc.length + (recNums x (p.length : Int)).length < 17592186044416) = True := by apply eq_true; simp only [recNums_len]; simp only [List.length_cons] at ha; omega
    refine ev_up ?_
    simp only [spec_jrAll.l0, jrOf_eq, Option.bind_some, rd_T72, mid_lt, mid_ge, getD_mid, wrap_mid p x hp, hr, ↓reduceIte, numsFrom]
    rw [step_mid p q x] at h ⊢
    have := spec_jrAll_l0 q (p ++ [x]) (acc ++ recNums x (p.length : Int)) h (by simp only [List.length_append, recNums_len, List.length_cons] at ha ⊢; omega)
    rw [List.append_assoc] at this
    simpa using this
theorem spec_jrAll_ev (l : List S72) (h : l.length < 1000000000000) : Ev (fun k => spec_jrAll.f k l) (numsFrom 0 l) := by
  simpa [spec_jrAll.f] using spec_jrAll_l0 l [] [] (by simp; omega) (by simp; omega)
theorem impl_journalNumbers_l0 : ∀ (q p : List S72) (acc : List Int), (p ++ q).length < 9223372036854775807 → acc.length + 5 * q.length < 17592186044416 → Ev (fun k => impl_journalNumbers.l0 k acc (p ++ q) ((p ++ q).length : Int) (p.length : Int)) (acc ++ numsFrom p.length q)
  | [], p, acc, h, ha => by
    refine ev_up ?_
    simp only [impl_journalNumbers.l0, mid_end, ↓reduceIte]
    exact ev_eq (Ev.now _) (by simp [numsFrom])
  | x :: q, p, acc, h, ha => by
    have hp : p.length < 9223372036854775807 := by simp only [List.length_append, List.length_cons] at h; omega
    have hr : (acc.length + (recNums x (p.length : Int)).length < 17592186044416) = True := by apply eq_true; simp only [recNums_len]; simp only [List.length_cons] at ha; omega
    refine ev_up ?_
    simp only [impl_journalNumbers.l0, recordNumbers_eq, Option.bind_some, rd_T72, mid_lt, mid_ge, getD_mid, wrap_mid p x hp, hr, ↓reduceIte, numsFrom]
    rw [step_mid p q x] at h ⊢
    have := impl_journalNumbers_l0 q (p ++ [x]) (acc ++ recNums x (p.length : Int)) h (by simp only [List.length_append, recNums_len, List.length_cons] at ha ⊢; omega)
    rw [List.append_assoc] at this
    simpa using this
theorem impl_journalNumbers_ev (l : List S72) (h : l.length < 1000000000000) : Ev (fun k => impl_journalNumbers.f k l) (numsFrom 0 l) := by
  simpa [impl_journalNumbers.f] using impl_journalNumbers_l0 l [] [] (by simp; omega) (by simp; omega)
theorem spec_l1Same_l0 : ∀ (q q' p p' : List Int), p.length = p'.length → q.length = q'.length → (p ++ q).length < 9223372036854775807 → Ev (fun k => spec_l1Same.l0 k (p ++ q) (p' ++ q') ((p ++ q).length : Int) (p.length : Int)) (decide (q = q'))
  | [], q', p, p', hl, hq, h => by
    obtain rfl : q' = [] := List.eq_nil_of_length_eq_zero hq.symm
    refine ev_up ?_
    simp only [spec_l1Same.l0, mid_end, ↓reduceIte]
    exact ev_eq (Ev.now _) (by simp)
  | x :: q, [], p, p', hl, hq, h => by simp at hq
  | x :: q, y :: q', p, p', hl, hq, h => by
    have hp : p.length < 9223372036854775807 := by simp only [List.length_append, List.length_cons] at h; omega
    refine ev_up ?_
    simp only [spec_l1Same.l0, mid_lt, mid_ge, mid_lt2 p p' q' y hl, rd_mid, rd_mid2 p p' q' y hl, wrap_mid p x hp, ↓reduceIte]
    by_cases e : x = y
    · subst e
      simp only [↓reduceIte]
      rw [step_mid p q x, step_mid p' q' x]
      rw [step_mid p q x] at h
      exact ev_eq (spec_l1Same_l0 q q' (p ++ [x]) (p' ++ [x]) (by simp [hl]) (by simpa using hq) h) (by simp)
    · simp only [e, ↓reduceIte]
      exact ev_eq (Ev.now _) (by simp [e])
theorem spec_l1Same_ev (a b : List Int) (h : a.length < 9223372036854775807) : Ev (fun k => spec_l1Same.f k a b) (decide (a = b)) := by
  by_cases hl : a.length = b.length
  · have e : ((a.length : Int) = (b.length : Int)) = True := by apply eq_true; omega
    simp only [spec_l1Same.f, e, ↓reduceIte]
    simpa using spec_l1Same_l0 a b [] [] rfl hl (by simpa using h)
  · have e : ¬ ((a.length : Int) = (b.length : Int)) := by omega
    simp only [spec_l1Same.f, e, ↓reduceIte]
    exact ev_eq (Ev.now _) (by
      symm; rw [decide_eq_false_iff_not]
      intro he; exact hl (by rw [he]))
theorem slices_Equal_int_int_l0 : ∀ (q q' p p' : List Int), p.length = p'.length → q.length = q'.length → (p ++ q).length < 9223372036854775807 → Ev (fun k => slices_Equal_int_int.l0 k (p ++ q) (p' ++ q') ((p ++ q).length : Int) (p.length : Int)) (decide (q = q'))
  | [], q', p, p', hl, hq, h => by
    obtain rfl : q' = [] := List.eq_nil_of_length_eq_zero hq.symm
    refine ev_up ?_
    simp only [slices_Equal_int_int.l0, mid_end, ↓reduceIte]
    exact ev_eq (Ev.now _) (by simp)
  | x :: q, [], p, p', hl, hq, h => by simp at hq
  | x :: q, y :: q', p, p', hl, hq, h => by
    have hp : p.length < 9223372036854775807 := by simp only [List.length_append, List.length_cons] at h; omega
    refine ev_up ?_
    simp only [slices_Equal_int_int.l0, mid_lt, mid_ge, mid_lt2 p p' q' y hl, rd_mid, rd_mid2 p p' q' y hl, wrap_mid p x hp, ↓reduceIte]
    by_cases e : x = y
    · subst e
      simp only [↓reduceIte]
      rw [step_mid p q x, step_mid p' q' x]
      rw [step_mid p q x] at h
      exact ev_eq (slices_Equal_int_int_l0 q q' (p ++ [x]) (p' ++ [x]) (by simp [hl]) (by simpa using hq) h) (by simp)
    · simp only [e, ↓reduceIte]
      exact ev_eq (Ev.now _) (by simp [e])
theorem slices_Equal_int_int_ev (a b : List Int) (h : a.length < 9223372036854775807) : Ev (fun k => slices_Equal_int_int.f k a b) (decide (a = b)) := by
  by_cases hl : a.length = b.length
  · have e : ((a.length : Int) = (b.length : Int)) = True := by apply eq_true; omega
    simp only [slices_Equal_int_int.f, e, ↓reduceIte]
    simpa using slices_Equal_int_int_l0 a b [] [] rfl hl (by simpa using h)
  · have e : ¬ ((a.length : Int) = (b.length : Int)) := by omega
    simp only [slices_Equal_int_int.f, e, ↓reduceIte]
    exact ev_eq (Ev.now _) (by
      symm; rw [decide_eq_false_iff_not]
      intro he; exact hl (by rw [he]))
theorem rd_at (p q : List Int) (j : Nat) : rd (p ++ q) ((p.length : Int) + (j : Int)) = q.getD j 0 := by
  have : ((p.length : Int) + (j : Int)).toNat = p.length + j := by omega
  unfold rd
  rw [this, List.getD_eq_getElem?_getD, List.getD_eq_getElem?_getD, List.getElem?_append_right (by omega), Nat.add_sub_cancel_left]
theorem five {q : List Int} (h : ¬ q.length < 5) : ∃ a b c d e r, q = a :: b :: c :: d :: e :: r := by
  match q, h with
  | a :: b :: c :: d :: e :: r, _ => exact ⟨a, b, c, d, e, r, rfl⟩
  | [], h => simp at h
  | [_], h => simp at h
  | [_, _], h => simp at h
  | [_, _, _], h => simp at h
  | [_, _, _, _], h => simp at h
/-- The records that are recovered, n are before. -/
def recFrom : Nat → List Int → List S72
  | n, a :: b :: c :: d :: e :: r => if n < 40 ∧ okRec ⟨a, b, c⟩ = true ∧ recNums ⟨a, b, c⟩ n = [a, b, c, d, e] then ⟨a, b, c⟩ :: recFrom (n + 1) r else []
  | _, _ => []
theorem recFrom_short (n : Nat) {q : List Int} (h : q.length < 5) : recFrom n q = [] := by
  match q, h with
  | [], _ => rfl
  | [_], _ => rfl
  | [_, _], _ => rfl
  | [_, _, _], _ => rfl
  | [_, _, _, _], _ => rfl
  | _ :: _ :: _ :: _ :: _ :: _, h => simp at h; omega
theorem recFrom_ok : ∀ (m : Nat) (q : List Int) (n : Nat), q.length ≤ m → (∀ r ∈ recFrom n q, okRec r = true) ∧ n + (recFrom n q).length ≤ max n 40
  | m, q, n, hm => by
    by_cases hq : q.length < 5
    · rw [recFrom_short n hq]; simp; omega
    · obtain ⟨a, b, c, d, e, r, rfl⟩ := five hq
      match m, hm with
      | 0, hm => simp at hm
      | m + 1, hm =>
        simp only [recFrom]
        split
        · rename_i h
          obtain ⟨h1, h2⟩ := recFrom_ok m r (n + 1) (by simp at hm; omega)
          refine ⟨fun x hx => ?_, ?_⟩
          · rcases List.mem_cons.1 hx with rfl | hx
            · exact h.2.1
            · exact h1 x hx
          · simp only [List.length_cons]; omega
        · simp; omega
def recovered (q : List Int) : List S72 := recFrom 0 q
theorem recovered_ok (q : List Int) : ∀ r ∈ recovered q, okRec r = true := (recFrom_ok q.length q 0 (Nat.le_refl _)).1
theorem recovered_len (q : List Int) : (recovered q).length ≤ 40 := by have := (recFrom_ok q.length q 0 (Nat.le_refl _)).2; unfold recovered; omega
theorem slice_five (p : List Int) (a b c d e : Int) (r : List Int) : ((p ++ a :: b :: c :: d :: e :: r).take ((p.length : Int) + 5).toNat).drop ((p.length : Int)).toNat = [a, b, c, d, e] := by
  have h1 : ((p.length : Int) + 5).toNat = p.length + 5 := by omega
  have h2 : ((p.length : Int)).toNat = p.length := by omega
  rw [h1, h2, List.take_append, List.take_of_length_le (by omega : p.length ≤ p.length + 5), Nat.add_sub_cancel_left]
  simp
theorem spec_jrRecover_l0 : ∀ (m : Nat) (q p : List Int) (out : List S72), q.length ≤ m → p.length = 5 * out.length → (p ++ q).length < 1000000000000 → Ev (fun k => spec_jrRecover.l0 k (p ++ q) out (p.length : Int)) (out ++ recFrom out.length q)
  | m, q, p, out, hm, hp, h => by
    have hp5 : wrap64 ((p.length : Int) + 5) = (p.length : Int) + 5 := wrap_id (by omega) (by simp only [List.length_append] at h; omega)
    by_cases hq : q.length < 5
    · have h1 : ((p.length : Int) + 5 ≤ ((p ++ q).length : Int)) = False := by apply eq_false; simp only [List.length_append]; omega
      refine ev_up (ev_up ?_)
      simp only [spec_jrRecover.l0, spec_jrRecover.j1, hp5, h1, ↓reduceIte, Bool.false_eq_true]
      exact ev_eq (Ev.now _) (by rw [recFrom_short _ hq, List.append_nil])
    · obtain ⟨a, b, c, d, e, r, rfl⟩ := five hq
      have h1 : ((p.length : Int) + 5 ≤ ((p ++ a :: b :: c :: d :: e :: r).length : Int)) = True := by apply eq_true; simp only [List.length_append, List.length_cons]; omega
      have h2 : wrap64 ((p.length : Int) + 1) = (p.length : Int) + 1 := wrap_id (by omega) (by simp only [List.length_append] at h; omega)
      have h3 : wrap64 ((p.length : Int) + 2) = (p.length : Int) + 2 := wrap_id (by omega) (by simp only [List.length_append] at h; omega)
      have h4 : (0 ≤ (p.length : Int) + 1) = True := by apply eq_true; omega
      have h5 : (0 ≤ (p.length : Int) + 2) = True := by apply eq_true; omega
      have h6 : ((p.length : Int) + 1 < ((p ++ a :: b :: c :: d :: e :: r).length : Int)) = True := by apply eq_true; simp only [List.length_append, List.length_cons]; omega
      have h7 : ((p.length : Int) + 2 < ((p ++ a :: b :: c :: d :: e :: r).length : Int)) = True := by apply eq_true; simp only [List.length_append, List.length_cons]; omega
      have h8 : ((p.length : Int) ≤ (p.length : Int) + 5) = True := by apply eq_true; omega
      have r1 : rd (p ++ a :: b :: c :: d :: e :: r) ((p.length : Int) + 1) = b := rd_at p _ 1
      have r2 : rd (p ++ a :: b :: c :: d :: e :: r) ((p.length : Int) + 2) = c := rd_at p _ 2
      refine ev_up (ev_up ?_)
      simp only [spec_jrRecover.l0, spec_jrRecover.j1, hp5, h1, h2, h3, h4, h5, h6, h7, h8, r1, r2, rd_mid, mid_lt, mid_ge, jrRecord_eq, jrOf_eq, slice_five, Option.bind_some, ↓reduceIte, recFrom]
      by_cases hn : out.length < 40
      · have hn' : ((out.length : Int) < 40) = True := by apply eq_true; omega
        simp only [hn', decide_true, ↓reduceIte]
        by_cases hok : okRec ⟨a, b, c⟩ = true
        · simp only [hok, ↓reduceIte]
          refine ev_bind (spec_l1Same_ev _ _ (by simp [recNums_len])) ?_
          by_cases hr : recNums ⟨a, b, c⟩ (out.length : Int) = [a, b, c, d, e]
          · have ho : (out.length < 5864062014805) = True := by apply eq_true; omega
            simp only [hr, decide_true, ho, hn, and_self, ↓reduceIte]
            match m, hm with
            | 0, hm => simp at hm
            | m + 1, hm =>
              have := spec_jrRecover_l0 m r (p ++ [a, b, c, d, e]) (out ++ [⟨a, b, c⟩]) (by simp at hm; omega) (by simp; omega) (by simpa using h)
              simpa [List.append_assoc] using this
          · simp only [hr, decide_false, and_false, ↓reduceIte, Bool.false_eq_true, List.append_nil]
            exact Ev.now _
        · simp only [hok, ↓reduceIte, Bool.false_eq_true, false_and, and_false, List.append_nil]
          exact Ev.now _
      · have hn' : ((out.length : Int) < 40) = False := by apply eq_false; omega
        simp only [hn', hn, decide_false, ↓reduceIte, Bool.false_eq_true, false_and, List.append_nil]
        exact Ev.now _
theorem spec_jrRecover_ev (l : List Int) (h : l.length < 1000000000000) : Ev (fun k => spec_jrRecover.f k l) (recovered l) := by
  simpa [spec_jrRecover.f, recovered] using spec_jrRecover_l0 l.length l [] [] (Nat.le_refl _) rfl (by simpa using h)
theorem impl_recovered_l0 : ∀ (m : Nat) (q p : List Int) (out : List S72), q.length ≤ m → p.length = 5 * out.length → (p ++ q).length < 1000000000000 → Ev (fun k => impl_recovered.l0 k (p ++ q) out (out.length : Int)) (out ++ recFrom out.length q)
  | m, q, p, out, hm, hp, h => by
    have hw : wrap64 (5 * (out.length : Int)) = (p.length : Int) := by rw [wrap_id (by omega) (by simp only [List.length_append] at h; omega)]; omega
    have hp5 : wrap64 ((p.length : Int) + 5) = (p.length : Int) + 5 := wrap_id (by omega) (by simp only [List.length_append] at h; omega)
    by_cases hn : out.length < 40
    · have hn' : ((out.length : Int) < 40) = True := by apply eq_true; omega
      by_cases hq : q.length < 5
      · have h1 : ((p.length : Int) + 5 ≤ ((p ++ q).length : Int)) = False := by apply eq_false; simp only [List.length_append]; omega
        refine ev_up (ev_up ?_)
        simp only [impl_recovered.l0, impl_recovered.j1, hw, hp5, h1, hn', decide_false, ↓reduceIte, Bool.false_eq_true]
        exact ev_eq (Ev.now _) (by rw [recFrom_short _ hq, List.append_nil])
      · obtain ⟨a, b, c, d, e, r, rfl⟩ := five hq
        have h1 : ((p.length : Int) + 5 ≤ ((p ++ a :: b :: c :: d :: e :: r).length : Int)) = True := by apply eq_true; simp only [List.length_append, List.length_cons]; omega
        have h8 : ((p.length : Int) ≤ (p.length : Int) + 5) = True := by apply eq_true; omega
        have r0 : rd [a, b, c, d, e] 0 = a := rfl
        have r1 : rd [a, b, c, d, e] 1 = b := rfl
        have r2 : rd [a, b, c, d, e] 2 = c := rfl
        have g0 : ((0 : Int) < (([a, b, c, d, e] : List Int).length : Int)) = True := by simp
        have g1 : ((1 : Int) < (([a, b, c, d, e] : List Int).length : Int)) = True := by simp
        have g2 : ((2 : Int) < (([a, b, c, d, e] : List Int).length : Int)) = True := by simp
        refine ev_up (ev_up ?_)
        simp only [impl_recovered.l0, impl_recovered.j1, hw, hp5, h1, hn', h8, slice_five, r0, r1, r2, g0, g1, g2, mid_ge, IsJournalRecord_eq, recordNumbers_eq, Option.bind_some, decide_true, ↓reduceIte, recFrom]
        by_cases hok : okRec ⟨a, b, c⟩ = true
        · simp only [hok, ↓reduceIte]
          refine ev_bind (slices_Equal_int_int_ev _ _ (by simp [recNums_len])) ?_
          by_cases hr : recNums ⟨a, b, c⟩ (out.length : Int) = [a, b, c, d, e]
          · have ho : (out.length < 5864062014805) = True := by apply eq_true; omega
            have hw1 : wrap64 ((out.length : Int) + 1) = (out.length : Int) + 1 := wrap_id (by omega) (by omega)
            simp only [hr, hw1, decide_true, ho, hn, and_self, ↓reduceIte]
            match m, hm with
            | 0, hm => simp at hm
            | m + 1, hm =>
              have := impl_recovered_l0 m r (p ++ [a, b, c, d, e]) (out ++ [⟨a, b, c⟩]) (by simp at hm; omega) (by simp; omega) (by simpa using h)
              simpa [List.append_assoc] using this
          · simp only [hr, decide_false, and_false, ↓reduceIte, Bool.false_eq_true, List.append_nil]
            exact Ev.now _
        · simp only [hok, ↓reduceIte, Bool.false_eq_true, false_and, and_false, List.append_nil]
          exact Ev.now _
    · have hn' : ((out.length : Int) < 40) = False := by apply eq_false; omega
      refine ev_up (ev_up ?_)
      simp only [impl_recovered.l0, impl_recovered.j1, hn', ↓reduceIte, Bool.false_eq_true]
      refine ev_eq (Ev.now _) ?_
      by_cases hq : q.length < 5
      · rw [recFrom_short _ hq, List.append_nil]
      · obtain ⟨a, b, c, d, e, r, rfl⟩ := five hq
        simp only [recFrom, hn, false_and, ↓reduceIte, List.append_nil]
theorem impl_recovered_ev (l : List Int) (h : l.length < 1000000000000) : Ev (fun k => impl_recovered.f k l) (recovered l) := by
  simpa [impl_recovered.f, recovered] using impl_recovered_l0 l.length l [] [] (Nat.le_refl _) rfl (by simpa using h)
def rCommittedPart (l : List S72) : List S72 × Bool := if goodRecs l = true then (committed l, true) else ([], false)
theorem spec_CommittedPart_ev (l : List S72) (h : l.length ≤ 1048576) : Ev (fun k => spec_CommittedPart.f k l) (rCommittedPart l) := by
  unfold rCommittedPart
  simp only [spec_CommittedPart.f]
  refine ev_bind (spec_jrGood_ev l (by omega)) ?_
  split
  · exact ev_bind (spec_jrCommitted_ev l (by omega)) (Ev.now _)
  · exact Ev.now _
theorem impl_CommittedPart_ev (l : List S72) (h : l.length ≤ 1048576) : Ev (fun k => impl_CommittedPart.f k l) (rCommittedPart l) := by
  unfold rCommittedPart
  simp only [impl_CommittedPart.f]
  refine ev_bind (impl_areRecords_ev l (by omega)) ?_
  split
  · exact ev_bind (impl_committedPart_ev l (by omega)) (Ev.now _)
  · exact Ev.now _
def rJournalNumbers (l : List S72) : List Int × Bool := if goodRecs l = true then (numsFrom 0 l, true) else ([], false)
theorem rJournalNumbers_len (l : List S72) (h : l.length ≤ 1048576) : (rJournalNumbers l).1.length ≤ 10000000 := by
  unfold rJournalNumbers; split <;> simp [numsFrom_len]; omega
theorem spec_JournalNumbers_ev (l : List S72) (h : l.length ≤ 1048576) : Ev (fun k => spec_JournalNumbers.f k l) (rJournalNumbers l) := by
  unfold rJournalNumbers
  simp only [spec_JournalNumbers.f]
  refine ev_bind (spec_jrGood_ev l (by omega)) ?_
  split
  · exact ev_bind (spec_jrAll_ev l (by omega)) (Ev.now _)
  · exact Ev.now _
theorem impl_JournalNumbers_ev (l : List S72) (h : l.length ≤ 1048576) : Ev (fun k => impl_JournalNumbers.f k l) (rJournalNumbers l) := by
  unfold rJournalNumbers
  simp only [impl_JournalNumbers.f]
  refine ev_bind (impl_areRecords_ev l (by omega)) ?_
  split
  · exact ev_bind (impl_journalNumbers_ev l (by omega)) (Ev.now _)
  · exact Ev.now _
theorem rCommittedPart_len (l : List S72) (h : l.length ≤ 1048576) : (rCommittedPart l).1.length ≤ 10000000 := by
  unfold rCommittedPart; have := committed_len l; split <;> simp <;> omega
theorem mn_le (a b : Int) : mn a b ≤ a ∧ mn a b ≤ b := by unfold mn; split <;> omega
theorem mn_ge {a b c : Int} (h0 : c ≤ a) (h1 : c ≤ b) : c ≤ mn a b := by unfold mn; split <;> omega
def setAll (v : List Int) : List S72 → List Int
  | [] => v
  | x :: q => setAll (if x.f0 = 1 then v.set x.f1.toNat x.f2 else v) q
theorem setAll_len : ∀ (q : List S72) (v : List Int), (setAll v q).length = v.length
  | [], v => rfl
  | x :: q, v => by rw [setAll, setAll_len q]; split <;> simp
def values (l : List S72) : List Int := setAll (List.replicate 8 (-1)) (committed l)
theorem values_len (l : List S72) : (values l).length = 8 := by simp [values, setAll_len]
theorem okRec_key {r : S72} (h : okRec r = true) (h1 : r.f0 = 1) : 0 ≤ r.f1 ∧ r.f1 ≤ 7 := by
  unfold okRec at h; simp only [decide_eq_true_eq] at h; omega
theorem good_ok {l : List S72} (h : goodRecs l = true) : ∀ r ∈ l, okRec r = true := by
  unfold goodRecs at h; simp only [Bool.and_eq_true, List.all_eq_true] at h; exact h.1
theorem good_len {l : List S72} (h : goodRecs l = true) : l.length ≤ 40 := by
  unfold goodRecs at h; simp only [Bool.and_eq_true, decide_eq_true_eq] at h; exact h.2
theorem spec_jrValues_l1 : ∀ (q p : List S72) (v : List Int), (p ++ q).length < 9223372036854775807 → v.length = 8 → (∀ r ∈ q, okRec r = true) → Ev (fun k => spec_jrValues.l1 k v (p ++ q) ((p ++ q).length : Int) (p.length : Int)) (setAll v q)
  | [], p, v, h, hv, ho => by
    refine ev_up ?_
    simp only [spec_jrValues.l1, mid_end, ↓reduceIte, setAll]
    exact Ev.now _
  | x :: q, p, v, h, hv, ho => by
    have hp : p.length < 9223372036854775807 := by simp only [List.length_append, List.length_cons] at h; omega
    have hq : ∀ r ∈ q, okRec r = true := fun r hr => ho r (List.mem_cons_of_mem _ hr)
    refine ev_up ?_
    simp only [spec_jrValues.l1, rd_T72, mid_lt, mid_ge, getD_mid, wrap_mid p x hp, ↓reduceIte, setAll]
    rw [step_mid p q x] at h ⊢
    by_cases hx : x.f0 = 1
    · obtain ⟨k0, k7⟩ := okRec_key (ho x List.mem_cons_self) hx
      have hk : (x.f1 < (v.length : Int)) = True := by apply eq_true; omega
      simp only [hx, k0, hk, ↓reduceIte]
      exact spec_jrValues_l1 q (p ++ [x]) _ h (by simp [hv]) hq
    · simp only [hx, ↓reduceIte]
      exact spec_jrValues_l1 q (p ++ [x]) _ h hv hq
theorem spec_jrValues_l0 (l : List S72) (h : l.length < 5864062014805) (ho : ∀ r ∈ l, okRec r = true) : ∀ (m n : Nat), n + m = 8 → Ev (fun k => spec_jrValues.l0 k l (List.replicate n (-1))) (values l)
  | 0, n, hn => by
    obtain rfl : n = 8 := by omega
    refine ev_up ?_
    have h8 : (((List.replicate 8 (-1 : Int)).length : Int) < 8) = False := by simp
    simp only [spec_jrValues.l0, h8, ↓reduceIte]
    refine ev_bind (spec_jrCommitted_ev l h) ?_
    simpa [values] using spec_jrValues_l1 (committed l) [] (List.replicate 8 (-1)) (by have := committed_len l; simp; omega) (by simp) (fun r hr => ho r (committed_mem l r hr))
  | m + 1, n, hn => by
    refine ev_up ?_
    have h8 : (((List.replicate n (-1 : Int)).length : Int) < 8) = True := by apply eq_true; simp; omega
    have h9 : ((List.replicate n (-1 : Int)).length < 17592186044416) = True := by apply eq_true; simp; omega
    simp only [spec_jrValues.l0, h8, h9, ↓reduceIte, ← List.replicate_succ']
    exact spec_jrValues_l0 l h ho m (n + 1) (by omega)
theorem spec_jrValues_ev (l : List S72) (h : l.length < 5864062014805) (ho : ∀ r ∈ l, okRec r = true) : Ev (fun k => spec_jrValues.f k l) (values l) := by
  simpa [spec_jrValues.f] using spec_jrValues_l0 l h ho 8 0 rfl
theorem impl_committedValues_l1 : ∀ (q p : List S72) (v : List Int), (p ++ q).length < 9223372036854775807 → v.length = 8 → (∀ r ∈ q, okRec r = true) → Ev (fun k => impl_committedValues.l1 k v (p ++ q) ((p ++ q).length : Int) (p.length : Int)) (setAll v q)
  | [], p, v, h, hv, ho => by
    refine ev_up ?_
    simp only [impl_committedValues.l1, mid_end, ↓reduceIte, setAll]
    exact Ev.now _
  | x :: q, p, v, h, hv, ho => by
    have hp : p.length < 9223372036854775807 := by simp only [List.length_append, List.length_cons] at h; omega
    have hq : ∀ r ∈ q, okRec r = true := fun r hr => ho r (List.mem_cons_of_mem _ hr)
    refine ev_up ?_
    simp only [impl_committedValues.l1, rd_T72, mid_lt, mid_ge, getD_mid, wrap_mid p x hp, ↓reduceIte, setAll]
    rw [step_mid p q x] at h ⊢
    by_cases hx : x.f0 = 1
    · obtain ⟨k0, k7⟩ := okRec_key (ho x List.mem_cons_self) hx
      have hk : (x.f1 < (v.length : Int)) = True := by apply eq_true; omega
      simp only [hx, k0, hk, ↓reduceIte]
      exact impl_committedValues_l1 q (p ++ [x]) _ h (by simp [hv]) hq
    · simp only [hx, ↓reduceIte]
      exact impl_committedValues_l1 q (p ++ [x]) _ h hv hq
theorem impl_committedValues_l0 (l : List S72) (h : l.length < 5864062014805) (ho : ∀ r ∈ l, okRec r = true) : ∀ (q p : List Int), p.length + q.length = 8 → Ev (fun k => impl_committedValues.l0 k l (p ++ q) (8 : Int) (p.length : Int)) (setAll (p ++ List.replicate q.length (-1)) (committed l))
  | [], p, hn => by
    have hp : p.length = 8 := by simpa using hn
    refine ev_up ?_
    have h8 : ((p.length : Int) < 8) = False := by apply eq_false; omega
    simp only [impl_committedValues.l0, h8, ↓reduceIte]
    refine ev_bind (impl_committedPart_ev l h) ?_
    simpa using impl_committedValues_l1 (committed l) [] p (by have := committed_len l; simp; omega) hp (fun r hr => ho r (committed_mem l r hr))
  | x :: q, p, hn => by
    simp only [List.length_cons] at hn
    refine ev_up ?_
    have h8 : ((p.length : Int) < 8) = True := by apply eq_true; omega
    simp only [impl_committedValues.l0, h8, mid_lt, mid_ge, set_mid, wrap_mid p (-1 : Int) (by omega), ↓reduceIte, List.length_cons, List.replicate_succ]
    rw [step_mid p q, step_mid p (List.replicate q.length (-1))]
    exact impl_committedValues_l0 l h ho q (p ++ [-1]) (by simp; omega)
theorem impl_committedValues_ev (l : List S72) (h : l.length < 5864062014805) (ho : ∀ r ∈ l, okRec r = true) : Ev (fun k => impl_committedValues.f k l) (values l) := by
  simpa [impl_committedValues.f, values] using impl_committedValues_l0 l h ho (List.replicate 8 0) [] (by simp)
def rCommittedValues (l : List S72) : List Int × Bool := if goodRecs l = true then (values l, true) else ([], false)
theorem rCommittedValues_len (l : List S72) (h : l.length ≤ 1048576) : (rCommittedValues l).1.length ≤ 10000000 := by
  unfold rCommittedValues; split <;> simp [values_len]
theorem spec_CommittedValues_ev (l : List S72) (h : l.length ≤ 1048576) : Ev (fun k => spec_CommittedValues.f k l) (rCommittedValues l) := by
  unfold rCommittedValues
  simp only [spec_CommittedValues.f]
  refine ev_bind (spec_jrGood_ev l (by omega)) ?_
  split
  · rename_i hg; exact ev_bind (spec_jrValues_ev l (by omega) (good_ok hg)) (Ev.now _)
  · exact Ev.now _
theorem impl_CommittedValues_ev (l : List S72) (h : l.length ≤ 1048576) : Ev (fun k => impl_CommittedValues.f k l) (rCommittedValues l) := by
  unfold rCommittedValues
  simp only [impl_CommittedValues.f]
  refine ev_bind (impl_areRecords_ev l (by omega)) ?_
  split
  · rename_i hg; exact ev_bind (impl_committedValues_ev l (by omega) (good_ok hg)) (Ev.now _)
  · exact Ev.now _
def compactFrom : Nat → List Int → List S72
  | _, [] => []
  | i, v :: q => if v ≥ 0 then ⟨1, i, v⟩ :: compactFrom (i + 1) q else compactFrom (i + 1) q
theorem compactFrom_len : ∀ (q : List Int) (i : Nat), (compactFrom i q).length ≤ q.length
  | [], _ => by simp [compactFrom]
  | v :: q, i => by simp only [compactFrom]; have := compactFrom_len q (i + 1); split <;> simp <;> omega
def closeJ (out : List S72) : List S72 × Bool := if out.length > 0 then (out ++ [⟨2, 0, 0⟩], true) else (out, true)
def rCompactJournal (l : List S72) : List S72 × Bool := if goodRecs l = true then closeJ (compactFrom 0 (values l)) else ([], false)
theorem rCompactJournal_len (l : List S72) (h : l.length ≤ 1048576) : (rCompactJournal l).1.length ≤ 10000000 := by
  unfold rCompactJournal closeJ; have := compactFrom_len (values l) 0; rw [values_len] at this; split
  · split <;> simp <;> omega
  · simp
theorem spec_CompactJournal_l0 : ∀ (q p : List Int) (acc : List S72), (p ++ q).length ≤ 8 → acc.length ≤ p.length → Ev (fun k => spec_CompactJournal.l0 k acc (p ++ q) ((p ++ q).length : Int) (p.length : Int)) (closeJ (acc ++ compactFrom p.length q))
  | [], p, acc, h, ha => by
    refine ev_up ?_
    simp only [spec_CompactJournal.l0, mid_end, ↓reduceIte, compactFrom]
    rw [List.append_nil acc]
    unfold closeJ
    simp only [List.append_nil] at h
    have h1 : (acc.length < 5864062014805) = True := by apply eq_true; omega
    by_cases h0 : acc.length > 0
    · have h2 : ((acc.length : Int) > 0) = True := by apply eq_true; omega
      simp only [h0, h1, h2, ↓reduceIte]
      exact Ev.now _
    · have h2 : ((acc.length : Int) > 0) = False := by apply eq_false; omega
      simp only [h0, h2, ↓reduceIte]
      exact Ev.now _
  | x :: q, p, acc, h, ha => by
    have hl : (p ++ x :: q).length = p.length + 1 + q.length := by simp; omega
    have h1 : (acc.length < 5864062014805) = True := by apply eq_true; omega
    refine ev_up ?_
    simp only [spec_CompactJournal.l0, h1, rd_mid, mid_lt, mid_ge, wrap_mid p x (by omega), ↓reduceIte, compactFrom]
    rw [step_mid p q x] at h ⊢
    have e : (p ++ [x]).length = p.length + 1 := by simp
    by_cases hx : x ≥ 0
    · simp only [hx, ↓reduceIte]
      have := spec_CompactJournal_l0 q (p ++ [x]) (acc ++ [⟨1, p.length, x⟩]) h (by simp; omega)
      rw [e, ← step_mid acc (compactFrom (p.length + 1) q)] at this
      rw [e]
      exact this
    · simp only [hx, ↓reduceIte]
      have := spec_CompactJournal_l0 q (p ++ [x]) acc h (by simp; omega)
      rw [e] at this
      rw [e]
      exact this
theorem spec_CompactJournal_ev (l : List S72) (h : l.length ≤ 1048576) : Ev (fun k => spec_CompactJournal.f k l) (rCompactJournal l) := by
  unfold rCompactJournal
  simp only [spec_CompactJournal.f]
  refine ev_bind (spec_jrGood_ev l (by omega)) ?_
  split
  · rename_i hg
    refine ev_bind (spec_jrValues_ev l (by omega) (good_ok hg)) ?_
    simpa using spec_CompactJournal_l0 (values l) [] [] (by simp [values_len]) (by simp)
  · exact Ev.now _
theorem impl_CompactJournal_l0 : ∀ (q p : List Int) (acc : List S72), (p ++ q).length ≤ 8 → acc.length ≤ p.length → Ev (fun k => impl_CompactJournal.l0 k acc (p ++ q) ((p ++ q).length : Int) (p.length : Int)) (closeJ (acc ++ compactFrom p.length q))
  | [], p, acc, h, ha => by
    refine ev_up ?_
    simp only [impl_CompactJournal.l0, mid_end, ↓reduceIte, compactFrom]
    rw [List.append_nil acc]
    unfold closeJ
    simp only [List.append_nil] at h
    have h1 : (acc.length < 5864062014805) = True := by apply eq_true; omega
    by_cases h0 : acc.length > 0
    · have h2 : ((acc.length : Int) > 0) = True := by apply eq_true; omega
      simp only [h0, h1, h2, ↓reduceIte]
      exact Ev.now _
    · have h2 : ((acc.length : Int) > 0) = False := by apply eq_false; omega
      simp only [h0, h2, ↓reduceIte]
      exact Ev.now _
  | x :: q, p, acc, h, ha => by
    have hl : (p ++ x :: q).length = p.length + 1 + q.length := by simp; omega
    have h1 : (acc.length < 5864062014805) = True := by apply eq_true; omega
    refine ev_up ?_
    simp only [impl_CompactJournal.l0, h1, rd_mid, mid_lt, mid_ge, wrap_mid p x (by omega), ↓reduceIte, compactFrom]
    rw [step_mid p q x] at h ⊢
    have e : (p ++ [x]).length = p.length + 1 := by simp
    by_cases hx : x ≥ 0
    · simp only [hx, ↓reduceIte]
      have := impl_CompactJournal_l0 q (p ++ [x]) (acc ++ [⟨1, p.length, x⟩]) h (by simp; omega)
      rw [e, ← step_mid acc (compactFrom (p.length + 1) q)] at this
      rw [e]
      exact this
    · simp only [hx, ↓reduceIte]
      have := impl_CompactJournal_l0 q (p ++ [x]) acc h (by simp; omega)
      rw [e] at this
      rw [e]
      exact this
theorem impl_CompactJournal_ev (l : List S72) (h : l.length ≤ 1048576) : Ev (fun k => impl_CompactJournal.f k l) (rCompactJournal l) := by
  unfold rCompactJournal
  simp only [impl_CompactJournal.f]
  refine ev_bind (impl_areRecords_ev l (by omega)) ?_
  split
  · rename_i hg
    refine ev_bind (impl_committedValues_ev l (by omega) (good_ok hg)) ?_
    simpa using impl_CompactJournal_l0 (values l) [] [] (by simp [values_len]) (by simp)
  · exact Ev.now _
def rRecoverRecords (l : List Int) : List S72 × Int × Bool := if goodNums l = true then (recovered l, wrap64 (5 * ((recovered l).length : Int)), true) else ([], 0, false)
theorem rRecoverRecords_len (l : List Int) (h : l.length ≤ 1048576) : (rRecoverRecords l).1.length ≤ 10000000 := by
  unfold rRecoverRecords; have := recovered_len l; split <;> simp; omega
theorem spec_RecoverRecords_ev (l : List Int) (h : l.length ≤ 1048576) : Ev (fun k => spec_RecoverRecords.f k l) (rRecoverRecords l) := by
  unfold rRecoverRecords
  simp only [spec_RecoverRecords.f]
  refine ev_bind (spec_jrList_ev l (by omega)) ?_
  split
  · exact ev_bind (spec_jrRecover_ev l (by omega)) (Ev.now _)
  · exact Ev.now _
theorem impl_RecoverRecords_ev (l : List Int) (h : l.length ≤ 1048576) : Ev (fun k => impl_RecoverRecords.f k l) (rRecoverRecords l) := by
  unfold rRecoverRecords
  simp only [impl_RecoverRecords.f]
  refine ev_bind (impl_areNumbers_ev l (by omega)) ?_
  split
  · exact ev_bind (impl_recovered_ev l (by omega)) (Ev.now _)
  · exact Ev.now _
def cntNe : List Int → List Int → Nat
  | x :: a, y :: b => (if x = y then 0 else 1) + cntNe a b
  | _, _ => 0
theorem cntNe_le : ∀ a b : List Int, cntNe a b ≤ a.length
  | [], b => by simp [cntNe]
  | x :: a, [] => by simp [cntNe]
  | x :: a, y :: b => by simp only [cntNe, List.length_cons]; have := cntNe_le a b; split <;> omega
def rLostAfterCut (l : List S72) (n : Int) : Int × Bool :=
  if goodRecs l = true ∧ 0 ≤ n ∧ n ≤ 200 then ((cntNe (values (recovered ((numsFrom 0 l).take (mn n (numsFrom 0 l).length).toNat))) (values l) : Int), true) else (0, false)
theorem impl_LostAfterCut_l0 : ∀ (q q' p p' : List Int) (c : Int), p.length = p'.length → q.length = q'.length → (p ++ q).length ≤ 8 → 0 ≤ c → c ≤ p.length → Ev (fun k => impl_LostAfterCut.l0 k (p' ++ q') c (p ++ q) ((p ++ q).length : Int) (p.length : Int)) (c + (cntNe q q' : Int), true)
  | [], q', p, p', c, hl, hq, h, h0, h1 => by
    obtain rfl : q' = [] := List.eq_nil_of_length_eq_zero hq.symm
    refine ev_up ?_
    simp only [impl_LostAfterCut.l0, mid_end, ↓reduceIte, cntNe]
    exact ev_eq (Ev.now _) (by simp)
  | x :: q, [], p, p', c, hl, hq, h, h0, h1 => by simp at hq
  | x :: q, y :: q', p, p', c, hl, hq, h, h0, h1 => by
    have hp : p.length < 8 := by simp only [List.length_append, List.length_cons] at h; omega
    refine ev_up ?_
    simp only [impl_LostAfterCut.l0, mid_lt, mid_ge, mid_lt2 p p' q' y hl, rd_mid, rd_mid2 p p' q' y hl, wrap_mid p x (by omega), ↓reduceIte, cntNe]
    rw [step_mid p q x, step_mid p' q' y]
    rw [step_mid p q x] at h
    by_cases e : x = y
    · subst e
      simp only [↓reduceIte]
      exact ev_eq (impl_LostAfterCut_l0 q q' _ _ c (by simp [hl]) (by simpa using hq) h h0 (by simp; omega)) (by simp)
    · have hw : wrap64 (c + 1) = c + 1 := wrap_id (by omega) (by omega)
      simp only [e, hw, ↓reduceIte]
      exact ev_eq (impl_LostAfterCut_l0 q q' (p ++ [x]) (p' ++ [y]) (c + 1) (by simp [hl]) (by simpa using hq) h (by omega) (by simp; omega)) (by simp; omega)
theorem impl_LostAfterCut_ev (l : List S72) (n : Int) (h : l.length ≤ 1048576) : Ev (fun k => impl_LostAfterCut.f k l n) (rLostAfterCut l n) := by
  unfold rLostAfterCut
  simp only [impl_LostAfterCut.f]
  refine ev_bind (impl_areRecords_ev l (by omega)) ?_
  cases hg : goodRecs l
  · simp only [Bool.false_eq_true, false_and, ↓reduceIte]
    refine ev_up ?_
    simp only [impl_LostAfterCut.j0, ↓reduceIte]
    exact Ev.now _
  · by_cases hn : 0 ≤ n ∧ n ≤ 200
    · have m0 : (0 ≤ mn n ((numsFrom 0 l).length : Int)) = True := by apply eq_true; exact mn_ge hn.1 (by omega)
      have m1 : (mn n ((numsFrom 0 l).length : Int) ≤ ((numsFrom 0 l).length : Int)) = True := by apply eq_true; exact (mn_le _ _).2
      have g0 : (n < 0) = False := by apply eq_false; omega
      have g1 : decide (n > 200) = false := by rw [decide_eq_false_iff_not]; omega
      simp only [hn, g0, g1, and_self, ↓reduceIte]
      refine ev_up ?_
      simp only [impl_LostAfterCut.j0, Bool.false_eq_true, ↓reduceIte]
      refine ev_bind (impl_journalNumbers_ev l (by omega)) ?_
      refine ev_bind (impl_committedValues_ev l (by omega) (good_ok hg)) ?_
      simp only [m0, m1, ↓reduceIte]
      refine ev_bind (impl_recovered_ev _ (by simp only [List.length_take, numsFrom_len]; omega)) ?_
      refine ev_bind (impl_committedValues_ev _ (by have := recovered_len ((numsFrom 0 l).take (mn n (numsFrom 0 l).length).toNat); omega) (recovered_ok _)) ?_
      have := impl_LostAfterCut_l0 (values (recovered ((numsFrom 0 l).take (mn n (numsFrom 0 l).length).toNat))) (values l) [] [] 0 rfl (by simp [values_len]) (by simp [values_len]) (by omega) (by simp)
      simpa using this
    · simp only [hn, and_false, ↓reduceIte]
      have fin : Ev (fun k => impl_LostAfterCut.j0 k l n true) ((0 : Int), false) := by
        refine ev_up ?_
        simp only [impl_LostAfterCut.j0, ↓reduceIte]
        exact Ev.now _
      by_cases h0 : n < 0
      · simp only [h0, ↓reduceIte]
        exact fin
      · have h1 : decide (n > 200) = true := by rw [decide_eq_true_iff]; omega
        simp only [h0, h1, ↓reduceIte]
        exact fin
def finishA (y : List S72) : List Int × Bool := if y.length ≤ 40 then (numsFrom 0 y, true) else ([], false)
def appendV (acc q : List S72) : List Int × Bool := if (q.all fun r => decide (r.f0 = 1)) = true then finishA (acc ++ q ++ [⟨2, 0, 0⟩]) else ([], false)
def rAppendCommit (l : List Int) (r : List S72) : List Int × Bool := if goodNums l = true ∧ goodRecs r = true then appendV (committed (recovered l)) r else ([], false)
theorem rAppendCommit_len (l : List Int) (r : List S72) : (rAppendCommit l r).1.length ≤ 10000000 := by
  unfold rAppendCommit appendV finishA
  repeat' split
  all_goals simp_all [numsFrom_len]
  all_goals omega
theorem okCommit : okRec ⟨2, 0, 0⟩ = true := by decide
theorem spec_AppendCommit_l0 : ∀ (q p : List S72) (acc : List S72), (p ++ q).length ≤ 1048576 → acc.length ≤ 1048576 + p.length → (∀ r ∈ acc, okRec r = true) → (∀ r ∈ q, okRec r = true) → Ev (fun k => spec_AppendCommit.l0 k acc (p ++ q) ((p ++ q).length : Int) (p.length : Int)) (appendV acc q)
  | [], p, acc, h, ha, ho, hq => by
    simp only [List.append_nil] at h
    have h1 : (acc.length < 5864062014805) = True := by apply eq_true; omega
    refine ev_up ?_
    simp only [spec_AppendCommit.l0, mid_end, h1, Option.bind_some, ↓reduceIte, appendV, List.all_nil]
    rw [List.append_nil acc]
    unfold finishA
    have hg : goodRecs (acc ++ [⟨2, 0, 0⟩]) = decide ((acc ++ [(⟨2, 0, 0⟩ : S72)]).length ≤ 40) := by
      unfold goodRecs
      have : (acc ++ [(⟨2, 0, 0⟩ : S72)]).all okRec = true := by
        simp only [List.all_append, Bool.and_eq_true, List.all_eq_true]
        exact ⟨ho, by simp [okCommit]⟩
      rw [this, Bool.true_and]
    refine ev_bind (spec_jrGood_ev _ (by simp; omega)) ?_
    rw [hg]
    by_cases h4 : (acc ++ [(⟨2, 0, 0⟩ : S72)]).length ≤ 40
    · simp only [h4, decide_true, ↓reduceIte]
      exact ev_bind (spec_jrAll_ev _ (by omega)) (Ev.now _)
    · simp only [h4, decide_false, Bool.false_eq_true, ↓reduceIte]
      exact Ev.now _
  | x :: q, p, acc, h, ha, ho, hq => by
    have hl : (p ++ x :: q).length = p.length + 1 + q.length := by simp; omega
    have h1 : (acc.length < 5864062014805) = True := by apply eq_true; omega
    refine ev_up ?_
    simp only [spec_AppendCommit.l0, rd_T72, h1, getD_mid, mid_lt, mid_ge, wrap_mid p x (by omega), ↓reduceIte]
    rw [step_mid p q x] at h ⊢
    by_cases hx : x.f0 = 1
    · simp only [hx, ↓reduceIte]
      have e : (⟨1, x.f1, x.f2⟩ : S72) = x := by cases x; simp at hx; simp [hx]
      rw [e]
      have := spec_AppendCommit_l0 q (p ++ [x]) (acc ++ [x]) h (by simp; omega) (fun r hr => by
        rcases List.mem_append.1 hr with hr | hr
        · exact ho r hr
        · rw [List.mem_singleton.1 hr]; exact hq x List.mem_cons_self) (fun r hr => hq r (List.mem_cons_of_mem _ hr))
      refine ev_eq this ?_
      unfold appendV
      rw [← step_mid acc q x]
      simp [hx]
    · simp only [hx, ↓reduceIte]
      exact ev_eq (Ev.now _) (by simp [appendV, hx])
theorem spec_AppendCommit_ev (l : List Int) (r : List S72) (h : l.length ≤ 1048576) (hr : r.length ≤ 1048576) : Ev (fun k => spec_AppendCommit.f k l r) (rAppendCommit l r) := by
  unfold rAppendCommit
  simp only [spec_AppendCommit.f]
  refine ev_bind (spec_jrList_ev l (by omega)) ?_
  have fin : Ev (fun k => spec_AppendCommit.j0 k l r true) (([] : List Int), false) := by
    refine ev_up ?_
    simp only [spec_AppendCommit.j0, ↓reduceIte]
    exact Ev.now _
  cases goodNums l
  · simpa using fin
  · simp only [↓reduceIte]
    refine ev_bind (spec_jrGood_ev r (by omega)) ?_
    cases hg : goodRecs r
    · simpa using fin
    · simp only [Bool.not_true, and_self, ↓reduceIte]
      refine ev_up ?_
      simp only [spec_AppendCommit.j0, Bool.false_eq_true, ↓reduceIte]
      refine ev_bind (spec_jrRecover_ev l (by omega)) ?_
      have hl := recovered_len l
      have hc := committed_len (recovered l)
      refine ev_bind (spec_jrCommitted_ev _ (by omega)) ?_
      simpa using spec_AppendCommit_l0 r [] (committed (recovered l)) (by simpa using hr) (by simp; omega) (fun x hx => recovered_ok l x (committed_mem _ x hx)) (good_ok hg)
theorem impl_AppendCommit_l0 : ∀ (q p : List S72) (acc : List S72), (p ++ q).length ≤ 1048576 → acc.length ≤ 1048576 + p.length → (∀ r ∈ acc, okRec r = true) → (∀ r ∈ q, okRec r = true) → Ev (fun k => impl_AppendCommit.l0 k acc (p ++ q) ((p ++ q).length : Int) (p.length : Int)) (appendV acc q)
  | [], p, acc, h, ha, ho, hq => by
    simp only [List.append_nil] at h
    have h1 : (acc.length < 5864062014805) = True := by apply eq_true; omega
    refine ev_up ?_
    simp only [impl_AppendCommit.l0, mid_end, h1, Option.bind_some, ↓reduceIte, appendV, List.all_nil]
    rw [List.append_nil acc]
    unfold finishA
    by_cases h4 : (acc ++ [(⟨2, 0, 0⟩ : S72)]).length ≤ 40
    · have h5 : (((acc ++ [(⟨2, 0, 0⟩ : S72)]).length : Int) > 40) = False := by apply eq_false; omega
      simp only [h4, h5, ↓reduceIte]
      exact ev_bind (impl_journalNumbers_ev _ (by omega)) (Ev.now _)
    · have h5 : (((acc ++ [(⟨2, 0, 0⟩ : S72)]).length : Int) > 40) = True := by apply eq_true; omega
      simp only [h4, h5, ↓reduceIte]
      exact Ev.now _
  | x :: q, p, acc, h, ha, ho, hq => by
    have hl : (p ++ x :: q).length = p.length + 1 + q.length := by simp; omega
    have h1 : (acc.length < 5864062014805) = True := by apply eq_true; omega
    refine ev_up ?_
    simp only [impl_AppendCommit.l0, rd_T72, h1, getD_mid, mid_lt, mid_ge, wrap_mid p x (by omega), ↓reduceIte]
    rw [step_mid p q x] at h ⊢
    by_cases hx : x.f0 = 1
    · simp only [hx, ↓reduceIte]
      have e : (⟨1, x.f1, x.f2⟩ : S72) = x := by cases x; simp at hx; simp [hx]
      rw [e]
      have := impl_AppendCommit_l0 q (p ++ [x]) (acc ++ [x]) h (by simp; omega) (fun r hr => by
        rcases List.mem_append.1 hr with hr | hr
        · exact ho r hr
        · rw [List.mem_singleton.1 hr]; exact hq x List.mem_cons_self) (fun r hr => hq r (List.mem_cons_of_mem _ hr))
      refine ev_eq this ?_
      unfold appendV
      rw [← step_mid acc q x]
      simp [hx]
    · simp only [hx, ↓reduceIte]
      exact ev_eq (Ev.now _) (by simp [appendV, hx])
theorem impl_AppendCommit_ev (l : List Int) (r : List S72) (h : l.length ≤ 1048576) (hr : r.length ≤ 1048576) : Ev (fun k => impl_AppendCommit.f k l r) (rAppendCommit l r) := by
  unfold rAppendCommit
  simp only [impl_AppendCommit.f]
  refine ev_bind (impl_areNumbers_ev l (by omega)) ?_
  have fin : Ev (fun k => impl_AppendCommit.j0 k l r true) (([] : List Int), false) := by
    refine ev_up ?_
    simp only [impl_AppendCommit.j0, ↓reduceIte]
    exact Ev.now _
  cases goodNums l
  · simpa using fin
  · simp only [↓reduceIte]
    refine ev_bind (impl_areRecords_ev r (by omega)) ?_
    cases hg : goodRecs r
    · simpa using fin
    · simp only [Bool.not_true, and_self, ↓reduceIte]
      refine ev_up ?_
      simp only [impl_AppendCommit.j0, Bool.false_eq_true, ↓reduceIte]
      refine ev_bind (impl_recovered_ev l (by omega)) ?_
      have hl := recovered_len l
      have hc := committed_len (recovered l)
      refine ev_bind (impl_committedPart_ev _ (by omega)) ?_
      simpa using impl_AppendCommit_l0 r [] (committed (recovered l)) (by simpa using hr) (by simp; omega) (fun x hx => recovered_ok l x (committed_mem _ x hx)) (good_ok hg)
theorem same_l0 : ∀ (q p : List Int), (p ++ q).length < 9223372036854775807 → Ev (fun k => laws_sameInts.l0 k (p ++ q) (p ++ q) ((p ++ q).length : Int) (p.length : Int)) true
  | [], p, h => by
    refine ev_up ?_
    simp only [laws_sameInts.l0, mid_end, ↓reduceIte]
    exact Ev.now _
  | x :: q, p, h => by
    have hp : p.length < 9223372036854775807 := by simp only [List.length_append, List.length_cons] at h; omega
    refine ev_up ?_
    simp only [laws_sameInts.l0, mid_lt, mid_ge, rd_mid, wrap_mid p x hp, ↓reduceIte]
    rw [step_mid p q x] at h ⊢
    exact same_l0 q (p ++ [x]) h
theorem same_ev (l : List Int) (h : l.length < 9223372036854775807) : Ev (fun k => laws_sameInts.f k l l) true := by
  simp only [laws_sameInts.f, ↓reduceIte]
  simpa using same_l0 l [] (by simpa using h)
theorem bits_255 (y : Int) : 0 ≤ wrap64 (Go.bits .and .u64 y 255) ∧ wrap64 (Go.bits .and .u64 y 255) ≤ 255 := by
  have h : ∃ n : Nat, n ≤ 255 ∧ Go.bits .and .u64 y 255 = (n : Int) := by
    refine ⟨(BitVec.ofInt 64 y &&& BitVec.ofInt 64 255).toNat, ?_, ?_⟩
    · rw [BitVec.toNat_and]
      exact Nat.le_trans Nat.and_le_right (by decide)
    · have hle : (BitVec.ofInt 64 y &&& BitVec.ofInt 64 255).toNat ≤ 255 := by
        rw [BitVec.toNat_and]
        exact Nat.le_trans Nat.and_le_right (by decide)
      show IntKind.u64.wrap (((BitVec.ofInt 64 y &&& BitVec.ofInt 64 255).toNat : Nat) : Int) = _
      generalize (BitVec.ofInt 64 y &&& BitVec.ofInt 64 255).toNat = n at hle
      show ((n : Int) % (2 ^ 64 : Int)) = n
      omega
  obtain ⟨n, hn, e⟩ := h
  rw [e]
  unfold wrap64
  omega
theorem next_tot (c : List Int) (hc : ∀ x ∈ c, 0 ≤ x ∧ x ≤ 255) (a s : Int) (h0 : 0 ≤ a) (h1 : a ≤ 4611686018427387904) : ∃ r s', spec_l1Cur_next.f c a s = some (r, a + 1, s') ∧ 0 ≤ r ∧ r ≤ 255 := by
  have wa : wrap64 (a + 1) = a + 1 := wrap_id (by omega) (by omega)
  unfold spec_l1Cur_next.f
  rw [wa]
  by_cases hl : a < (c.length : Int)
  · have hm : rd c a ∈ c := by
      unfold rd
      rw [List.getD_eq_getElem?_getD, List.getElem?_eq_getElem (show a.toNat < c.length by omega)]
      exact List.getElem_mem _
    obtain ⟨g0, g1⟩ := hc _ hm
    have wr : wrap64 (rd c a) = rd c a := wrap_id (by omega) (by omega)
    rw [if_pos hl, if_pos h0, wr]
    split
    · exact ⟨_, _, rfl, g0, g1⟩
    · exact ⟨_, _, rfl, bits_255 _⟩
  · rw [if_neg hl]
    split
    · exact ⟨_, _, rfl, by omega, by omega⟩
    · exact ⟨_, _, rfl, bits_255 _⟩
theorem pick_tot (c : List Int) (hc : ∀ x ∈ c, 0 ≤ x ∧ x ≤ 255) (a s n : Int) (h0 : 0 ≤ a) (h1 : a ≤ 4611686018427387000) (hn : 1 ≤ n) (hn2 : n ≤ 100000) : ∃ r a' s', spec_l1Cur_pick.f c a s n = some (r, a', s') ∧ 0 ≤ r ∧ r < n ∧ a ≤ a' ∧ a' ≤ a + 2 := by
  unfold spec_l1Cur_pick.f
  split
  · exact ⟨_, _, _, rfl, by omega, by omega, by omega, by omega⟩
  · obtain ⟨r, s1, e1, g0, g1⟩ := next_tot c hc a s h0 (by omega)
    rw [e1]
    simp only [Option.bind_some]
    have mod : ∀ x : Int, 0 ≤ x → 0 ≤ Int.tmod x n ∧ Int.tmod x n < n := fun x hx => ⟨Int.tmod_nonneg n hx, Int.tmod_lt_of_pos x (by omega)⟩
    split
    · obtain ⟨r2, s2, e2, k0, k1⟩ := next_tot c hc (a + 1) s1 (by omega) (by omega)
      rw [e2]
      simp only [Option.bind_some]
      rw [if_neg (by omega)]
      have w1 : wrap64 (r * 256) = r * 256 := wrap_id (by omega) (by omega)
      rw [w1, wrap_id (x := r * 256 + r2) (by omega) (by omega)]
      obtain ⟨m1, m2⟩ := mod (r * 256 + r2) (by omega)
      exact ⟨_, _, _, rfl, m1, m2, by omega, by omega⟩
    · rw [if_neg (by omega)]
      obtain ⟨m1, m2⟩ := mod r g0
      exact ⟨_, _, _, rfl, m1, m2, by omega, by omega⟩
theorem one_tot (c : List Int) (hc : ∀ x ∈ c, 0 ≤ x ∧ x ≤ 255) (a s n : Int) (h0 : 0 ≤ a) (h1 : a ≤ 4611686018427387000) (hn : 1 ≤ n) (hn2 : n ≤ 100000) : ∃ r a' s', spec_l1Cur_one.f c a s n = some (r, a', s') ∧ a ≤ a' ∧ a' ≤ a + 2 := by
  obtain ⟨r, a', s', e, _, _, g1, g2⟩ := pick_tot c hc a s n h0 h1 hn hn2
  unfold spec_l1Cur_one.f
  rw [e]
  exact ⟨_, _, _, rfl, g1, g2⟩
theorem among_tot (c : List Int) (hc : ∀ x ∈ c, 0 ≤ x ∧ x ≤ 255) (a s : Int) (l : List Int) (h0 : 0 ≤ a) (h1 : a ≤ 4611686018427387000) (hl : 1 ≤ l.length) (hl2 : l.length ≤ 100000) : ∃ r a' s', spec_l1Cur_among.f c a s l = some (r, a', s') ∧ r ∈ l ∧ a ≤ a' ∧ a' ≤ a + 2 := by
  obtain ⟨r, a', s', e, g0, g3, g1, g2⟩ := pick_tot c hc a s l.length h0 h1 (by omega) (by omega)
  unfold spec_l1Cur_among.f
  rw [e]
  simp only [Option.bind_some]
  rw [if_pos g0, if_pos g3]
  refine ⟨_, _, _, rfl, ?_, g1, g2⟩
  unfold rd
  rw [List.getD_eq_getElem?_getD, List.getElem?_eq_getElem (show r.toNat < l.length by omega)]
  exact List.getElem_mem _
def lA : Int := 6364136223846793005
def lC : Int := 1442695040888963407
/-- One turn of the seed, behind the end of the code. -/
def lF (s : Int) : Int := (s * lA + lC) % 18446744073709551616
def lV (t : Int) : Int := (t / 1099511627776) % 256
def it : Nat → Int → Int
  | 0, s => s
  | n + 1, s => it n (lF s)
theorem it_add : ∀ (m n : Nat) (s : Int), it (m + n) s = it n (it m s)
  | 0, n, s => by simp [it]
  | m + 1, n, s => by rw [Nat.succ_add]; exact it_add m n (lF s)
theorem it_succ' (n : Nat) (s : Int) : it (n + 1) s = lF (it n s) := it_add n 1 s
/-- a to the power 2^k, and what 2^k turns add. -/
def pA : Nat → Int
  | 0 => lA
  | k + 1 => pA k * pA k
def pC : Nat → Int
  | 0 => lC
  | k + 1 => pA k * pC k + pC k
theorem pA_form : ∀ k, ∃ q, pA k = 1 + q * 2 ^ (k + 2)
  | 0 => ⟨1591034055961698251, by decide⟩
  | k + 1 => by
    obtain ⟨q, hq⟩ := pA_form k
    refine ⟨q + q * q * 2 ^ (k + 1), ?_⟩
    simp only [pA, hq]
    have e1 : (2 : Int) ^ (k + 2) = 2 * 2 ^ (k + 1) := by rw [Int.pow_succ, Int.mul_comm]
    have e2 : (2 : Int) ^ (k + 1 + 2) = 4 * 2 ^ (k + 1) := by rw [Int.pow_succ, Int.pow_succ]; omega
    rw [e1, e2]
    generalize (2 : Int) ^ (k + 1) = z
    grind
theorem pC_form : ∀ k, ∃ q, pC k = 2 ^ k + q * 2 ^ (k + 1)
  | 0 => ⟨721347520444481703, by decide⟩
  | k + 1 => by
    obtain ⟨q, hq⟩ := pC_form k
    obtain ⟨u, hu⟩ := pA_form k
    simp only [pC, hq, hu]
    have e1 : (2 : Int) ^ (k + 1) = 2 * 2 ^ k := by rw [Int.pow_succ, Int.mul_comm]
    have e2 : (2 : Int) ^ (k + 2) = 4 * 2 ^ k := by rw [Int.pow_succ, Int.pow_succ]; omega
    refine ⟨q + u * 2 ^ k + 2 * (u * q * 2 ^ k), ?_⟩
    rw [e1, e2]
    generalize (2 : Int) ^ k = z
    grind
theorem emod_pow {x y : Int} {k m : Nat} (h : x % 2 ^ m = y % 2 ^ m) (hk : k ≤ m) : x % 2 ^ k = y % 2 ^ k := by
  have hd : (2 : Int) ^ k ∣ 2 ^ m := ⟨2 ^ (m - k), by rw [← Int.pow_add]; congr 1; omega⟩
  rw [← Int.emod_emod_of_dvd x hd, h, Int.emod_emod_of_dvd y hd]
theorem it_pow : ∀ (k : Nat) (s : Int), ∃ z, it (2 ^ k) s = pA k * s + pC k + z * 18446744073709551616
  | 0, s => by
    refine ⟨-((s * lA + lC) / 18446744073709551616), ?_⟩
    show lF s = _
    simp only [lF, pA, pC]
    rw [Int.mul_comm lA s]
    generalize s * lA + lC = x
    omega
  | k + 1, s => by
    obtain ⟨z, hz⟩ := it_pow k s
    obtain ⟨w, hw⟩ := it_pow k (it (2 ^ k) s)
    refine ⟨pA k * z + w, ?_⟩
    have e : 2 ^ (k + 1) = 2 ^ k + 2 ^ k := by rw [Nat.pow_succ]; omega
    rw [e, it_add, hw, hz]
    simp only [pA, pC]
    grind
/-- From any seed, any low bits are met. -/
theorem it_reach : ∀ (k : Nat), k ≤ 48 → ∀ (s t : Int), ∃ n, n < 2 ^ k ∧ it n s % 2 ^ k = t % 2 ^ k
  | 0, _, s, t => ⟨0, by decide, by simp [Int.emod_one]⟩
  | k + 1, hk, s, t => by
    obtain ⟨n, hn, h⟩ := it_reach k (by omega) s t
    have e : 2 ^ (k + 1) = 2 ^ k + 2 ^ k := by rw [Nat.pow_succ]; omega
    have e1 : (2 : Int) ^ (k + 1) = 2 * 2 ^ k := by rw [Int.pow_succ, Int.mul_comm]
    have e2 : (2 : Int) ^ (k + 2) = 2 * 2 ^ (k + 1) := by rw [Int.pow_succ, Int.mul_comm]
    have hz : (0 : Int) < 2 ^ k := Int.pow_pos (by decide)
    by_cases hc : it n s % 2 ^ (k + 1) = t % 2 ^ (k + 1)
    · exact ⟨n, by omega, hc⟩
    · refine ⟨n + 2 ^ k, by omega, ?_⟩
      rw [it_add]
      obtain ⟨z, hz1⟩ := it_pow k (it n s)
      obtain ⟨q, hq⟩ := pA_form k
      obtain ⟨u, hu⟩ := pC_form k
      obtain ⟨r, hr⟩ : ∃ r, (18446744073709551616 : Int) = r * 2 ^ (k + 1) := ⟨2 ^ (64 - (k + 1)), by rw [← Int.pow_add, show 64 - (k + 1) + (k + 1) = 64 by omega]; decide⟩
      generalize it n s = y at *
      have hy : it (2 ^ k) y = y + 2 ^ k + (2 * (q * y) + u + z * r) * 2 ^ (k + 1) := by
        rw [hz1, hq, hu, hr, e2]
        generalize (2 : Int) ^ (k + 1) = b
        generalize (2 : Int) ^ k = c
        grind
      rw [hy, Int.add_mul_emod_self_right]
      -- y and t agree but for the bit k
      have r1 := Int.emod_nonneg y (show (2 : Int) ^ (k + 1) ≠ 0 by omega)
      have r2 := Int.emod_nonneg t (show (2 : Int) ^ (k + 1) ≠ 0 by omega)
      have r3 := Int.emod_lt_of_pos y (show (0 : Int) < 2 ^ (k + 1) by omega)
      have r4 := Int.emod_lt_of_pos t (show (0 : Int) < 2 ^ (k + 1) by omega)
      have m1 : y % 2 ^ (k + 1) % 2 ^ k = y % 2 ^ k := Int.emod_emod_of_dvd y ⟨2, by rw [e1]; exact Int.mul_comm _ _⟩
      have m2 : t % 2 ^ (k + 1) % 2 ^ k = t % 2 ^ k := Int.emod_emod_of_dvd t ⟨2, by rw [e1]; exact Int.mul_comm _ _⟩
      rw [show (y + 2 ^ k) % 2 ^ (k + 1) = (y % 2 ^ (k + 1) + 2 ^ k) % 2 ^ (k + 1) by rw [Int.emod_add_emod]]
      generalize y % 2 ^ (k + 1) = Y at *
      generalize t % 2 ^ (k + 1) = X at *
      rw [e1] at *
      generalize (2 : Int) ^ k = w at *
      have hYX : Y % w = X % w := by rw [m1, m2, h]
      have wY : Y % w = Y ∨ Y % w = Y - w := by
        by_cases hlt : Y < w
        · left; exact Int.emod_eq_of_lt r1 hlt
        · right; rw [← Int.sub_emod_right]; exact Int.emod_eq_of_lt (by omega) (by omega)
      have wX : X % w = X ∨ X % w = X - w := by
        by_cases hlt : X < w
        · left; exact Int.emod_eq_of_lt r2 hlt
        · right; rw [← Int.sub_emod_right]; exact Int.emod_eq_of_lt (by omega) (by omega)
      by_cases hlt : Y + w < 2 * w
      · rw [Int.emod_eq_of_lt (by omega) hlt]; omega
      · rw [show (Y + w) % (2 * w) = (Y + w - 2 * w) % (2 * w) by rw [Int.sub_emod_right]]
        rw [Int.emod_eq_of_lt (by omega) (by omega)]; omega
theorem lF_low (s t : Int) (h : s % 2 ^ 48 = t % 2 ^ 48) : lF s % 2 ^ 48 = lF t % 2 ^ 48 := by
  simp only [lF]
  have hd : (2 : Int) ^ 48 ∣ 18446744073709551616 := ⟨65536, by decide⟩
  rw [Int.emod_emod_of_dvd _ hd, Int.emod_emod_of_dvd _ hd]
  rw [Int.add_emod, Int.mul_emod, h, ← Int.mul_emod, ← Int.add_emod]
theorem it_low : ∀ (n : Nat) (s t : Int), s % 2 ^ 48 = t % 2 ^ 48 → it n s % 2 ^ 48 = it n t % 2 ^ 48
  | 0, _, _, h => h
  | n + 1, s, t, h => it_low n _ _ (lF_low s t h)
theorem lV_low {s t : Int} (h : s % 2 ^ 48 = t % 2 ^ 48) : lV s = lV t := by
  simp only [lV]
  have e : (2 : Int) ^ 48 = 281474976710656 := by decide
  rw [e] at h
  omega
theorem lF_range (s : Int) : 0 ≤ lF s ∧ lF s < 18446744073709551616 := ⟨Int.emod_nonneg _ (by decide), Int.emod_lt_of_pos _ (by decide)⟩
theorem lV_range (t : Int) : 0 ≤ lV t ∧ lV t ≤ 255 := by unfold lV; omega
/-- Nine turns one behind the other from which a good record begins: from any seed they come. -/
def good9 (s : Int) (n : Nat) : Prop := ∀ j, j < 9 → 3 ≤ lV (it (n + j + 6) s) % 40
theorem zero9 : ∀ j, j < 9 → 3 ≤ lV (it (j + 6) 0) % 40 := by decide +kernel
theorem reach9 (s : Int) : ∃ n, n < 2 ^ 48 ∧ good9 s n := by
  obtain ⟨n, hn, h⟩ := it_reach 48 (Nat.le_refl _) s 0
  refine ⟨n, hn, fun j hj => ?_⟩
  have := zero9 j hj
  rw [show n + j + 6 = n + (j + 6) by omega, it_add, lV_low (it_low (j + 6) _ 0 (by rw [h]))]
  exact this
theorem good9_step {s : Int} {n e : Nat} (h : good9 s n) (he : e ≤ n) : good9 (it e s) (n - e) := by
  intro j hj
  rw [← it_add, show e + (n - e + j + 6) = n + j + 6 by omega]
  exact h j hj
theorem good9_now {s : Int} {n e : Nat} (h : good9 s n) (he : n ≤ e) (he2 : e < n + 9) : 3 ≤ lV (it 6 (it e s)) % 40 := by
  have := h (e - n) (by omega)
  rw [← it_add]
  rw [show n + (e - n) + 6 = e + 6 by omega] at this
  exact this
theorem next_far (c : List Int) (a s : Int) (hf : (c.length : Int) ≤ a) (h1 : a ≤ 4611686018427387904) : spec_l1Cur_next.f c a s = some (lV (lF s), a + 1, lF s) := by
  have h0 : (0 : Int) ≤ c.length := by omega
  have wa : wrap64 (a + 1) = a + 1 := wrap_id (by omega) (by omega)
  have u64 : ∀ x : Int, IntKind.u64.wrap x = x % 18446744073709551616 := fun _ => rfl
  have seed : IntKind.u64.wrap ((IntKind.u64.wrap ((IntKind.u64.wrap (s * 6364136223846793005)) + 0)) + 1442695040888963407) = lF s := by
    simp only [u64, lF, lA, lC]
    omega
  have val : wrap64 (Go.bits .and .u64 (lF s / 1099511627776) 255) = lV (lF s) := by
    obtain ⟨g0, g1⟩ := lF_range s
    generalize lF s = t at g0 g1
    have hb : Go.bits .and .u64 (t / 1099511627776) 255 = lV t := by
      have e : (BitVec.ofInt 64 (t / 1099511627776) &&& BitVec.ofInt 64 255).toNat = ((t / 1099511627776) % 256).toNat := by
        rw [BitVec.toNat_and]
        have e1 : (BitVec.ofInt 64 255).toNat = 2 ^ 8 - 1 := by decide
        rw [e1, Nat.and_two_pow_sub_one_eq_mod, BitVec.toNat_ofInt]
        omega
      show IntKind.u64.wrap (((BitVec.ofInt 64 (t / 1099511627776) &&& BitVec.ofInt 64 255).toNat : Nat) : Int) = _
      rw [e, u64]
      unfold lV
      omega
    rw [hb]
    have := lV_range t
    exact wrap_id (by omega) (by omega)
  unfold spec_l1Cur_next.f
  rw [wa, if_neg (by omega), if_neg (by omega), seed, val]
theorem pick_far (c : List Int) (a s n : Int) (hf : (c.length : Int) ≤ a) (h1 : a ≤ 4611686018427387000) (hn : 2 ≤ n) (hn2 : n ≤ 200) : spec_l1Cur_pick.f c a s n = some (lV (lF s) % n, a + 1, lF s) := by
  unfold spec_l1Cur_pick.f
  rw [if_neg (by omega), next_far c a s hf (by omega)]
  simp only [Option.bind_some]
  rw [if_neg (by omega), if_neg (by omega), Int.tmod_eq_emod_of_nonneg (lV_range _).1]
theorem pick2_far (c : List Int) (a s n : Int) (hf : (c.length : Int) ≤ a) (h1 : a ≤ 4611686018427387000) (hn : 201 ≤ n) (hn2 : n ≤ 100000) : ∃ r, spec_l1Cur_pick.f c a s n = some (r, a + 2, lF (lF s)) ∧ 0 ≤ r ∧ r < n := by
  unfold spec_l1Cur_pick.f
  rw [if_neg (by omega), next_far c a s hf (by omega)]
  simp only [Option.bind_some]
  rw [if_pos (by omega), next_far c (a + 1) (lF s) (by omega) (by omega)]
  simp only [Option.bind_some]
  rw [if_neg (by omega)]
  have v1 := lV_range (lF s)
  have v2 := lV_range (lF (lF s))
  rw [wrap_id (x := lV (lF s) * 256) (by omega) (by omega), wrap_id (x := lV (lF s) * 256 + lV (lF (lF s))) (by omega) (by omega)]
  exact ⟨_, by rw [show a + 1 + 1 = a + 2 by omega], Int.tmod_nonneg n (by omega), Int.tmod_lt_of_pos _ (by omega)⟩
theorem among_far (c : List Int) (a s : Int) (l : List Int) (hf : (c.length : Int) ≤ a) (h1 : a ≤ 4611686018427387000) (hn : 2 ≤ l.length) (hn2 : l.length ≤ 200) : ∃ r, spec_l1Cur_among.f c a s l = some (r, a + 1, lF s) ∧ r ∈ l := by
  unfold spec_l1Cur_among.f
  rw [pick_far c a s l.length hf h1 (by omega) (by omega)]
  simp only [Option.bind_some]
  have g0 : 0 ≤ lV (lF s) % (l.length : Int) := Int.emod_nonneg _ (by omega)
  have g1 : lV (lF s) % (l.length : Int) < l.length := Int.emod_lt_of_pos _ (by omega)
  rw [if_pos g0, if_pos g1]
  generalize lV (lF s) % (l.length : Int) = q at g0 g1
  refine ⟨_, rfl, ?_⟩
  unfold rd
  rw [List.getD_eq_getElem?_getD, List.getElem?_eq_getElem (show q.toNat < l.length by omega)]
  exact List.getElem_mem _
theorem one_far (c : List Int) (a s n : Int) (hf : (c.length : Int) ≤ a) (h1 : a ≤ 4611686018427387000) (hn : 2 ≤ n) (hn2 : n ≤ 200) : ∃ b, spec_l1Cur_one.f c a s n = some (b, a + 1, lF s) := by
  unfold spec_l1Cur_one.f
  rw [pick_far c a s n hf h1 hn hn2]
  exact ⟨_, rfl⟩
/-- A record behind the end of the code. -/
theorem record_far (c : List Int) (a s : Int) (hf : (c.length : Int) ≤ a) (h1 : a ≤ 4611686018427386000) : ∃ x y z, ∃ e : Nat, (e = 6 ∨ e = 7) ∧ Ev (fun k => spec_l1Cur_journalRecord.f k c a s) (x, y, z, a + e, it e s) ∧ (3 ≤ lV (it 6 s) % 40 → okRec ⟨x, y, z⟩ = true) := by
  have e1 := pick_far c a s 8 hf (by omega) (by decide) (by decide)
  obtain ⟨v, e2, v0, v1⟩ := pick2_far c (a + 1) (lF s) 1000 (by omega) (by omega) (by decide) (by decide)
  obtain ⟨w, e3, hw⟩ := among_far c (a + 1 + 2) (lF (lF (lF s))) [0, 5, 999, v] (by omega) (by omega) (by simp) (by simp)
  obtain ⟨b, e4⟩ := one_far c (a + 1 + 2 + 1) (lF (lF (lF (lF s)))) 3 (by omega) (by omega) (by decide) (by decide)
  have hkey : 0 ≤ lV (lF s) % 8 ∧ lV (lF s) % 8 ≤ 7 := by omega
  have hval : 0 ≤ w ∧ w ≤ 999 := by
    simp only [List.mem_cons, List.not_mem_nil, or_false] at hw
    omega
  have j0 : ∀ (x y z : Int), ((x = 1 ∧ 0 ≤ y ∧ y ≤ 7 ∧ 0 ≤ z ∧ z ≤ 999) ∨ (x = 2 ∧ y = 0 ∧ z = 0)) → ∃ x' y' z', ∃ e : Nat, (e = 6 ∨ e = 7) ∧ Ev (fun k => spec_l1Cur_journalRecord.j0 k c (a + 1 + 2 + 1 + 1) (lF (lF (lF (lF (lF s))))) x y z) (x', y', z', a + e, it e s) ∧ (3 ≤ lV (it 6 s) % 40 → okRec ⟨x', y', z'⟩ = true) := by
    intro x y z hok
    have e5 := pick_far c (a + 1 + 2 + 1 + 1) (lF (lF (lF (lF (lF s))))) 40 (by omega) (by omega) (by decide) (by decide)
    have i6 : it 6 s = lF (lF (lF (lF (lF (lF s))))) := rfl
    have i7 : it 7 s = lF (lF (lF (lF (lF (lF (lF s)))))) := rfl
    have a6 : a + 1 + 2 + 1 + 1 + 1 = a + (6 : Nat) := by omega
    have a7 : a + 1 + 2 + 1 + 1 + 1 + 1 = a + (7 : Nat) := by omega
    rw [← i6] at e5
    have m0 : 0 ≤ lV (it 6 s) % 40 := by omega
    by_cases c0 : lV (it 6 s) % 40 = 0
    · obtain ⟨r, e6, _⟩ := among_far c (a + 1 + 2 + 1 + 1 + 1) (it 6 s) [0, 3] (by omega) (by omega) (by decide) (by decide)
      refine ⟨r, y, z, 7, .inr rfl, ?_, fun h => by omega⟩
      refine ev_up ?_
      simp only [spec_l1Cur_journalRecord.j0, e5, Option.bind_some, if_pos c0, e6]
      exact ev_eq (Ev.now _) (by rw [a7, i7, i6])
    · by_cases c1 : lV (it 6 s) % 40 = 1
      · obtain ⟨r, e6, _⟩ := among_far c (a + 1 + 2 + 1 + 1 + 1) (it 6 s) [(-1), 1, 8] (by omega) (by omega) (by decide) (by decide)
        refine ⟨x, r, z, 7, .inr rfl, ?_, fun h => by omega⟩
        refine ev_up ?_
        simp only [spec_l1Cur_journalRecord.j0, e5, Option.bind_some, if_neg c0, if_pos c1, e6]
        exact ev_eq (Ev.now _) (by rw [a7, i7, i6])
      · by_cases c2 : lV (it 6 s) % 40 = 2
        · obtain ⟨r, e6, _⟩ := among_far c (a + 1 + 2 + 1 + 1 + 1) (it 6 s) [(-1), 1, 1000] (by omega) (by omega) (by decide) (by decide)
          refine ⟨x, y, r, 7, .inr rfl, ?_, fun h => by omega⟩
          refine ev_up ?_
          simp only [spec_l1Cur_journalRecord.j0, e5, Option.bind_some, if_neg c0, if_neg c1, if_pos c2, e6]
          exact ev_eq (Ev.now _) (by rw [a7, i7, i6])
        · refine ⟨x, y, z, 6, .inl rfl, ?_, fun _ => by unfold okRec; simpa using hok⟩
          refine ev_up ?_
          simp only [spec_l1Cur_journalRecord.j0, e5, Option.bind_some, if_neg c0, if_neg c1, if_neg c2]
          exact ev_eq (Ev.now _) (by rw [a6])
  unfold spec_l1Cur_journalRecord.f
  simp only [e1, Option.bind_some, e2, e3, e4]
  cases b with
  | true =>
    obtain ⟨x', y', z', e, he, hev, hgood⟩ := j0 2 0 0 (.inr ⟨rfl, rfl, rfl⟩)
    exact ⟨x', y', z', e, he, by simpa only [if_true] using hev, hgood⟩
  | false =>
    obtain ⟨x', y', z', e, he, hev, hgood⟩ := j0 1 (lV (lF s) % 8) w (.inl ⟨rfl, hkey.1, hkey.2, hval.1, hval.2⟩)
    exact ⟨x', y', z', e, he, by simpa only [Bool.false_eq_true, if_false] using hev, hgood⟩
/-- A record, wherever the cursor stands. -/
theorem record_tot (c : List Int) (hc : ∀ x ∈ c, 0 ≤ x ∧ x ≤ 255) (a s : Int) (h0 : 0 ≤ a) (h1 : a ≤ 4611686018427380000) : ∃ x y z a' s', Ev (fun k => spec_l1Cur_journalRecord.f k c a s) (x, y, z, a', s') ∧ a + 1 ≤ a' ∧ a' ≤ a + 12 := by
  obtain ⟨r1, a1, s1, e1, _, _, g1, g2⟩ := pick_tot c hc a s 8 h0 (by omega) (by decide) (by decide)
  have g1' : a1 = a + 1 := by
    obtain ⟨q, s2, e, _, _⟩ := next_tot c hc a s h0 (by omega)
    unfold spec_l1Cur_pick.f at e1
    rw [if_neg (by decide), e] at e1
    simp only [Option.bind_some] at e1
    rw [if_neg (by decide), if_neg (by decide)] at e1
    simp only [Option.some.injEq, Prod.mk.injEq] at e1
    exact e1.2.1.symm
  obtain ⟨r2, a2, s2, e2, _, _, k1, k2⟩ := pick_tot c hc a1 s1 1000 (by omega) (by omega) (by decide) (by decide)
  obtain ⟨r3, a3, s3, e3, _, m1, m2⟩ := among_tot c hc a2 s2 [0, 5, 999, r2] (by omega) (by omega) (by simp) (by simp)
  obtain ⟨b, a4, s4, e4, n1, n2⟩ := one_tot c hc a3 s3 3 (by omega) (by omega) (by decide) (by decide)
  have j0 : ∀ (x y z : Int), ∃ x' y' z' a' s', Ev (fun k => spec_l1Cur_journalRecord.j0 k c a4 s4 x y z) (x', y', z', a', s') ∧ a4 ≤ a' ∧ a' ≤ a4 + 4 := by
    intro x y z
    obtain ⟨q, a5, s5, e5, _, _, o1, o2⟩ := pick_tot c hc a4 s4 40 (by omega) (by omega) (by decide) (by decide)
    by_cases c0 : q = 0
    · obtain ⟨r, a6, s6, e6, _, p1, p2⟩ := among_tot c hc a5 s5 [0, 3] (by omega) (by omega) (by decide) (by decide)
      refine ⟨r, y, z, a6, s6, ?_, by omega, by omega⟩
      refine ev_up ?_
      simp only [spec_l1Cur_journalRecord.j0, e5, Option.bind_some, if_pos c0, e6]
      exact Ev.now _
    · by_cases c1 : q = 1
      · obtain ⟨r, a6, s6, e6, _, p1, p2⟩ := among_tot c hc a5 s5 [(-1), 1, 8] (by omega) (by omega) (by decide) (by decide)
        refine ⟨x, r, z, a6, s6, ?_, by omega, by omega⟩
        refine ev_up ?_
        simp only [spec_l1Cur_journalRecord.j0, e5, Option.bind_some, if_neg c0, if_pos c1, e6]
        exact Ev.now _
      · by_cases c2 : q = 2
        · obtain ⟨r, a6, s6, e6, _, p1, p2⟩ := among_tot c hc a5 s5 [(-1), 1, 1000] (by omega) (by omega) (by decide) (by decide)
          refine ⟨x, y, r, a6, s6, ?_, by omega, by omega⟩
          refine ev_up ?_
          simp only [spec_l1Cur_journalRecord.j0, e5, Option.bind_some, if_neg c0, if_neg c1, if_pos c2, e6]
          exact Ev.now _
        · refine ⟨x, y, z, a5, s5, ?_, by omega, by omega⟩
          refine ev_up ?_
          simp only [spec_l1Cur_journalRecord.j0, e5, Option.bind_some, if_neg c0, if_neg c1, if_neg c2]
          exact Ev.now _
  unfold spec_l1Cur_journalRecord.f
  simp only [e1, Option.bind_some, e2, e3, e4]
  cases b with
  | true =>
    obtain ⟨x', y', z', a', s', hev, p1, p2⟩ := j0 2 0 0
    exact ⟨x', y', z', a', s', by simpa only [if_true] using hev, by omega, by omega⟩
  | false =>
    obtain ⟨x', y', z', a', s', hev, p1, p2⟩ := j0 1 r1 r3
    exact ⟨x', y', z', a', s', by simpa only [Bool.false_eq_true, if_false] using hev, by omega, by omega⟩
/-- The records drawn end with such a row. -/
def RTot (HI : Int) (c : List Int) (N : Int) (l : List S72) (a s : Int) : Prop := ∃ r a' s', Ev (fun k => spec_l1Cur_journalRecords.l0 k l N c a s) (r, a', s') ∧ r.length ≤ 50 ∧ 0 ≤ a' ∧ a' ≤ HI
theorem rec_step {HI : Int} {c : List Int} {N : Int} {l : List S72} {a2 s2 a1 s1 a3 s3 a4 s4 x y z : Int} {b b2 : Bool} (hl : (l.length : Int) < N) (hN : N ≤ 41) (hrec : Ev (fun k => spec_l1Cur_journalRecord.f k c a2 s2) (x, y, z, a1, s1))
    (h3 : spec_l1Cur_one.f c a1 s1 4 = some (b, a3, s3)) (h4 : spec_l1Cur_one.f c a3 s3 8 = some (b2, a4, s4)) (ha : 0 ≤ a4) (hb : a4 ≤ HI)
    (hI1 : RTot HI c N (l ++ [⟨x, y, z⟩]) a1 s1) (hI4 : RTot HI c N (l ++ [⟨x, y, z⟩]) a4 s4) (hT : okRec ⟨x, y, z⟩ = false → RTot HI c N l a4 s4) : RTot HI c N l a2 s2 := by
  have hlen : l.length < 5864062014805 := by omega
  cases hok : okRec ⟨x, y, z⟩ with
  | true =>
    obtain ⟨r, a', s', hev, h5, h6, h7⟩ := hI1
    refine ⟨r, a', s', ?_, h5, h6, h7⟩
    refine ev_up ?_
    simp only [spec_l1Cur_journalRecords.l0, if_pos hl]
    refine ev_bind hrec ?_
    simp only [jrRecord_eq, hok, Option.bind_some, if_true]
    refine ev_up ?_
    simp only [spec_l1Cur_journalRecords.j2, if_true, if_pos hlen]
    refine ev_up ?_
    simp only [spec_l1Cur_journalRecords.j3, jrRecord_eq, hok, Option.bind_some, if_true]
    exact hev
  | false =>
    have start : ∀ {R : List S72 × Int × Int}, Ev (fun k => spec_l1Cur_journalRecords.j2 k l N b c a3 s3 x y z) R → Ev (fun k => spec_l1Cur_journalRecords.l0 k l N c a2 s2) R := by
      intro R hR
      refine ev_up ?_
      simp only [spec_l1Cur_journalRecords.l0, if_pos hl]
      refine ev_bind hrec ?_
      simp only [jrRecord_eq, hok, Option.bind_some, Bool.false_eq_true, if_false, h3]
      exact hR
    have end3 : ∀ {l' : List S72}, (b2 = true → l'.length ≤ 50) → (b2 = false → RTot HI c N l' a4 s4) → ∃ r a' s', Ev (fun k => spec_l1Cur_journalRecords.j3 k l' N c a3 s3 x y z) (r, a', s') ∧ r.length ≤ 50 ∧ 0 ≤ a' ∧ a' ≤ HI := by
      intro l' g1 g2
      cases b2 with
      | true =>
        refine ⟨l', a4, s4, ?_, g1 rfl, ha, hb⟩
        refine ev_up ?_
        simp only [spec_l1Cur_journalRecords.j3, jrRecord_eq, hok, Option.bind_some, Bool.false_eq_true, if_false, h4, if_true]
        exact Ev.now _
      | false =>
        obtain ⟨r, a', s', hev, h5, h6, h7⟩ := g2 rfl
        refine ⟨r, a', s', ?_, h5, h6, h7⟩
        refine ev_up ?_
        simp only [spec_l1Cur_journalRecords.j3, jrRecord_eq, hok, Option.bind_some, Bool.false_eq_true, if_false, h4]
        exact hev
    cases b with
    | true =>
      obtain ⟨r, a', s', hev, h5, h6, h7⟩ := end3 (l' := l ++ [⟨x, y, z⟩]) (fun _ => by simp; omega) (fun _ => hI4)
      refine ⟨r, a', s', start ?_, h5, h6, h7⟩
      refine ev_up ?_
      simp only [spec_l1Cur_journalRecords.j2, if_true, if_pos hlen]
      exact hev
    | false =>
      obtain ⟨r, a', s', hev, h5, h6, h7⟩ := end3 (l' := l) (fun _ => by omega) (fun _ => hT hok)
      refine ⟨r, a', s', start ?_, h5, h6, h7⟩
      refine ev_up ?_
      simp only [spec_l1Cur_journalRecords.j2, Bool.false_eq_true, if_false]
      exact hev
theorem recs_l0 (HI : Int) (hHI : HI ≤ 4611686018427000000) (c : List Int) (hc : ∀ x ∈ c, 0 ≤ x ∧ x ≤ 255) (hL : c.length ≤ 1048576) (N : Int) (hN : N ≤ 41) : ∀ (m : Nat) (l : List S72) (a s : Int), (l.length : Int) + m = N → 0 ≤ a → a + 562949953421312 * (m + 1 : Nat) ≤ HI → RTot HI c N l a s
  | 0, l, a, s, hl, h0, h1 => by
    refine ⟨l, a, s, ?_, by omega, h0, by omega⟩
    refine ev_up ?_
    simp only [spec_l1Cur_journalRecords.l0, if_neg (show ¬ (l.length : Int) < N by omega)]
    exact Ev.now _
  | m + 1, l, a, s, hl, h0, h1 => by
    have hlN : (l.length : Int) < N := by omega
    have IH : ∀ (x : S72) (a1 s1 : Int), a ≤ a1 → a1 ≤ a + 562949953421312 → RTot HI c N (l ++ [x]) a1 s1 := fun x a1 s1 g1 g2 =>
      recs_l0 HI hHI c hc hL N hN m (l ++ [x]) a1 s1 (by simp; omega) (by omega) (by omega)
    have p48 : (2 : Nat) ^ 48 = 281474976710656 := by decide
    -- behind the end of the code, a good record ahead
    have ready : ∀ (a2 s2 : Int), (c.length : Int) ≤ a2 → a ≤ a2 → a2 + 20 ≤ a + 562949953421312 → 3 ≤ lV (it 6 s2) % 40 → RTot HI c N l a2 s2 := by
      intro a2 s2 hf g1 g2 hg
      obtain ⟨x, y, z, e, he, hrec, hok⟩ := record_far c a2 s2 hf (by omega)
      have he7 : e ≤ 7 := by omega
      obtain ⟨b, h3⟩ := one_far c (a2 + e) (it e s2) 4 (by omega) (by omega) (by decide) (by decide)
      obtain ⟨b2, h4⟩ := one_far c (a2 + e + 1) (lF (it e s2)) 8 (by omega) (by omega) (by decide) (by decide)
      exact rec_step hlN hN hrec h3 h4 (by omega) (by omega) (IH _ _ _ (by omega) (by omega)) (IH _ _ _ (by omega) (by omega)) (fun hn => by rw [hok hg] at hn; cases hn)
    have far : ∀ (n : Nat) (a2 s2 : Int), (c.length : Int) ≤ a2 → a ≤ a2 → a2 + n + 40 ≤ a + 562949953421312 → good9 s2 n → RTot HI c N l a2 s2 := by
      intro n
      induction n using Nat.strongRecOn with
      | _ n ih =>
        intro a2 s2 hf g1 g2 hg
        by_cases hn0 : n = 0
        · subst hn0
          exact ready a2 s2 hf g1 (by omega) (by have := hg 0 (by decide); simpa using this)
        · obtain ⟨x, y, z, e, he, hrec, hok⟩ := record_far c a2 s2 hf (by omega)
          have he7 : e ≤ 7 := by omega
          have he6 : 6 ≤ e := by omega
          obtain ⟨b, h3⟩ := one_far c (a2 + e) (it e s2) 4 (by omega) (by omega) (by decide) (by decide)
          obtain ⟨b2, h4⟩ := one_far c (a2 + e + 1) (lF (it e s2)) 8 (by omega) (by omega) (by decide) (by decide)
          have hs : lF (lF (it e s2)) = it (e + 2) s2 := by rw [← it_succ', ← it_succ']
          refine rec_step hlN hN hrec h3 h4 (by omega) (by omega) (IH _ _ _ (by omega) (by omega)) (IH _ _ _ (by omega) (by omega)) (fun _ => ?_)
          rw [hs]
          by_cases hen : e + 2 ≤ n
          · exact ih (n - (e + 2)) (by omega) _ _ (by omega) (by omega) (by omega) (good9_step hg hen)
          · exact ready _ _ (by omega) (by omega) (by omega) (good9_now hg (by omega) (by omega))
    -- within the code
    have near : ∀ (d : Nat) (a2 s2 : Int), (c.length : Int) ≤ a2 + d → a ≤ a2 → a2 ≤ a + 20971520 - 20 * d → RTot HI c N l a2 s2 := by
      intro d
      induction d with
      | zero =>
        intro a2 s2 hf g1 g2
        obtain ⟨n, hn, hg⟩ := reach9 s2
        exact far n a2 s2 (by omega) g1 (by omega) hg
      | succ d ih =>
        intro a2 s2 hf g1 g2
        by_cases hfar : (c.length : Int) ≤ a2
        · obtain ⟨n, hn, hg⟩ := reach9 s2
          exact far n a2 s2 hfar g1 (by omega) hg
        · obtain ⟨x, y, z, a1, s1, hrec, k1, k2⟩ := record_tot c hc a2 s2 (by omega) (by omega)
          obtain ⟨b, a3, s3, h3, q1, q2⟩ := one_tot c hc a1 s1 4 (by omega) (by omega) (by decide) (by decide)
          obtain ⟨b2, a4, s4, h4, q3, q4⟩ := one_tot c hc a3 s3 8 (by omega) (by omega) (by decide) (by decide)
          refine rec_step hlN hN hrec h3 h4 (by omega) (by omega) (IH _ _ _ (by omega) (by omega)) (IH _ _ _ (by omega) (by omega)) (fun _ => ?_)
          exact ih a4 s4 (by omega) (by omega) (by omega)
    exact near c.length a s (by omega) (by omega) (by omega)
theorem recs_totH (HI : Int) (hHI : HI ≤ 4611686018427000000) (c : List Int) (hc : ∀ x ∈ c, 0 ≤ x ∧ x ≤ 255) (hL : c.length ≤ 1048576) (a s : Int) (h0 : 0 ≤ a) (h1 : a + 100000000000000000 ≤ HI) : ∃ r a' s', Ev (fun k => spec_l1Cur_journalRecords.f k c a s) (r, a', s') ∧ r.length ≤ 50 ∧ 0 ≤ a' ∧ a' ≤ HI := by
  obtain ⟨n, a1, s1, e1, n0, n1, g1, g2⟩ := pick_tot c hc a s 9 h0 (by omega) (by decide) (by decide)
  obtain ⟨b, a2, s2, e2, k1, k2⟩ := one_tot c hc a1 s1 16 (by omega) (by omega) (by decide) (by decide)
  have j0 : ∀ (N a3 s3 : Int), 0 ≤ N → N ≤ 41 → 0 ≤ a3 → a3 ≤ a + 10 → ∃ r a' s', Ev (fun k => spec_l1Cur_journalRecords.j0 k [] N c a3 s3) (r, a', s') ∧ r.length ≤ 50 ∧ 0 ≤ a' ∧ a' ≤ HI := by
    intro N a3 s3 hN0 hN h3 h4
    obtain ⟨r, a', s', hev, q⟩ := recs_l0 HI hHI c hc hL N hN N.toNat [] a3 s3 (by simp; omega) h3 (by omega)
    refine ⟨r, a', s', ?_, q⟩
    refine ev_up ?_
    simp only [spec_l1Cur_journalRecords.j0]
    exact hev
  unfold spec_l1Cur_journalRecords.f
  simp only [e1, Option.bind_some, e2]
  cases b with
  | true =>
    obtain ⟨q, a3, s3, e3, q0, q1, m1, m2⟩ := pick_tot c hc a2 s2 2 (by omega) (by omega) (by decide) (by decide)
    simp only [if_true, e3, Option.bind_some]
    rw [wrap_id (x := 40 + q) (by omega) (by omega)]
    exact j0 (40 + q) a3 s3 (by omega) (by omega) (by omega) (by omega)
  | false =>
    simp only [Bool.false_eq_true, if_false]
    exact j0 n a2 s2 (by omega) (by omega) (by omega) (by omega)
theorem recs_tot (c : List Int) (hc : ∀ x ∈ c, 0 ≤ x ∧ x ≤ 255) (hL : c.length ≤ 1048576) (a s : Int) (h0 : 0 ≤ a) (h1 : a ≤ 1000000) : ∃ r a' s', Ev (fun k => spec_l1Cur_journalRecords.f k c a s) (r, a', s') ∧ r.length ≤ 50 ∧ 0 ≤ a' ∧ a' ≤ 1152921504606846976 :=
  recs_totH 1152921504606846976 (by decide) c hc hL a s h0 (by omega)
theorem numbers_l0 (c : List Int) (N a s : Int) (hN : N ≤ 201) : ∀ (m : Nat) (l : List Int), (l.length : Int) + m = max N l.length → Ev (fun k => spec_l1Cur_numbers.l0 k l N c a s) (l ++ List.replicate m 1, a, s)
  | 0, l, h => by
    refine ev_up ?_
    simp only [spec_l1Cur_numbers.l0, if_neg (show ¬ (l.length : Int) < N by omega), List.replicate_zero, List.append_nil]
    exact Ev.now _
  | m + 1, l, h => by
    refine ev_up ?_
    simp only [spec_l1Cur_numbers.l0, if_pos (show (l.length : Int) < N by omega), if_pos (show l.length < 17592186044416 by omega)]
    exact ev_eq (numbers_l0 c N a s hN m (l ++ [1]) (by simp; omega)) (by rw [List.append_assoc]; rfl)
theorem numbers_tot (c : List Int) (hc : ∀ x ∈ c, 0 ≤ x ∧ x ≤ 255) (hL : c.length ≤ 1048576) : ∃ r a' s', Ev (fun k => spec_l1Cur_numbers.f k c 0 0) (r, a', s') ∧ r.length ≤ 600 ∧ 0 ≤ a' ∧ a' ≤ 2305843009213693952 := by
  obtain ⟨R, a1, s1, e1, hR, h0, h1⟩ := recs_tot c hc hL 0 0 (by decide) (by decide)
  have j1 : ∀ (l : List Int) (q : Int) (b : Bool) (a s : Int), l.length ≤ 250 → 0 ≤ a → a ≤ 2305843009213693000 → ∃ r a' s', Ev (fun k => spec_l1Cur_numbers.j1 k l q b c a s) (r, a', s') ∧ r.length ≤ 600 ∧ 0 ≤ a' ∧ a' ≤ 2305843009213693952 := by
    intro l q b a s hl g0 g1
    cases b with
    | true =>
      obtain ⟨r, a2, s2, e2, k0, k1, k2, k3⟩ := pick_tot c hc a s (l.length + 1) g0 (by omega) (by omega) (by omega)
      refine ⟨l.take r.toNat, a2, s2, ?_, by rw [List.length_take]; omega, by omega, by omega⟩
      refine ev_up ?_
      simp only [spec_l1Cur_numbers.j1, if_true, wrap_id (x := (l.length : Int) + 1) (by omega) (by omega), e2, Option.bind_some, if_pos k0, if_pos (show r ≤ (l.length : Int) by omega)]
      exact Ev.now _
    | false =>
      by_cases q2 : q = 2
      · by_cases hpos : (l.length : Int) > 0
        · obtain ⟨r, a2, s2, e2, k0, k1, k2, k3⟩ := pick_tot c hc a s l.length g0 (by omega) (by omega) (by omega)
          obtain ⟨r3, a3, s3, e3, m0, m1, m2, m3⟩ := pick_tot c hc a2 s2 1000 (by omega) (by omega) (by decide) (by decide)
          obtain ⟨r4, a4, s4, e4, _, n2, n3⟩ := among_tot c hc a3 s3 [0, 1, 2, r3, 9999] (by omega) (by omega) (by simp) (by simp)
          refine ⟨l.set r.toNat r4, a4, s4, ?_, by rw [List.length_set]; omega, by omega, by omega⟩
          refine ev_up ?_
          simp only [spec_l1Cur_numbers.j1, Bool.false_eq_true, if_false, if_pos q2, if_pos hpos, e2, Option.bind_some, e3, e4, if_pos k0, if_pos k1]
          exact Ev.now _
        · refine ⟨l, a, s, ?_, by omega, by omega, by omega⟩
          refine ev_up ?_
          simp only [spec_l1Cur_numbers.j1, Bool.false_eq_true, if_false, if_pos q2, if_neg hpos]
          exact Ev.now _
      · by_cases q3 : q = 3
        · by_cases hlt : (l.length : Int) < 200
          · obtain ⟨r, a2, s2, e2, k0, k1, k2, k3⟩ := pick_tot c hc a s 3 g0 (by omega) (by decide) (by decide)
            refine ⟨l ++ [r], a2, s2, ?_, by simp; omega, by omega, by omega⟩
            refine ev_up ?_
            simp only [spec_l1Cur_numbers.j1, Bool.false_eq_true, if_false, if_neg q2, if_pos q3, if_pos hlt, e2, Option.bind_some, if_pos (show l.length < 17592186044416 by omega)]
            exact Ev.now _
          · refine ⟨l, a, s, ?_, by omega, by omega, by omega⟩
            refine ev_up ?_
            simp only [spec_l1Cur_numbers.j1, Bool.false_eq_true, if_false, if_neg q2, if_pos q3, if_neg hlt]
            exact Ev.now _
        · by_cases q4 : q = 4
          · obtain ⟨r, a2, s2, e2, k0, k1, k2, k3⟩ := pick_tot c hc a s 8 g0 (by omega) (by decide) (by decide)
            by_cases r0 : r = 0
            · obtain ⟨t, a3, s3, e3, m0, m1, m2, m3⟩ := pick_tot c hc a2 s2 2 (by omega) (by omega) (by decide) (by decide)
              have hl0 := numbers_l0 c (200 + t) a3 s3 (by omega) (max (200 + t) l.length - l.length).toNat l (by omega)
              refine ⟨l ++ List.replicate (max (200 + t) l.length - l.length).toNat 1, a3, s3, ?_, ?_, by omega, by omega⟩
              · refine ev_up ?_
                simp only [spec_l1Cur_numbers.j1, Bool.false_eq_true, if_false, if_neg q2, if_neg q3, if_pos q4, e2, Option.bind_some, if_pos r0, e3, wrap_id (x := 200 + t) (by omega) (by omega)]
                exact hl0
              · rw [List.length_append, List.length_replicate]; omega
            · by_cases r1 : r = 1
              · obtain ⟨t, a3, s3, e3, _, m2, m3⟩ := among_tot c hc a2 s2 [(-1), 10000] (by omega) (by omega) (by decide) (by decide)
                refine ⟨l ++ [t], a3, s3, ?_, by simp; omega, by omega, by omega⟩
                refine ev_up ?_
                simp only [spec_l1Cur_numbers.j1, Bool.false_eq_true, if_false, if_neg q2, if_neg q3, if_pos q4, e2, Option.bind_some, if_neg r0, if_pos r1, e3, if_pos (show l.length < 17592186044416 by omega)]
                exact Ev.now _
              · refine ⟨l, a2, s2, ?_, by omega, by omega, by omega⟩
                refine ev_up ?_
                simp only [spec_l1Cur_numbers.j1, Bool.false_eq_true, if_false, if_neg q2, if_neg q3, if_pos q4, e2, Option.bind_some, if_neg r0, if_neg r1]
                exact Ev.now _
          · refine ⟨l, a, s, ?_, by omega, by omega, by omega⟩
            refine ev_up ?_
            simp only [spec_l1Cur_numbers.j1, Bool.false_eq_true, if_false, if_neg q2, if_neg q3, if_neg q4]
            exact Ev.now _
  have j0 : ∀ (x : List S72), x.length ≤ 50 → ∃ r a' s', Ev (fun k => spec_l1Cur_numbers.j0 k x c a1 s1) (r, a', s') ∧ r.length ≤ 600 ∧ 0 ≤ a' ∧ a' ≤ 2305843009213693952 := by
    intro x hx
    obtain ⟨q, a2, s2, e2, k0, k1, k2, k3⟩ := pick_tot c hc a1 s1 6 (by omega) (by omega) (by decide) (by decide)
    have hj : ∀ b, ∃ r a' s', Ev (fun k => spec_l1Cur_numbers.j1 k (numsFrom 0 x) q b c a2 s2) (r, a', s') ∧ r.length ≤ 600 ∧ 0 ≤ a' ∧ a' ≤ 2305843009213693952 := fun b => j1 _ q b a2 s2 (by rw [numsFrom_len]; omega) (by omega) (by omega)
    by_cases hq : q = 0
    · obtain ⟨r, a', s', hev, g⟩ := hj (q == 0)
      refine ⟨r, a', s', ?_, g⟩
      refine ev_up ?_
      simp only [spec_l1Cur_numbers.j0]
      refine ev_bind (spec_jrAll_ev x (by omega)) ?_
      simp only [e2, Option.bind_some, if_pos hq]
      exact hev
    · obtain ⟨r, a', s', hev, g⟩ := hj (q == 1)
      refine ⟨r, a', s', ?_, g⟩
      refine ev_up ?_
      simp only [spec_l1Cur_numbers.j0]
      refine ev_bind (spec_jrAll_ev x (by omega)) ?_
      simp only [e2, Option.bind_some, if_neg hq]
      exact hev
  unfold spec_l1Cur_numbers.f
  cases hg : goodRecs R with
  | true =>
    obtain ⟨r, a', s', hev, g⟩ := j0 R hR
    refine ⟨r, a', s', ?_, g⟩
    refine ev_bind e1 ?_
    refine ev_bind (ev_eq (spec_jrGood_ev R (by omega)) hg) ?_
    simp only [if_true]
    exact hev
  | false =>
    obtain ⟨r, a', s', hev, g⟩ := j0 [⟨1, 2, 5⟩] (by decide)
    refine ⟨r, a', s', ?_, g⟩
    refine ev_bind e1 ?_
    refine ev_bind (ev_eq (spec_jrGood_ev R (by omega)) hg) ?_
    simp only [Bool.false_eq_true, if_false]
    exact hev
theorem pSame_l0 : ∀ (q p : List S72), (p ++ q).length < 9223372036854775807 → Ev (fun k => laws_pSameRecords.l0 k (p ++ q) (p ++ q) ((p ++ q).length : Int) (p.length : Int)) true
  | [], p, h => by
    refine ev_up ?_
    simp only [laws_pSameRecords.l0, mid_end, ↓reduceIte]
    exact Ev.now _
  | x :: q, p, h => by
    have hp : p.length < 9223372036854775807 := by simp only [List.length_append, List.length_cons] at h; omega
    refine ev_up ?_
    simp only [laws_pSameRecords.l0, mid_lt, mid_ge, wrap_mid p x hp, ↓reduceIte, beq_self_eq_true, Bool.not_true, Bool.or_self, Bool.false_eq_true]
    rw [step_mid p q x] at h ⊢
    exact pSame_l0 q (p ++ [x]) h
theorem pSame_ev (l : List S72) (h : l.length < 9223372036854775807) : Ev (fun k => laws_pSameRecords.f k l l) true := by
  simp only [laws_pSameRecords.f, ↓reduceIte]
  simpa using pSame_l0 l [] (by simpa using h)
theorem good_sub {l l' : List Int} (h : goodNums l = true) (hm : ∀ x ∈ l', x ∈ l) (hl : l'.length ≤ l.length) : goodNums l' = true := by
  unfold goodNums at h ⊢
  simp only [Bool.and_eq_true, List.all_eq_true, decide_eq_true_eq] at h ⊢
  exact ⟨fun x hx => h.1 x (hm x hx), by omega⟩
/-- What is recovered of a beginning is a beginning of what is recovered. -/
theorem recFrom_take : ∀ (m : Nat) (q : List Int) (n i : Nat), q.length ≤ m → (recFrom i q).take (recFrom i (q.take n)).length = recFrom i (q.take n) ∧ (recFrom i (q.take n)).length ≤ (recFrom i q).length ∧ 5 * (recFrom i (q.take n)).length ≤ (q.take n).length
  | m, q, n, i, hm => by
    by_cases hq : (q.take n).length < 5
    · rw [recFrom_short i hq]; simp
    · rw [List.length_take] at hq
      obtain ⟨a, b, c, d, e, r, rfl⟩ := five (show ¬ q.length < 5 by omega)
      obtain ⟨n', rfl⟩ : ∃ n', n = n' + 5 := ⟨n - 5, by simp at hq; omega⟩
      simp only [List.take_succ_cons]
      match m, hm with
      | 0, hm => simp at hm
      | m + 1, hm =>
        simp only [recFrom]
        split
        · obtain ⟨h1, h2, h3⟩ := recFrom_take m r n' (i + 1) (by simp at hm; omega)
          refine ⟨by simp only [List.length_cons, List.take_succ_cons, h1], by simp only [List.length_cons]; omega, by simp only [List.length_cons]; omega⟩
        · simp
/-- A changed number leaves the records before it. -/
theorem recFrom_set : ∀ (m : Nat) (q : List Int) (n i : Nat) (v : Int), q.length ≤ m → (recFrom i (q.set n v)).take (n / 5) = (recFrom i q).take (n / 5) ∧ (n / 5 ≤ (recFrom i q).length → n / 5 ≤ (recFrom i (q.set n v)).length)
  | m, q, n, i, v, hm => by
    by_cases hn : n < 5
    · rw [Nat.div_eq_of_lt hn]; simp
    · by_cases hq : q.length < 5
      · rw [recFrom_short i hq, recFrom_short i (by rw [List.length_set]; exact hq)]; simp
      · obtain ⟨a, b, c, d, e, r, rfl⟩ := five hq
        obtain ⟨n', rfl⟩ : ∃ n', n = n' + 5 := ⟨n - 5, by omega⟩
        have hdiv : (n' + 5) / 5 = n' / 5 + 1 := by omega
        simp only [List.set_cons_succ]
        match m, hm with
        | 0, hm => simp at hm
        | m + 1, hm =>
          simp only [recFrom, hdiv]
          split
          · obtain ⟨h1, h2⟩ := recFrom_set m r n' (i + 1) v (by simp at hm; omega)
            refine ⟨by simp only [List.take_succ_cons, h1], fun h => ?_⟩
            simp only [List.length_cons] at h ⊢
            have := h2 (by omega)
            omega
          · simp
theorem drawAppend_l1 (x5 : List Int) (N : Int) (hN : N ≤ 60) : ∀ (m : Nat) (l : List S72), (l.length : Int) + m = max N l.length → l.length ≤ 60 → ∃ r, Ev (fun k => spec_DrawAppendCommit.l1 k x5 l N) (x5, r) ∧ r.length ≤ 60
  | 0, l, h, hl => by
    refine ⟨l, ?_, hl⟩
    refine ev_up ?_
    simp only [spec_DrawAppendCommit.l1, if_neg (show ¬ (l.length : Int) < N by omega)]
    exact Ev.now _
  | m + 1, l, h, hl => by
    obtain ⟨r, hr, h2⟩ := drawAppend_l1 x5 N hN m (l ++ [⟨1, 1, (l.length : Int)⟩]) (by simp; omega) (by simp; omega)
    refine ⟨r, ?_, h2⟩
    refine ev_up ?_
    simp only [spec_DrawAppendCommit.l1, if_pos (show (l.length : Int) < N by omega), if_pos (show l.length < 5864062014805 by omega)]
    exact hr
theorem drawAppend_l0 (c : List Int) (hc : ∀ x ∈ c, 0 ≤ x ∧ x ≤ 255) (x5 : List Int) (h5 : x5.length ≤ 600) : ∀ (q p : List S72) (l : List S72) (a s : Int), (p ++ q).length ≤ 50 → l.length ≤ p.length → 0 ≤ a → a + 2 * q.length ≤ 4611686018427300000 → ∃ r, Ev (fun k => spec_DrawAppendCommit.l0 k x5 l (p ++ q) ((p ++ q).length : Int) (p.length : Int) c a s) (x5, r) ∧ r.length ≤ 60
  | [], p, l, a, s, h, hl, h0, h1 => by
    obtain ⟨b, a1, s1, e1, g1, g2⟩ := one_tot c hc a s 12 h0 (by simp at h1; omega) (by decide) (by decide)
    have h1' : a ≤ 4611686018427300000 := by simp at h1; exact h1
    have j1 : ∀ n : Int, 0 ≤ n → n ≤ 40 → ∃ r, Ev (fun k => spec_DrawAppendCommit.j1 k x5 [] n c a1 s1) (x5, r) ∧ r.length ≤ 60 := by
      intro n n0 n1
      obtain ⟨t, a2, s2, e2, k0, k1, _, _⟩ := pick_tot c hc a1 s1 2 (by omega) (by omega) (by decide) (by decide)
      have hm : ∃ m, spec_l1Most.f 0 (wrap64 (39 - n)) = some m ∧ 0 ≤ m ∧ m ≤ 39 := by
        rw [wrap_id (x := 39 - n) (by omega) (by omega)]
        unfold spec_l1Most.f
        split
        · exact ⟨0, rfl, by omega, by omega⟩
        · exact ⟨_, rfl, by omega, by omega⟩
      obtain ⟨m, em, m0, m1⟩ := hm
      obtain ⟨r, hr, h2⟩ := drawAppend_l1 x5 (m + t) (by omega) (m + t).toNat [] (by simp only [List.length_nil]; omega) (by simp)
      refine ⟨r, ?_, h2⟩
      refine ev_up ?_
      simp only [spec_DrawAppendCommit.j1, em, Option.bind_some, e2, wrap_id (x := m + t) (by omega) (by omega)]
      exact hr
    cases b with
    | false =>
      refine ⟨l, ?_, by simp at h; omega⟩
      refine ev_up ?_
      simp only [spec_DrawAppendCommit.l0, mid_end, if_false, e1, Option.bind_some, Bool.false_eq_true]
      exact Ev.now _
    | true =>
      cases hg : goodNums x5 with
      | true =>
        have hcl : (committed (recovered x5)).length ≤ 40 := Nat.le_trans (committed_len _) (recovered_len _)
        obtain ⟨r, hr, h2⟩ := j1 ((committed (recovered x5)).length : Int) (by omega) (by omega)
        refine ⟨r, ?_, h2⟩
        refine ev_up ?_
        simp only [spec_DrawAppendCommit.l0, mid_end, if_false, e1, Option.bind_some, if_true]
        refine ev_bind (ev_eq (spec_jrList_ev x5 (by omega)) hg) ?_
        simp only [if_true]
        refine ev_bind (spec_jrRecover_ev x5 (by omega)) ?_
        refine ev_bind (spec_jrCommitted_ev (recovered x5) (by have := recovered_len x5; omega)) ?_
        exact hr
      | false =>
        obtain ⟨r, hr, h2⟩ := j1 0 (by decide) (by decide)
        refine ⟨r, ?_, h2⟩
        refine ev_up ?_
        simp only [spec_DrawAppendCommit.l0, mid_end, if_false, e1, Option.bind_some, if_true]
        refine ev_bind (ev_eq (spec_jrList_ev x5 (by omega)) hg) ?_
        simp only [Bool.false_eq_true, if_false]
        exact hr
  | x :: q, p, l, a, s, h, hl, h0, h1 => by
    have hp : p.length < 9223372036854775807 := by simp only [List.length_append, List.length_cons] at h; omega
    have hlen : ((x :: q).length : Int) = q.length + 1 := by simp
    have hpl : p.length ≤ 50 := by simp only [List.length_append] at h; omega
    obtain ⟨b, a1, s1, e1, g1, g2⟩ := one_tot c hc a s 12 h0 (by omega) (by decide) (by decide)
    have hrd : rd_T72 (p ++ x :: q) (p.length : Int) = x := getD_mid p q x _
    have go : ∀ (l' : List S72) (a' s' : Int), l'.length ≤ p.length + 1 → 0 ≤ a' → a' ≤ a + 2 → ∃ r, Ev (fun k => spec_DrawAppendCommit.l0 k x5 l' (p ++ x :: q) ((p ++ x :: q).length : Int) ((p.length : Int) + 1) c a' s') (x5, r) ∧ r.length ≤ 60 := by
      intro l' a' s' h2 h3 h4
      have := drawAppend_l0 c hc x5 h5 q (p ++ [x]) l' a' s' (by simpa using h) (by simp; omega) h3 (by omega)
      simpa using this
    have wp : wrap64 ((p.length : Int) + 1) = (p.length : Int) + 1 := wrap_id (by omega) (by omega)
    by_cases hk : x.f0 = 2
    · cases b with
      | true =>
        obtain ⟨r, hr, h2⟩ := go (l ++ [⟨x.f0, x.f1, x.f2⟩]) a1 s1 (by simp; omega) (by omega) (by omega)
        refine ⟨r, ?_, h2⟩
        refine ev_up ?_
        simp only [spec_DrawAppendCommit.l0, mid_lt, mid_ge, if_true, hrd, if_pos hk, e1, Option.bind_some, if_pos (show l.length < 5864062014805 by omega), wp]
        exact hr
      | false =>
        obtain ⟨r, hr, h2⟩ := go l a1 s1 (by omega) (by omega) (by omega)
        refine ⟨r, ?_, h2⟩
        refine ev_up ?_
        simp only [spec_DrawAppendCommit.l0, mid_lt, mid_ge, if_true, hrd, if_pos hk, e1, Option.bind_some, Bool.false_eq_true, if_false, wp]
        exact hr
    · obtain ⟨r, hr, h2⟩ := go (l ++ [⟨x.f0, x.f1, x.f2⟩]) a s (by simp; omega) h0 (by omega)
      refine ⟨r, ?_, h2⟩
      refine ev_up ?_
      simp only [spec_DrawAppendCommit.l0, mid_lt, mid_ge, if_true, hrd, if_neg hk, if_pos (show l.length < 5864062014805 by omega), wp]
      exact hr
theorem drawAppend_tot (c : List Int) (hc : ∀ x ∈ c, 0 ≤ x ∧ x ≤ 255) (hL : c.length ≤ 1048576) : ∃ x r, Ev (fun k => spec_DrawAppendCommit.f k c) (x, r) ∧ x.length ≤ 600 ∧ r.length ≤ 60 := by
  obtain ⟨X, a1, s1, e1, hX, g0, g1⟩ := numbers_tot c hc hL
  obtain ⟨R, a2, s2, e2, hR, k0, k1⟩ := recs_totH 4611686018427000000 (by decide) c hc hL a1 s1 g0 (by omega)
  obtain ⟨r, hr, h2⟩ := drawAppend_l0 c hc X hX R [] [] a2 s2 (by simpa using hR) (by simp) k0 (by omega)
  refine ⟨X, r, ?_, hX, h2⟩
  unfold spec_DrawAppendCommit.f
  refine ev_bind e1 ?_
  refine ev_bind e2 ?_
  simpa using hr
theorem okRec_bounds {r : S72} (h : okRec r = true) : (r.f0 = 1 ∨ r.f0 = 2) ∧ 0 ≤ r.f1 ∧ r.f1 ≤ 7 ∧ 0 ≤ r.f2 ∧ r.f2 ≤ 999 := by
  unfold okRec at h
  simp only [decide_eq_true_eq] at h
  omega
/-- What was written is recovered. -/
theorem recFrom_nums : ∀ (l : List S72) (i : Nat), i + l.length ≤ 40 → (∀ r ∈ l, okRec r = true) → recFrom i (numsFrom i l) = l
  | [], i, _, _ => rfl
  | x :: q, i, h, hok => by
    have hx := hok x (List.mem_cons_self ..)
    have ih := recFrom_nums q (i + 1) (by simp at h; omega) (fun r hr => hok r (List.mem_cons_of_mem _ hr))
    simp only [numsFrom]
    show recFrom i (x.f0 :: x.f1 :: x.f2 :: (i : Int) :: Int.tmod _ 997 :: numsFrom (i + 1) q) = x :: q
    simp only [recFrom]
    rw [if_pos ⟨by simp at h; omega, hx, rfl⟩, ih]
theorem recovered_nums {l : List S72} (h : goodRecs l = true) : recovered (numsFrom 0 l) = l := recFrom_nums l 0 (by have := good_len h; omega) (good_ok h)
theorem nums_range : ∀ (l : List S72) (i : Nat), i + l.length ≤ 40 → (∀ r ∈ l, okRec r = true) → ∀ z ∈ numsFrom i l, 0 ≤ z ∧ z ≤ 9999
  | [], i, _, _, z, hz => by simp [numsFrom] at hz
  | x :: q, i, h, hok, z, hz => by
    have hx := okRec_bounds (hok x (List.mem_cons_self ..))
    have hi : (i : Int) ≤ 40 := by simp at h; omega
    simp only [numsFrom, List.mem_append] at hz
    rcases hz with hz | hz
    · simp only [recNums, List.mem_cons, List.not_mem_nil, or_false] at hz
      have w1 : wrap64 (3 * x.f0) = 3 * x.f0 := wrap_id (by omega) (by omega)
      have w2 : wrap64 (5 * x.f1) = 5 * x.f1 := wrap_id (by omega) (by omega)
      have w3 : wrap64 (7 * x.f2) = 7 * x.f2 := wrap_id (by omega) (by omega)
      have w4 : wrap64 (11 * (i : Int)) = 11 * (i : Int) := wrap_id (by omega) (by omega)
      have w5 : wrap64 (3 * x.f0 + 5 * x.f1) = 3 * x.f0 + 5 * x.f1 := wrap_id (by omega) (by omega)
      have w6 : wrap64 (3 * x.f0 + 5 * x.f1 + 7 * x.f2) = 3 * x.f0 + 5 * x.f1 + 7 * x.f2 := wrap_id (by omega) (by omega)
      have w7 : wrap64 (3 * x.f0 + 5 * x.f1 + 7 * x.f2 + 11 * (i : Int)) = 3 * x.f0 + 5 * x.f1 + 7 * x.f2 + 11 * (i : Int) := wrap_id (by omega) (by omega)
      rw [w1, w2, w3, w4, w5, w6, w7, wrap_id (x := 3 * x.f0 + 5 * x.f1 + 7 * x.f2 + 11 * (i : Int) + 13) (by omega) (by omega), Int.tmod_eq_emod_of_nonneg (by omega)] at hz
      omega
    · exact nums_range q (i + 1) (by simp at h; omega) (fun r hr => hok r (List.mem_cons_of_mem _ hr)) z hz
theorem goodNums_nums {l : List S72} (h : goodRecs l = true) : goodNums (numsFrom 0 l) = true := by
  unfold goodNums
  simp only [Bool.and_eq_true, List.all_eq_true, decide_eq_true_eq]
  exact ⟨nums_range l 0 (by have := good_len h; omega) (good_ok h), by rw [numsFrom_len]; have := good_len h; omega⟩
theorem endOf_spec : ∀ (q : List S72) (i e : Nat), (endOf i e q = e ∧ ∀ r ∈ q, r.f0 ≠ 2) ∨ ∃ p x, (∃ t, q = p ++ x :: t) ∧ x.f0 = 2 ∧ endOf i e q = i + p.length + 1
  | [], i, e => .inl ⟨rfl, fun r hr => by cases hr⟩
  | x :: q, i, e => by
    simp only [endOf]
    rcases endOf_spec q (i + 1) (if x.f0 = 2 then i + 1 else e) with ⟨h1, h2⟩ | ⟨p, y, ⟨t, rfl⟩, hy, h1⟩
    · by_cases hx : x.f0 = 2
      · right
        exact ⟨[], x, ⟨q, rfl⟩, hx, by rw [h1, if_pos hx]; rfl⟩
      · left
        refine ⟨by rw [h1, if_neg hx], fun r hr => ?_⟩
        rcases List.mem_cons.1 hr with rfl | hr
        · exact hx
        · exact h2 r hr
    · right
      exact ⟨x :: p, y, ⟨t, rfl⟩, hy, by rw [h1]; simp only [List.length_cons]; omega⟩
/-- The committed part ends with a commit. -/
theorem committed_end (l : List S72) : committed l = [] ∨ ∃ p x, committed l = p ++ [x] ∧ x.f0 = 2 := by
  rcases endOf_spec l 0 0 with ⟨h1, _⟩ | ⟨p, x, ⟨t, rfl⟩, hx, h1⟩
  · left; unfold committed; rw [h1]; rfl
  · right
    refine ⟨p, x, ?_, hx⟩
    unfold committed
    rw [h1, Nat.zero_add, List.take_append, List.take_of_length_le (by omega), Nat.add_sub_cancel_left]
    rfl
theorem committed_snoc (p : List S72) (x : S72) (hx : x.f0 = 2) : committed (p ++ [x]) = p ++ [x] := by
  unfold committed
  rw [endOf_snoc, if_pos hx, List.take_of_length_le (by simp)]
theorem committed_twice (l : List S72) : committed (committed l) = committed l := by
  rcases committed_end l with h | ⟨p, x, h, hx⟩
  · rw [h]; rfl
  · rw [h, committed_snoc p x hx]
theorem good_mem {l l' : List S72} (h : goodRecs l = true) (hm : ∀ x ∈ l', x ∈ l) (hl : l'.length ≤ l.length) : goodRecs l' = true := by
  unfold goodRecs at h ⊢
  simp only [Bool.and_eq_true, List.all_eq_true, decide_eq_true_eq] at h ⊢
  exact ⟨fun x hx => h.1 x (hm x hx), by omega⟩
theorem values_committed (l : List S72) : values (committed l) = values l := by unfold values; rw [committed_twice]
/-- The values are -1 or those of records. -/
theorem setAll_range : ∀ (q : List S72) (v : List Int), (∀ r ∈ q, okRec r = true) → (∀ z ∈ v, -1 ≤ z ∧ z ≤ 999) → ∀ z ∈ setAll v q, -1 ≤ z ∧ z ≤ 999
  | [], v, _, hv => hv
  | x :: q, v, hok, hv => by
    have hx := okRec_bounds (hok x (List.mem_cons_self ..))
    simp only [setAll]
    refine setAll_range q _ (fun r hr => hok r (List.mem_cons_of_mem _ hr)) ?_
    split
    · intro z hz
      rcases List.mem_or_eq_of_mem_set hz with hz | rfl
      · exact hv z hz
      · omega
    · exact hv
theorem values_range {l : List S72} (h : goodRecs l = true) : ∀ z ∈ values l, -1 ≤ z ∧ z ≤ 999 :=
  setAll_range _ _ (fun r hr => good_ok h r (committed_mem l r hr)) (fun z hz => by rw [List.eq_of_mem_replicate hz]; omega)
/-- Setting what a compact journal says gives the values back. -/
theorem setAll_compact : ∀ (q p : List Int), (∀ z ∈ q, -1 ≤ z ∧ z ≤ 999) → setAll (p ++ List.replicate q.length (-1)) (compactFrom p.length q) = p ++ q
  | [], p, _ => by simp [compactFrom, setAll]
  | v :: q, p, h => by
    have hv := h v (List.mem_cons_self ..)
    have ih := setAll_compact q (p ++ [v]) (fun z hz => h z (List.mem_cons_of_mem _ hz))
    simp only [List.length_append, List.length_cons, List.length_nil, Nat.zero_add, List.append_assoc, List.cons_append, List.nil_append] at ih
    simp only [compactFrom, List.length_cons, List.replicate_succ]
    by_cases hp : v ≥ 0
    · rw [if_pos hp]
      simp only [setAll, if_true]
      rw [show ((p.length : Int)).toNat = p.length by omega, List.set_append_right _ _ (Nat.le_refl _), Nat.sub_self, List.set_cons_zero]
      exact ih
    · have : v = -1 := by omega
      subst this
      rw [if_neg hp]
      exact ih
theorem compact_ok : ∀ (q : List Int) (i : Nat), i + q.length ≤ 8 → (∀ z ∈ q, -1 ≤ z ∧ z ≤ 999) → ∀ r ∈ compactFrom i q, okRec r = true
  | [], i, _, _, r, hr => by simp [compactFrom] at hr
  | v :: q, i, h, hq, r, hr => by
    have hv := hq v (List.mem_cons_self ..)
    simp only [List.length_cons] at h
    simp only [compactFrom] at hr
    have rest := compact_ok q (i + 1) (by omega) (fun z hz => hq z (List.mem_cons_of_mem _ hz)) r
    split at hr
    · rename_i hp
      rcases List.mem_cons.1 hr with rfl | hr
      · unfold okRec; simp only [decide_eq_true_eq]; simp only [true_and]; omega
      · exact rest hr
    · exact rest hr
theorem setAll_snoc : ∀ (q : List S72) (v : List Int) (x : S72), x.f0 ≠ 1 → setAll v (q ++ [x]) = setAll v q
  | [], v, x, h => by simp [setAll, h]
  | y :: q, v, x, h => by simp only [List.cons_append, setAll]; exact setAll_snoc q _ x h
/-- A compact journal has the same values, and is short. -/
theorem compact_facts {l : List S72} (h : goodRecs l = true) : goodRecs (closeJ (compactFrom 0 (values l))).1 = true ∧ values (closeJ (compactFrom 0 (values l))).1 = values l ∧ (closeJ (compactFrom 0 (values l))).1.length ≤ 9 := by
  have hr := values_range h
  have hlen := values_len l
  have hc := compactFrom_len (values l) 0
  have hok := compact_ok (values l) 0 (by omega) hr
  have hset := setAll_compact (values l) [] hr
  simp only [List.nil_append, List.length_nil, hlen] at hset
  unfold closeJ
  split
  · rename_i hpos
    refine ⟨?_, ?_, by simp; omega⟩
    · unfold goodRecs
      simp only [Bool.and_eq_true, List.all_eq_true, decide_eq_true_eq]
      refine ⟨fun r hr => ?_, by simp; omega⟩
      rcases List.mem_append.1 hr with hr | hr
      · exact hok r hr
      · rw [List.mem_singleton.1 hr]; exact okCommit
    · show setAll (List.replicate 8 (-1)) (committed (compactFrom 0 (values l) ++ [⟨2, 0, 0⟩])) = values l
      rw [committed_snoc _ _ rfl, setAll_snoc _ _ _ (by decide)]
      exact hset
  · rename_i hpos
    have he : compactFrom 0 (values l) = [] := List.length_eq_zero_iff.1 (by omega)
    rw [he] at hset ⊢
    exact ⟨by decide, hset, by simp⟩
theorem numsFrom_at : ∀ (p : List S72) (x : S72) (q : List S72) (i : Nat), ((numsFrom i (p ++ x :: q)).take (5 * p.length + 5)).drop (5 * p.length) = recNums x (i + p.length : Nat)
  | [], x, q, i => by
    simp only [List.nil_append, numsFrom, List.length_nil, Nat.mul_zero, Nat.zero_add, List.drop_zero, Nat.add_zero]
    rw [List.take_append_of_le_length (by rw [recNums_len]; exact Nat.le_refl 5), List.take_of_length_le (by rw [recNums_len]; exact Nat.le_refl 5)]
  | y :: p, x, q, i => by
    have ih := numsFrom_at p x q (i + 1)
    simp only [List.cons_append, numsFrom, List.length_cons]
    rw [show 5 * (p.length + 1) + 5 = 5 + (5 * p.length + 5) by omega, show 5 * (p.length + 1) = 5 + 5 * p.length by omega]
    rw [List.take_append, recNums_len, Nat.add_sub_cancel_left, List.take_of_length_le (by rw [recNums_len]; omega), List.drop_append, recNums_len, Nat.add_sub_cancel_left, List.drop_of_length_le (by rw [recNums_len]; omega), List.nil_append, ih]
    congr 1
    omega
def rRecNumJ (a b c n : Int) : List Int × Bool := if okRec ⟨a, b, c⟩ = true ∧ 0 ≤ n ∧ n ≤ 39 then (recNums ⟨a, b, c⟩ n, true) else ([], false)
theorem implJ_RecordNumbers_eq (a b c n : Int) : impl_RecordNumbers.f a b c n = some (rRecNumJ a b c n) := by
  unfold rRecNumJ
  simp only [impl_RecordNumbers.f, IsJournalRecord_eq, recordNumbers_eq, Option.bind_some]
  cases okRec ⟨a, b, c⟩
  · simp
  · by_cases h0 : n < 0
    · have : ¬ 0 ≤ n := by omega
      simp [h0, this]
    · by_cases h1 : n ≥ 40
      · have : ¬ n ≤ 39 := by omega
        simp [h0, h1, this]
      · have h2 : 0 ≤ n := by omega
        have h3 : n ≤ 39 := by omega
        simp [h0, h1, h2, h3]
def cmR : S72 := ⟨2, 0, 0⟩
theorem FnJournal_j4 (X : List Int) (O R B : List S72) (n : Int) (hX : X.length ≤ 600) (hO : O.length ≤ 40) (hgA : goodRecs (B ++ R ++ [cmR]) = true) (eO : rRecoverRecords X = (O, n, true)) (eP : rCommittedPart O = (B, true)) : Ev (fun k => laws_FnJournal.j4 k X R (numsFrom 0 (B ++ R ++ [cmR])) true) true := by
  have h40 := good_len hgA
  have hA := recovered_nums hgA
  have hgN := goodNums_nums hgA
  have hlen3 : ((B ++ R ++ [cmR]).length : Int) = B.length + R.length + 1 := by simp only [List.length_append, List.length_cons, List.length_nil]; omega
  have hNl : (numsFrom 0 (B ++ R ++ [cmR])).length ≤ 200 := by rw [numsFrom_len]; omega
  have eQ : rRecoverRecords (numsFrom 0 (B ++ R ++ [cmR])) = (B ++ R ++ [cmR], wrap64 (5 * ((B ++ R ++ [cmR]).length : Int)), true) := by
    unfold rRecoverRecords; rw [if_pos hgN, hA]
  have w1 : wrap64 ((B.length : Int) + (R.length : Int)) = (B.length : Int) + R.length := wrap_id (by omega) (by omega)
  have w2 : wrap64 ((B.length : Int) + (R.length : Int) + 1) = (B.length : Int) + R.length + 1 := wrap_id (by omega) (by omega)
  have t1 : (B ++ R ++ [cmR]).take ((B.length : Int)).toNat = B := by
    rw [Int.toNat_natCast, List.append_assoc]; exact List.take_left
  have t2 : ((B ++ R ++ [cmR]).take ((B.length : Int) + (R.length : Int)).toNat).drop ((B.length : Int)).toNat = R := by
    have e1 : ((B.length : Int) + (R.length : Int)).toNat = (B ++ R).length := by rw [List.length_append]; omega
    rw [e1, Int.toNat_natCast, List.take_left]; exact List.drop_left
  have g1 : (0 : Int) ≤ (B.length : Int) := by omega
  have g2 : (B.length : Int) ≤ ((B ++ R ++ [cmR]).length : Int) := by omega
  have g3 : (B.length : Int) ≤ (B.length : Int) + (R.length : Int) := by omega
  have g4 : (B.length : Int) + (R.length : Int) ≤ ((B ++ R ++ [cmR]).length : Int) := by omega
  generalize hA' : B ++ R ++ [cmR] = A at *
  generalize numsFrom 0 A = NA at *
  refine ev_up ?_
  simp only [laws_FnJournal.j4, if_true]
  refine ev_bind (ev_eq (spec_RecoverRecords_ev X (by omega)) eO) ?_
  refine ev_bind (ev_eq (spec_CommittedPart_ev O (by omega)) eP) ?_
  refine ev_bind (ev_eq (impl_RecoverRecords_ev NA (by omega)) eQ) ?_
  refine ev_bind (ev_eq (spec_RecoverRecords_ev NA (by omega)) eQ) ?_
  simp only [if_true]
  refine ev_bind (pSame_ev A (by omega)) ?_
  simp only [if_true, w1, w2, if_pos hlen3, if_pos g1, if_pos g2, t1]
  refine ev_bind (pSame_ev B (by omega)) ?_
  simp only [if_true, if_pos g3, if_pos g4, t2]
  refine ev_bind (pSame_ev R (by omega)) ?_
  simp only [if_true]
  exact Ev.now _
theorem FnJournal_j3 (x : List Int) (hx : ∀ z ∈ x, 0 ≤ z ∧ z ≤ 255) (hL : x.length ≤ 1048576) : Ev (fun k => laws_FnJournal.j3 k x) true := by
  obtain ⟨X, R, d1, hX, hR⟩ := drawAppend_tot x hx hL
  have hlen : (rAppendCommit X R).1.length ≤ 10000000 := rAppendCommit_len X R
  have fin : Ev (fun k => laws_FnJournal.j4 k X R (rAppendCommit X R).1 (rAppendCommit X R).2) true := by
    by_cases hok : goodNums X = true ∧ goodRecs R = true ∧ (R.all fun r => decide (r.f0 = 1)) = true ∧ (committed (recovered X) ++ R ++ [cmR]).length ≤ 40
    · obtain ⟨hg, hgR, hall, h40⟩ := hok
      have hr : rAppendCommit X R = (numsFrom 0 (committed (recovered X) ++ R ++ [cmR]), true) := by
        unfold rAppendCommit appendV finishA
        rw [if_pos ⟨hg, hgR⟩, if_pos hall]
        exact if_pos h40
      have hgA : goodRecs (committed (recovered X) ++ R ++ [cmR]) = true := by
        unfold goodRecs
        simp only [Bool.and_eq_true, List.all_eq_true, decide_eq_true_eq]
        refine ⟨fun r hr => ?_, h40⟩
        rcases List.mem_append.1 hr with hr | hr
        · rcases List.mem_append.1 hr with hr | hr
          · exact recovered_ok X r (committed_mem _ r hr)
          · exact good_ok hgR r hr
        · rw [List.mem_singleton.1 hr]; exact okCommit
      have eO : rRecoverRecords X = (recovered X, wrap64 (5 * ((recovered X).length : Int)), true) := by unfold rRecoverRecords; rw [if_pos hg]
      have hgr : goodRecs (recovered X) = true := by
        unfold goodRecs
        simp only [Bool.and_eq_true, List.all_eq_true, decide_eq_true_eq]
        exact ⟨recovered_ok X, recovered_len X⟩
      have eP : rCommittedPart (recovered X) = (committed (recovered X), true) := by unfold rCommittedPart; rw [if_pos hgr]
      rw [hr]
      exact FnJournal_j4 X (recovered X) R (committed (recovered X)) _ hX (recovered_len X) hgA eO eP
    · have hr : rAppendCommit X R = ([], false) := by
        unfold rAppendCommit appendV finishA
        by_cases h1 : goodNums X = true ∧ goodRecs R = true
        · rw [if_pos h1]
          by_cases h2 : (R.all fun r => decide (r.f0 = 1)) = true
          · rw [if_pos h2]
            exact if_neg (fun h3 => hok ⟨h1.1, h1.2, h2, h3⟩)
          · rw [if_neg h2]
        · rw [if_neg h1]
      rw [hr]
      refine ev_up ?_
      simp only [laws_FnJournal.j4, Bool.false_eq_true, if_false]
      exact Ev.now _
  refine ev_up ?_
  simp only [laws_FnJournal.j3]
  refine ev_bind d1 ?_
  refine ev_bind (impl_AppendCommit_ev X R (by omega) (by omega)) ?_
  refine ev_bind (spec_AppendCommit_ev X R (by omega) (by omega)) ?_
  simp only [↓reduceIte]
  refine ev_bind (same_ev _ (by omega)) ?_
  simp only [if_true]
  exact fin
theorem FnJournal_l0 (x1 : List Int) (R : List S72) (h : goodRecs R = true) (hj : Ev (fun k => laws_FnJournal.j3 k x1) true) : ∀ (q p : List S72), p ++ q = R → Ev (fun k => laws_FnJournal.l0 k x1 R (numsFrom 0 R) (p ++ q) ((p ++ q).length : Int) (p.length : Int)) true
  | [], p, hpq => by
    have hl := good_len h
    have hlost : rLostAfterCut R ((numsFrom 0 R).length : Int) = (0, true) := by
      unfold rLostAfterCut
      rw [if_pos ⟨h, by omega, by rw [numsFrom_len]; omega⟩]
      have hm : (mn ((numsFrom 0 R).length : Int) ((numsFrom 0 R).length : Int)).toNat = (numsFrom 0 R).length := by unfold mn; split <;> omega
      have cz : ∀ a : List Int, cntNe a a = 0 := by
        intro a; induction a with
        | nil => rfl
        | cons x a ih => simp [cntNe, ih]
      rw [hm, List.take_length, recovered_nums h, cz]; rfl
    refine ev_up ?_
    simp only [laws_FnJournal.l0, mid_end, if_false]
    refine ev_bind (ev_eq (impl_LostAfterCut_ev R _ (by omega)) hlost) ?_
    simp only [if_true]
    exact hj
  | x :: q, p, hpq => by
    have hl := good_len h
    have hplen : p.length + (q.length + 1) = R.length := by rw [← hpq]; simp
    have hp : p.length < 9223372036854775807 := by omega
    have hrd : rd_T72 (p ++ x :: q) (p.length : Int) = x := getD_mid p q x _
    have hx := good_ok h x (by rw [← hpq]; simp)
    have hN : (numsFrom 0 R).length = 5 * R.length := numsFrom_len R 0
    have hr : rRecNumJ x.f0 x.f1 x.f2 (p.length : Int) = (recNums x (p.length : Nat), true) := by
      unfold rRecNumJ
      rw [if_pos ⟨hx, by omega, by omega⟩]
    have w1 : wrap64 (5 * (p.length : Int)) = 5 * (p.length : Int) := wrap_id (by omega) (by omega)
    have w2 : wrap64 (5 * (p.length : Int) + 5) = 5 * (p.length : Int) + 5 := wrap_id (by omega) (by omega)
    have hat : ((numsFrom 0 R).take (5 * (p.length : Int) + 5).toNat).drop (5 * (p.length : Int)).toNat = recNums x (p.length : Nat) := by
      have := numsFrom_at p x q 0
      rw [hpq, Nat.zero_add] at this
      rw [show (5 * (p.length : Int) + 5).toNat = 5 * p.length + 5 by omega, show (5 * (p.length : Int)).toNat = 5 * p.length by omega]
      exact this
    have ih := FnJournal_l0 x1 R h hj q (p ++ [x]) (by simpa using hpq)
    refine ev_up ?_
    simp only [laws_FnJournal.l0, mid_lt, mid_ge, if_true, hrd, implJ_RecordNumbers_eq, hr, Option.bind_some, w1, w2, if_pos (show (0 : Int) ≤ 5 * (p.length : Int) by omega), if_pos (show 5 * (p.length : Int) ≤ 5 * (p.length : Int) + 5 by omega), if_pos (show 5 * (p.length : Int) + 5 ≤ ((numsFrom 0 R).length : Int) by omega), hat]
    refine ev_bind (same_ev _ (by rw [recNums_len]; decide)) ?_
    simp only [if_true, IsJournalRecord_eq, hx, Option.bind_some, wrap_mid p x hp]
    rw [step_mid p q x]
    exact ih
theorem FnJournal_ev (l0 l1 : List Int) (h0 : ∀ x ∈ l0, 0 ≤ x ∧ x ≤ 255) (h1 : ∀ x ∈ l1, 0 ≤ x ∧ x ≤ 255) : Ev (fun k => laws_FnJournal.f k l0 l1) true := by
  by_cases hbig : laws_big.f l0 l1 = some true
  · unfold laws_FnJournal.f
    simp only [hbig, Option.bind_some, if_true]
    exact Ev.now _
  · have hb : laws_big.f l0 l1 = some false ∧ l0.length ≤ 1048576 ∧ l1.length ≤ 1048576 := by
      unfold laws_big.f at hbig ⊢
      split at hbig
      · exact (hbig rfl).elim
      · rename_i hl
        rw [if_neg hl]
        rw [wrap_id (by omega) (by omega)] at hbig ⊢
        have : ¬ (l1.length : Int) > 1048576 - (l0.length : Int) := fun h => hbig (by simp only [decide_eq_true h])
        exact ⟨by simp only [decide_eq_false this], by omega, by omega⟩
    obtain ⟨hb, hL0, hL1⟩ := hb
    have j3 := FnJournal_j3 l1 h1 hL1
    obtain ⟨R, a1, s1, e1, hR, g0, g1⟩ := recs_tot l0 h0 hL0 0 0 (by decide) (by decide)
    have d1 : Ev (fun k => spec_DrawCompactJournal.f k l0) R := by
      unfold spec_DrawCompactJournal.f
      refine ev_bind (a := R) ?_ (Ev.now _)
      unfold spec_DrawJournalNumbers.f
      refine ev_bind e1 ?_
      exact Ev.now _
    have hRl : R.length ≤ 1048576 := by omega
    have c2 : (rCompactJournal R).2 = goodRecs R := by unfold rCompactJournal closeJ; cases goodRecs R <;> simp <;> split <;> rfl
    have v2 : (rCommittedValues R).2 = goodRecs R := by unfold rCommittedValues; cases goodRecs R <;> rfl
    have p2 : (rCommittedPart R).2 = goodRecs R := by unfold rCommittedPart; cases goodRecs R <;> rfl
    have j2 : (rJournalNumbers R).2 = goodRecs R := by unfold rJournalNumbers; cases goodRecs R <;> rfl
    unfold laws_FnJournal.f
    simp only [hb, Option.bind_some, Bool.false_eq_true, if_false]
    refine ev_bind d1 ?_
    refine ev_bind (impl_CompactJournal_ev R hRl) ?_
    refine ev_bind (spec_CompactJournal_ev R hRl) ?_
    simp only [↓reduceIte]
    refine ev_bind (impl_CommittedValues_ev R hRl) ?_
    refine ev_bind (spec_CommittedValues_ev R hRl) ?_
    simp only [↓reduceIte]
    refine ev_bind (impl_CommittedPart_ev R hRl) ?_
    refine ev_bind (spec_CommittedPart_ev R hRl) ?_
    simp only [↓reduceIte]
    refine ev_bind (impl_JournalNumbers_ev R hRl) ?_
    refine ev_bind (spec_JournalNumbers_ev R hRl) ?_
    simp only [↓reduceIte]
    refine ev_bind (pSame_ev _ (by have := rCompactJournal_len R hRl; omega)) ?_
    simp only [if_true]
    refine ev_bind (same_ev _ (by have := rCommittedValues_len R hRl; omega)) ?_
    simp only [if_true]
    refine ev_bind (pSame_ev _ (by have := rCommittedPart_len R hRl; omega)) ?_
    simp only [if_true]
    refine ev_bind (same_ev _ (by have := rJournalNumbers_len R hRl; omega)) ?_
    simp only [if_true, c2, v2, p2, j2]
    refine ev_up ?_
    cases hg : goodRecs R with
    | false =>
      simp only [laws_FnJournal.j0, Bool.false_eq_true, if_false]
      exact j3
    | true =>
      obtain ⟨f1, f2, f3⟩ := compact_facts hg
      have ec : (rCompactJournal R).1 = (closeJ (compactFrom 0 (values R))).1 := by unfold rCompactJournal; rw [if_pos hg]
      have ev : (rCommittedValues R).1 = values R := by unfold rCommittedValues; rw [if_pos hg]
      have ep : (rCommittedPart R).1 = committed R := by unfold rCommittedPart; rw [if_pos hg]
      have ej : (rJournalNumbers R).1 = numsFrom 0 R := by unfold rJournalNumbers; rw [if_pos hg]
      rw [ec, ev, ep, ej]
      generalize (closeJ (compactFrom 0 (values R))).1 = CJ at f1 f2 f3
      have hl40 := good_len hg
      have hcl := committed_len R
      have hgC := good_mem hg (committed_mem R) hcl
      have e1 : rCommittedValues CJ = (values R, true) := by unfold rCommittedValues; rw [if_pos f1, f2]
      have e2 : rCommittedValues (committed R) = (values R, true) := by unfold rCommittedValues; rw [if_pos hgC, values_committed]
      have hN : (numsFrom 0 R).length = 5 * R.length := numsFrom_len R 0
      have e3 : rRecoverRecords (numsFrom 0 R) = (R, wrap64 (5 * (R.length : Int)), true) := by unfold rRecoverRecords; rw [if_pos (goodNums_nums hg), recovered_nums hg]
      have w5 : wrap64 (5 * (R.length : Int)) = 5 * (R.length : Int) := wrap_id (by omega) (by omega)
      have hv8 := values_len R
      have j1 : Ev (fun k => laws_FnJournal.j1 k l1 R (committed R) (numsFrom 0 R)) true := by
        have htk : R.take ((committed R).length : Int).toNat = committed R := by
          rw [Int.toNat_natCast]
          unfold committed
          rw [List.length_take, List.take_eq_take_iff]
          omega
        refine ev_up ?_
        simp only [laws_FnJournal.j1, if_pos (show (0 : Int) ≤ ((committed R).length : Int) by omega), if_pos (show ((committed R).length : Int) ≤ (R.length : Int) by omega), htk]
        refine ev_bind (pSame_ev _ (by omega)) ?_
        simp only [if_true]
        have := FnJournal_l0 l1 R hg j3 R [] rfl
        simpa using this
      simp only [laws_FnJournal.j0, if_true]
      refine ev_bind (ev_eq (impl_CommittedValues_ev CJ (by omega)) e1) ?_
      refine ev_bind (ev_eq (impl_CommittedValues_ev (committed R) (by omega)) e2) ?_
      refine ev_bind (ev_eq (impl_RecoverRecords_ev (numsFrom 0 R) (by omega)) e3) ?_
      simp only [if_true]
      refine ev_bind (same_ev _ (by omega)) ?_
      simp only [if_true]
      refine ev_bind (same_ev _ (by omega)) ?_
      simp only [if_true]
      refine ev_bind (pSame_ev _ (by omega)) ?_
      simp only [if_true, w5, if_pos (show 5 * (R.length : Int) = ((numsFrom 0 R).length : Int) by omega), if_pos (show ((numsFrom 0 R).length : Int) = 5 * (R.length : Int) by omega), if_neg (show ¬ (9 : Int) < (CJ.length : Int) by omega)]
      rcases committed_end R with hc | ⟨p, x, hc, hx⟩
      · simp only [hc, List.length_nil, if_neg (show ¬ (0 : Int) < ((0 : Nat) : Int) by decide)]
        rw [hc] at j1
        exact j1
      · have hcp : ((committed R).length : Int) = p.length + 1 := by rw [hc]; simp
        have wl : wrap64 (((committed R).length : Int) - 1) = (p.length : Int) := by rw [hcp, wrap_id (by omega) (by omega)]; omega
        have hlast : (rd_T72 (committed R) (p.length : Int)).f0 = 2 := by
          have : rd_T72 (committed R) (p.length : Int) = x := by rw [hc]; exact getD_mid p [] x _
          rw [this]; exact hx
        simp only [wl, if_pos (show (0 : Int) < ((committed R).length : Int) by omega), if_pos (show (0 : Int) ≤ (p.length : Int) by omega), if_pos (show (p.length : Int) < ((committed R).length : Int) by omega), if_pos hlast]
        exact j1

end Go.Proofs.Ythhoobpmjgpkkaa.Pure
