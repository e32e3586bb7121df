/- The law FnExactAppendCommit of plain lists and numbers: whatever the input, it answers true. Condition: the lengths are those of rows that fit a machine. -/
import Derived.Test.YtojblklecncjnaaF13
namespace Go.Proofs.Ytojblklecncjnaa.Pure
open Go.RowKit Go.Proofs.Ytojblklecncjnaa.Pall Go.Proofs.YtojblklecncjnaaW.PrintWords Go.Proofs.YtojblklecncjnaaW.PrintLast Go.Proofs.YtojblklecncjnaaW.PrintMore
set_option linter.unusedVariables false
set_option linter.unusedSimpArgs false

/-! ### Ground: rounds, and a row seen as what is behind and what is ahead -/
theorem ev_up {α : Type} {g : Nat → Option α} {r : α} (h : Ev (fun k => g (k + 1)) r) : Ev g r := by
  obtain ⟨K, hK⟩ := h
  refine ⟨K + 1, fun k hk => ?_⟩
  obtain ⟨m, rfl⟩ : ∃ m, k = m + 1 := ⟨k - 1, by omega⟩
  exact hK m (by omega)
theorem ev_eq {α : Type} {g : Nat → Option α} {r r' : α} (h : Ev g r) (e : r = r') : Ev g r' := e ▸ h
theorem ev_bind {α β : Type} {g : Nat → Option α} {f : Nat → α → Option β} {a : α} {r : β} (h : Ev g a) (k : Ev (fun n => f n a) r) : Ev (fun n => (g n).bind (f n)) r := Ev.bind h k
theorem mid_lt {α : Type} (p q : List α) (x : α) : ((p.length : Int) < ((p ++ x :: q).length : Int)) = True := by
  apply eq_true; simp only [List.length_append, List.length_cons]; omega
theorem mid_lt2 {α β : Type} (p : List α) (p' q : List β) (x : β) (h : p.length = p'.length) : ((p.length : Int) < ((p' ++ x :: q).length : Int)) = True := by
  apply eq_true; simp only [List.length_append, List.length_cons]; omega
theorem mid_ge {α : Type} (p : List α) : (0 ≤ (p.length : Int)) = True := by apply eq_true; omega
theorem mid_end {α : Type} (p : List α) : ((p.length : Int) < ((p ++ []).length : Int)) = False := by simp
theorem mid_lt_l {α : Type} (p : List α) (x : α) (q : List α) : ((p.length : Int) < (p.length : Int) + ((x :: q).length : Int)) = True := by
  apply eq_true; simp only [List.length_cons]; omega
theorem rd_mid (p q : List Int) (x : Int) : rd (p ++ x :: q) (p.length : Int) = x := by simp [rd]
theorem rd_mid2 {α : Type} (p : List α) (p' q : List Int) (x : Int) (h : p.length = p'.length) : rd (p' ++ x :: q) (p.length : Int) = x := by simp [rd, h]
theorem getD_mid {α : Type} (p q : List α) (x z : α) : (p ++ x :: q).getD ((p.length : Int)).toNat z = x := by simp
theorem getD_mid2 {α β : Type} (p : List α) (p' q : List β) (x z : β) (h : p.length = p'.length) : (p' ++ x :: q).getD ((p.length : Int)).toNat z = x := by simp [h]
theorem set_mid {α : Type} (p q : List α) (x y : α) : (p ++ x :: q).set ((p.length : Int)).toNat y = p ++ y :: q := by simp
theorem set_mid2 {α β : Type} (p : List α) (p' q : List β) (x y : β) (h : p.length = p'.length) : (p' ++ x :: q).set ((p.length : Int)).toNat y = p' ++ y :: q := by simp [h]
theorem wrap_mid {α : Type} (p : List α) (x : α) (h : p.length < 9223372036854775807) : wrap64 ((p.length : Int) + 1) = ((p ++ [x]).length : Int) := by
  unfold wrap64; simp only [List.length_append, List.length_singleton]; omega
theorem step_mid {α : Type} (p q : List α) (x : α) : p ++ x :: q = (p ++ [x]) ++ q := by simp
theorem wrap_id {x : Int} (h0 : -9223372036854775808 ≤ x) (h1 : x ≤ 9223372036854775807) : wrap64 x = x := by unfold wrap64; omega
theorem wf_i64 {x : Int} (h : (Lit.int .i64 x).wf = true) : -9223372036854775808 ≤ x ∧ x ≤ 9223372036854775807 := by
  have h1 : IntKind.i64.min = -9223372036854775808 := by decide +kernel
  have h2 : IntKind.i64.max = 9223372036854775807 := by decide +kernel
  simp only [Lit.wf, h1, h2, Bool.and_eq_true, decide_eq_true_eq] at h
  omega
theorem laws_eqIntS_l0 : ∀ (q p : List Int), (p ++ q).length < 9223372036854775807 → Ev (fun k => laws_eqIntS.l0 k (p ++ q) (p ++ q) (p.length : Int)) true
  | [], p, h => by
    refine ev_up ?_
    simp only [laws_eqIntS.l0, mid_end, ↓reduceIte]
    exact Ev.now _
  | x :: q, p, h => by
    have hp : p.length < 9223372036854775807 := by simp only [List.length_append, List.length_cons] at h; omega
    refine ev_up ?_
    simp only [laws_eqIntS.l0, mid_lt, mid_ge, rd_mid, wrap_mid p x hp, ↓reduceIte]
    rw [step_mid p q x] at h ⊢
    exact laws_eqIntS_l0 q (p ++ [x]) h
theorem laws_eqIntS_ev (l : List Int) (h : l.length < 9223372036854775807) : Ev (fun k => laws_eqIntS.f k l l) true := by
  simp only [laws_eqIntS.f, ↓reduceIte]
  simpa using laws_eqIntS_l0 l [] (by simpa using h)
theorem laws_markIntS_l0 : ∀ (q p : List Int) (m : Int), (p ++ q).length < 1000000000000000 → 0 ≤ m → m + q.length ≤ 1000000000000000 → ∃ q', q'.length = q.length ∧ Ev (fun k => laws_markIntS.l0 k (p ++ q) m (p.length : Int)) (m + q.length, p ++ q') ∧ Ev (fun k => laws_heldIntS.l0 k (p ++ q') m (p.length : Int)) (m + q.length)
  | [], p, m, h, h0, h1 => by
    refine ⟨[], rfl, ev_up ?_, ev_up ?_⟩
    · simp only [laws_markIntS.l0, mid_end, ↓reduceIte]
      exact ev_eq (Ev.now _) (by simp)
    · simp only [laws_heldIntS.l0, mid_end, ↓reduceIte]
      exact ev_eq (Ev.now _) (by simp)
  | x :: q, p, m, h, h0, h1 => by
    have hp : p.length < 9223372036854775807 := by simp only [List.length_append, List.length_cons] at h; omega
    have hm : wrap64 (m + 1) = m + 1 := wrap_id (by omega) (by simp only [List.length_cons] at h1; omega)
    obtain ⟨q', hl, hA, hB⟩ := laws_markIntS_l0 q (p ++ [m]) (m + 1) (by simp only [List.length_append, List.length_cons, List.length_nil] at h ⊢; omega) (by omega) (by simp only [List.length_cons] at h1; omega)
    have e : (m + 1) + (q.length : Int) = m + ((x :: q).length : Int) := by simp only [List.length_cons]; omega
    rw [e] at hA hB
    refine ⟨m :: q', by simp [hl], ev_up ?_, ev_up ?_⟩
    · simp only [laws_markIntS.l0, mid_lt, mid_ge, set_mid, wrap_mid p m hp, hm, ↓reduceIte]
      rw [step_mid p q m, step_mid p q' m]
      exact hA
    · simp only [laws_heldIntS.l0, mid_lt, mid_ge, rd_mid, wrap_mid p m hp, hm, ↓reduceIte]
      rw [step_mid p q' m]
      exact hB
/-- What is marked is held, and anew so. -/
theorem laws_markIntS_ev (l : List Int) (m : Int) (h : l.length < 1000000000000000) (h0 : 0 ≤ m) (h1 : m + l.length ≤ 1000000000000000) : ∃ l', l'.length = l.length ∧ Ev (fun k => laws_markIntS.f k l m) (m + l.length, l') ∧ Ev (fun k => laws_heldIntS.f k l' m) (m + l.length) := by
  obtain ⟨q', hl, hA, hB⟩ := laws_markIntS_l0 l [] m (by simpa using h) h0 h1
  exact ⟨q', hl, by simpa [laws_markIntS.f] using hA, by simpa [laws_heldIntS.f] using hB⟩
theorem laws_toIntS_l0 : ∀ (q p : List Int), (p ++ q).length < 9223372036854775807 → Ev (fun k => laws_toIntS.l0 k (p ++ q) (p ++ List.replicate q.length 0) (p.length : Int)) (p ++ q)
  | [], p, h => by
    refine ev_up ?_
    simp only [laws_toIntS.l0, mid_end, ↓reduceIte]
    exact ev_eq (Ev.now _) (by simp)
  | x :: q, p, h => by
    have hp : p.length < 9223372036854775807 := by simp only [List.length_append, List.length_cons] at h; omega
    refine ev_up ?_
    simp only [laws_toIntS.l0, List.length_cons, List.replicate_succ, mid_lt, mid_ge, rd_mid, set_mid, wrap_mid p x hp, ↓reduceIte]
    rw [step_mid p q x] at h ⊢
    rw [step_mid p (List.replicate q.length 0) x]
    exact laws_toIntS_l0 q (p ++ [x]) h
theorem laws_toIntS_ev (l : List Int) (h : l.length ≤ 1048576) : Ev (fun k => laws_toIntS.f k l) l := by
  have h0 : (0 ≤ (l.length : Int)) = True := by apply eq_true; omega
  have h1 : (((l.length : Int) : Int).toNat ≤ 35184372088832) = True := by apply eq_true; omega
  simp only [laws_toIntS.f, h0, h1, ↓reduceIte]
  simpa using laws_toIntS_l0 l [] (by simp; omega)
theorem l1In_eq (a lo hi : Int) : spec_l1In.f a lo hi = some (decide (lo ≤ a ∧ a ≤ hi)) := by
  by_cases h : lo ≤ a <;> simp [spec_l1In.f, h]
theorem spec_l1All_l0 (lo hi : Int) : ∀ (q p : List Int), (p ++ q).length < 9223372036854775807 → Ev (fun k => spec_l1All.l0 k lo hi (p ++ q) ((p ++ q).length : Int) (p.length : Int)) (q.all fun x => decide (lo ≤ x ∧ x ≤ hi))
  | [], p, h => by
    refine ev_up ?_
    simp only [spec_l1All.l0, mid_end, ↓reduceIte]
    exact Ev.now _
  | x :: q, p, h => by
    have hp : p.length < 9223372036854775807 := by simp only [List.length_append, List.length_cons] at h; omega
    refine ev_up ?_
    simp only [spec_l1All.l0, l1In_eq, Option.bind_some, mid_lt, mid_ge, rd_mid, wrap_mid p x hp, ↓reduceIte, List.all_cons]
    cases decide (lo ≤ x ∧ x ≤ hi) with
    | false => simpa using Ev.now _
    | true =>
      simp only [↓reduceIte, Bool.true_and]
      rw [step_mid p q x] at h ⊢
      exact spec_l1All_l0 lo hi q (p ++ [x]) h
theorem spec_l1All_ev (l : List Int) (lo hi : Int) (h : l.length < 9223372036854775807) : Ev (fun k => spec_l1All.f k l lo hi) (l.all fun x => decide (lo ≤ x ∧ x ≤ hi)) := by
  simpa [spec_l1All.f] using spec_l1All_l0 lo hi l [] (by simpa using h)
theorem laws_markIntS_o : ∀ (q p : List Int) (m : Int), (p ++ q).length < 1000000000000000 → 0 ≤ m → m + q.length ≤ 1000000000000000 → ∃ q', Ev (fun k => laws_markIntS.l0 k (p ++ q) m (p.length : Int)) (m + q.length, q')
  | [], p, m, h, h0, h1 => by
    refine ⟨p, ev_up ?_⟩
    simp only [laws_markIntS.l0, mid_end, ↓reduceIte]
    exact ev_eq (Ev.now _) (by simp)
  | x :: q, p, m, h, h0, h1 => by
    have hp : p.length < 9223372036854775807 := by simp only [List.length_append, List.length_cons] at h; omega
    have hm : wrap64 (m + 1) = m + 1 := wrap_id (by omega) (by simp only [List.length_cons] at h1; omega)
    obtain ⟨q', hA⟩ := laws_markIntS_o q (p ++ [m]) (m + 1) (by simp only [List.length_append, List.length_cons, List.length_nil] at h ⊢; omega) (by omega) (by simp only [List.length_cons] at h1; omega)
    have e : (m + 1) + (q.length : Int) = m + ((x :: q).length : Int) := by simp only [List.length_cons]; omega
    rw [e] at hA
    refine ⟨q', ev_up ?_⟩
    simp only [laws_markIntS.l0, mid_lt, mid_ge, set_mid, wrap_mid p m hp, hm, ↓reduceIte]
    rw [step_mid p q m]
    exact hA
theorem laws_markIntS_only (l : List Int) (h : l.length < 100000000000000) : ∃ m' l', 0 ≤ m' ∧ Ev (fun k => laws_markIntS.f k l 1) (m', l') := by
  obtain ⟨q', hA⟩ := laws_markIntS_o l [] 1 (by simp; omega) (by omega) (by omega)
  exact ⟨1 + l.length, q', by omega, by simpa [laws_markIntS.f] using hA⟩
/-- A valid record. -/
def okRec (r : S25) : Bool := decide ((r.f0 = 1 ∧ 0 ≤ r.f1 ∧ r.f1 ≤ 7 ∧ 0 ≤ r.f2 ∧ r.f2 ≤ 999) ∨ (r.f0 = 2 ∧ r.f1 = 0 ∧ r.f2 = 0))
def goodRecs (l : List S25) : Bool := l.all okRec && decide (l.length ≤ 40)
def goodNums (l : List Int) : Bool := (l.all fun x => decide (0 ≤ x ∧ x ≤ 9999)) && decide (l.length ≤ 200)
theorem jrRecord_eq (a b c : Int) : spec_jrRecord.f a b c = some (okRec ⟨a, b, c⟩) := by
  simp only [spec_jrRecord.f, okRec, l1In_eq, Option.bind_some]
  repeat' split
  all_goals
    simp only [Option.some.injEq]
    rw [Bool.eq_iff_iff]
    simp_all
    try omega
theorem IsJournalRecord_eq (a b c : Int) : impl_IsJournalRecord.f a b c = some (okRec ⟨a, b, c⟩) := by
  simp only [impl_IsJournalRecord.f, okRec]
  repeat' split
  all_goals
    simp only [Option.some.injEq]
    rw [Bool.eq_iff_iff]
    simp_all
    try omega
theorem spec_jrGood_l0 (x0 : List S25) : ∀ (q p : List S25), (p ++ q).length < 9223372036854775807 → Ev (fun k => spec_jrGood.l0 k x0 (p ++ q) ((p ++ q).length : Int) (p.length : Int)) (q.all okRec && decide (x0.length ≤ 40))
  | [], p, h => by
    refine ev_up ?_
    simp only [spec_jrGood.l0, mid_end, ↓reduceIte]
    exact ev_eq (Ev.now _) (by simp; omega)
  | x :: q, p, h => by
    have hp : p.length < 9223372036854775807 := by simp only [List.length_append, List.length_cons] at h; omega
    refine ev_up ?_
    simp only [spec_jrGood.l0, jrRecord_eq, Option.bind_some, rd_T25, mid_lt, mid_ge, getD_mid, wrap_mid p x hp, ↓reduceIte, List.all_cons]
    cases okRec x with
    | false => simpa using Ev.now _
    | true =>
      simp only [↓reduceIte, Bool.true_and]
      rw [step_mid p q x] at h ⊢
      exact spec_jrGood_l0 x0 q (p ++ [x]) h
theorem spec_jrGood_ev (l : List S25) (h : l.length < 9223372036854775807) : Ev (fun k => spec_jrGood.f k l) (goodRecs l) := by
  simpa [spec_jrGood.f, goodRecs] using spec_jrGood_l0 l l [] (by simpa using h)
theorem impl_areRecords_l0 : ∀ (q p : List S25), (p ++ q).length < 9223372036854775807 → Ev (fun k => impl_areRecords.l0 k (p ++ q) ((p ++ q).length : Int) (p.length : Int)) (q.all okRec)
  | [], p, h => by
    refine ev_up ?_
    simp only [impl_areRecords.l0, mid_end, ↓reduceIte]
    exact ev_eq (Ev.now _) (by simp)
  | x :: q, p, h => by
    have hp : p.length < 9223372036854775807 := by simp only [List.length_append, List.length_cons] at h; omega
    refine ev_up ?_
    simp only [impl_areRecords.l0, IsJournalRecord_eq, Option.bind_some, rd_T25, mid_lt, mid_ge, getD_mid, wrap_mid p x hp, ↓reduceIte, List.all_cons]
    cases okRec x with
    | false => simpa using Ev.now _
    | true =>
      simp only [↓reduceIte, Bool.true_and]
      rw [step_mid p q x] at h ⊢
      exact impl_areRecords_l0 q (p ++ [x]) h
theorem impl_areRecords_ev (l : List S25) (h : l.length < 9223372036854775807) : Ev (fun k => impl_areRecords.f k l) (goodRecs l) := by
  unfold goodRecs
  by_cases hl : l.length ≤ 40
  · have : ¬ ((l.length : Int) > 40) := by omega
    simp only [impl_areRecords.f, this, ↓reduceIte, hl, decide_true, Bool.and_true]
    simpa using impl_areRecords_l0 l [] (by simpa using h)
  · have : ((l.length : Int) > 40) := by omega
    simp only [impl_areRecords.f, this, ↓reduceIte, hl, decide_false, Bool.and_false]
    exact Ev.now _
theorem spec_jrList_ev (l : List Int) (h : l.length < 9223372036854775807) : Ev (fun k => spec_jrList.f k l) (goodNums l) := by
  unfold goodNums
  by_cases hl : l.length ≤ 200
  · have : ((l.length : Int) ≤ 200) := by omega
    simp only [spec_jrList.f, this, ↓reduceIte, hl, decide_true, Bool.and_true]
    exact ev_bind (spec_l1All_ev l 0 9999 h) (Ev.now _)
  · have : ¬ ((l.length : Int) ≤ 200) := by omega
    simp only [spec_jrList.f, this, ↓reduceIte, hl, decide_false, Bool.and_false]
    exact Ev.now _
theorem impl_areNumbers_l0 : ∀ (q p : List Int), (p ++ q).length < 9223372036854775807 → Ev (fun k => impl_areNumbers.l0 k (p ++ q) ((p ++ q).length : Int) (p.length : Int)) (q.all fun x => decide (0 ≤ x ∧ x ≤ 9999))
  | [], p, h => by
    refine ev_up ?_
    simp only [impl_areNumbers.l0, mid_end, ↓reduceIte]
    exact ev_eq (Ev.now _) (by simp)
  | x :: q, p, h => by
    have hp : p.length < 9223372036854775807 := by simp only [List.length_append, List.length_cons] at h; omega
    refine ev_up ?_
    simp only [impl_areNumbers.l0, mid_lt, mid_ge, rd_mid, wrap_mid p x hp, ↓reduceIte, List.all_cons]
    by_cases h0 : x < 0
    · simp only [h0, ↓reduceIte]
      exact ev_eq (Ev.now _) (by have : ¬ 0 ≤ x := by omega
                                 simp [this])
    · by_cases h1 : x > 9999
      · simp only [h0, h1, ↓reduceIte]
        exact ev_eq (Ev.now _) (by have : ¬ x ≤ 9999 := by omega
                                   simp [this])
      · simp only [h0, h1, ↓reduceIte]
        have e : decide (0 ≤ x ∧ x ≤ 9999) = true := by rw [decide_eq_true_iff]; omega
        rw [e, Bool.true_and]
        rw [step_mid p q x] at h ⊢
        exact impl_areNumbers_l0 q (p ++ [x]) h
theorem impl_areNumbers_ev (l : List Int) (h : l.length < 9223372036854775807) : Ev (fun k => impl_areNumbers.f k l) (goodNums l) := by
  unfold goodNums
  by_cases hl : l.length ≤ 200
  · have : ¬ ((l.length : Int) > 200) := by omega
    simp only [impl_areNumbers.f, this, ↓reduceIte, hl, decide_true, Bool.and_true]
    simpa using impl_areNumbers_l0 l [] (by simpa using h)
  · have : ((l.length : Int) > 200) := by omega
    simp only [impl_areNumbers.f, this, ↓reduceIte, hl, decide_false, Bool.and_false]
    exact Ev.now _
/-- The end of the committed part: e so far, i records are behind. -/
def endOf : Nat → Nat → List S25 → Nat
  | _, e, [] => e
  | i, e, x :: q => endOf (i + 1) (if x.f0 = 2 then i + 1 else e) q
theorem endOf_le : ∀ (q : List S25) (i e : Nat), e ≤ i → e ≤ endOf i e q ∧ endOf i e q ≤ i + q.length
  | [], i, e, h => by simp [endOf, h]
  | x :: q, i, e, h => by
    simp only [endOf, List.length_cons]
    have := endOf_le q (i + 1) (if x.f0 = 2 then i + 1 else e) (by split <;> omega)
    split at this <;> rename_i hx <;> simp only [hx, ↓reduceIte] <;> omega
theorem endOf_snoc : ∀ (q : List S25) (x : S25) (i e : Nat), endOf i e (q ++ [x]) = if x.f0 = 2 then i + q.length + 1 else endOf i e q
  | [], x, i, e => by simp [endOf]
  | y :: q, x, i, e => by
    simp only [List.cons_append, endOf, endOf_snoc q x, List.length_cons]
    split <;> first | rfl | omega
def committed (l : List S25) : List S25 := l.take (endOf 0 0 l)
theorem committed_len (l : List S25) : (committed l).length ≤ l.length := by unfold committed; simp [List.length_take]; omega
theorem committed_mem (l : List S25) : ∀ x ∈ committed l, x ∈ l := fun _ h => List.mem_of_mem_take h
theorem spec_jrCommitted_l0 (x0 : List S25) (hx0 : x0.length < 5864062014805) : ∀ (q p : List S25) (e : Nat), (p ++ q).length ≤ x0.length → e ≤ p.length → Ev (fun k => spec_jrCommitted.l0 k x0 (e : Int) (p ++ q) ((p ++ q).length : Int) (p.length : Int)) (x0.take (endOf p.length e q))
  | [], p, e, h, he => by
    refine ev_up ?_
    have h2 : (0 ≤ (e : Int)) = True := by apply eq_true; omega
    have h3 : ((e : Int) ≤ (x0.length : Int)) = True := by apply eq_true; simp at h; omega
    have h4 : (([] : List S25).length + (x0.take ((e : Int)).toNat).length < 5864062014805) = True := by apply eq_true; simp [List.length_take]; omega
    simp only [spec_jrCommitted.l0, mid_end, ↓reduceIte, Option.bind_some, h2, h3, h4]
    exact ev_eq (Ev.now _) (by simp [endOf])
  | x :: q, p, e, h, he => by
    have hp : p.length < 9223372036854775807 := by simp only [List.length_append, List.length_cons] at h; omega
    refine ev_up ?_
    simp only [spec_jrCommitted.l0, rd_T25, mid_lt, mid_ge, getD_mid, wrap_mid p x hp, ↓reduceIte, endOf]
    rw [step_mid p q x] at h ⊢
    have hlen : (p ++ [x]).length = p.length + 1 := by simp
    by_cases hx : x.f0 = 2
    · simp only [hx, ↓reduceIte]
      have := spec_jrCommitted_l0 x0 hx0 q (p ++ [x]) (p.length + 1) h (by simp)
      rw [hlen] at this ⊢
      exact this
    · simp only [hx, ↓reduceIte]
      have := spec_jrCommitted_l0 x0 hx0 q (p ++ [x]) e h (by simp; omega)
      rw [hlen] at this ⊢
      exact this
theorem spec_jrCommitted_ev (l : List S25) (h : l.length < 5864062014805) : Ev (fun k => spec_jrCommitted.f k l) (committed l) := by
  simpa [spec_jrCommitted.f, committed] using spec_jrCommitted_l0 l h l [] 0 (by simp) (by simp)
theorem impl_committedPart_l0 : ∀ (n : Nat) (p q : List S25), p.length = n → (p ++ q).length < 5864062014805 → Ev (fun k => impl_committedPart.l0 k (p ++ q) (p.length : Int)) ((p ++ q).take (endOf 0 0 p))
  | 0, p, q, hn, h => by
    obtain rfl : p = [] := List.eq_nil_of_length_eq_zero hn
    refine ev_up ?_
    simp [impl_committedPart.l0]
    exact Ev.now _
  | n + 1, p, q, hn, h => by
    obtain ⟨p', x, rfl⟩ : ∃ p' x, p = p' ++ [x] := by
      rcases List.eq_nil_or_concat p with rfl | ⟨p', x, rfl⟩
      · simp at hn
      · exact ⟨p', x, by simp⟩
    have hn' : p'.length = n := by simpa using hn
    have e1 : p' ++ [x] ++ q = p' ++ x :: q := by simp
    have h1 : (((p' ++ [x]).length : Int) > 0) = True := by apply eq_true; simp only [List.length_append, List.length_singleton]; omega
    have h2 : wrap64 (((p' ++ [x]).length : Int) - 1) = (p'.length : Int) := by
      simp only [List.length_append, List.length_singleton] at h ⊢; unfold wrap64; omega
    have h3 : (0 ≤ ((p' ++ [x]).length : Int)) = True := by apply eq_true; omega
    have h4 : (((p' ++ [x]).length : Int) ≤ ((p' ++ x :: q).length : Int)) = True := by apply eq_true; simp only [List.length_append, List.length_cons, List.length_nil]; omega
    have h5 : (([] : List S25).length + ((p' ++ x :: q).take (((p' ++ [x]).length : Int)).toNat).length < 5864062014805) = True := by apply eq_true; rw [e1] at h; simp only [List.length_nil, List.length_take]; omega
    refine ev_up ?_
    rw [e1] at h ⊢
    simp only [impl_committedPart.l0, h1, h2, h3, h4, h5, rd_T25, mid_lt, mid_ge, getD_mid, ↓reduceIte, Option.bind_some, endOf_snoc]
    by_cases hx : x.f0 = 2
    · simp only [hx, ↓reduceIte]
      exact ev_eq (Ev.now _) (by simp)
    · simp only [hx, ↓reduceIte]
      exact impl_committedPart_l0 n p' (x :: q) hn' h
theorem impl_committedPart_ev (l : List S25) (h : l.length < 5864062014805) : Ev (fun k => impl_committedPart.f k l) (committed l) := by
  simpa [impl_committedPart.f, committed] using impl_committedPart_l0 l.length l [] rfl (by simpa using h)
/-- The numbers of record n. -/
def recNums (r : S25) (n : Int) : List Int := [r.f0, r.f1, r.f2, n, Int.tmod (wrap64 ((wrap64 ((wrap64 ((wrap64 ((wrap64 (3 * r.f0)) + (wrap64 (5 * r.f1)))) + (wrap64 (7 * r.f2)))) + (wrap64 (11 * n)))) + 13)) 997]
theorem recNums_len (r : S25) (n : Int) : (recNums r n).length = 5 := rfl
/-- The journal of records, from record i on. -/
def numsFrom : Nat → List S25 → List Int
  | _, [] => []
  | i, x :: q => recNums x i ++ numsFrom (i + 1) q
theorem numsFrom_len : ∀ (q : List S25) (i : Nat), (numsFrom i q).length = 5 * q.length
  | [], _ => rfl
  | x :: q, i => by simp only [numsFrom, List.length_append, recNums_len, numsFrom_len q, List.length_cons]; omega
theorem jrOf_eq (a b c n : Int) : spec_jrOf.f a b c n = some (recNums ⟨a, b, c⟩ n) := rfl
theorem recordNumbers_eq (a b c n : Int) : impl_recordNumbers.f a b c n = some (recNums ⟨a, b, c⟩ n) := rfl
theorem spec_jrAll_l0 : ∀ (q p : List S25) (acc : List Int), (p ++ q).length < 9223372036854775807 → acc.length + 5 * q.length < 17592186044416 → Ev (fun k => spec_jrAll.l0 k acc (p ++ q) ((p ++ q).length : Int) (p.length : Int)) (acc ++ numsFrom p.length q)
  | [], p, acc, h, ha => by
    refine ev_up ?_
    simp only [spec_jrAll.l0, mid_end, ↓reduceIte]
    exact ev_eq (Ev.now _) (by simp [numsFrom])
  | x :: q, p, acc, h, ha => by
    have hp : p.length < 9223372036854775807 := by simp only [List.length_append, List.length_cons] at h; omega
    have hr : (acc.length + (recNums x (p.length : Int)).length < 17592186044416) = True := by apply eq_true; simp only [recNums_len]; simp only [List.length_cons] at ha; omega
    refine ev_up ?_
    simp only [spec_jrAll.l0, jrOf_eq, Option.bind_some, rd_T25, mid_lt, mid_ge, getD_mid, wrap_mid p x hp, hr, ↓reduceIte, numsFrom]
    rw [step_mid p q x] at h ⊢
    have := spec_jrAll_l0 q (p ++ [x]) (acc ++ recNums x (p.length : Int)) h (by simp only [List.length_append, recNums_len, List.length_cons] at ha ⊢; omega)
    rw [List.append_assoc] at this
    simpa using this
theorem spec_jrAll_ev (l : List S25) (h : l.length < 1000000000000) : Ev (fun k => spec_jrAll.f k l) (numsFrom 0 l) := by
  simpa [spec_jrAll.f] using spec_jrAll_l0 l [] [] (by simp; omega) (by simp; omega)
theorem impl_journalNumbers_l0 : ∀ (q p : List S25) (acc : List Int), (p ++ q).length < 9223372036854775807 → acc.length + 5 * q.length < 17592186044416 → Ev (fun k => impl_journalNumbers.l0 k acc (p ++ q) ((p ++ q).length : Int) (p.length : Int)) (acc ++ numsFrom p.length q)
  | [], p, acc, h, ha => by
    refine ev_up ?_
    simp only [impl_journalNumbers.l0, mid_end, ↓reduceIte]
    exact ev_eq (Ev.now _) (by simp [numsFrom])
  | x :: q, p, acc, h, ha => by
    have hp : p.length < 9223372036854775807 := by simp only [List.length_append, List.length_cons] at h; omega
    have hr : (acc.length + (recNums x (p.length : Int)).length < 17592186044416) = True := by apply eq_true; simp only [recNums_len]; simp only [List.length_cons] at ha; omega
    refine ev_up ?_
    simp only [impl_journalNumbers.l0, recordNumbers_eq, Option.bind_some, rd_T25, mid_lt, mid_ge, getD_mid, wrap_mid p x hp, hr, ↓reduceIte, numsFrom]
    rw [step_mid p q x] at h ⊢
    have := impl_journalNumbers_l0 q (p ++ [x]) (acc ++ recNums x (p.length : Int)) h (by simp only [List.length_append, recNums_len, List.length_cons] at ha ⊢; omega)
    rw [List.append_assoc] at this
    simpa using this
theorem impl_journalNumbers_ev (l : List S25) (h : l.length < 1000000000000) : Ev (fun k => impl_journalNumbers.f k l) (numsFrom 0 l) := by
  simpa [impl_journalNumbers.f] using impl_journalNumbers_l0 l [] [] (by simp; omega) (by simp; omega)
theorem spec_l1Same_l0 : ∀ (q q' p p' : List Int), p.length = p'.length → q.length = q'.length → (p ++ q).length < 9223372036854775807 → Ev (fun k => spec_l1Same.l0 k (p ++ q) (p' ++ q') ((p ++ q).length : Int) (p.length : Int)) (decide (q = q'))
  | [], q', p, p', hl, hq, h => by
    obtain rfl : q' = [] := List.eq_nil_of_length_eq_zero hq.symm
    refine ev_up ?_
    simp only [spec_l1Same.l0, mid_end, ↓reduceIte]
    exact ev_eq (Ev.now _) (by simp)
  | x :: q, [], p, p', hl, hq, h => by simp at hq
  | x :: q, y :: q', p, p', hl, hq, h => by
    have hp : p.length < 9223372036854775807 := by simp only [List.length_append, List.length_cons] at h; omega
    refine ev_up ?_
    simp only [spec_l1Same.l0, mid_lt, mid_ge, mid_lt2 p p' q' y hl, rd_mid, rd_mid2 p p' q' y hl, wrap_mid p x hp, ↓reduceIte]
    by_cases e : x = y
    · subst e
      simp only [↓reduceIte]
      rw [step_mid p q x, step_mid p' q' x]
      rw [step_mid p q x] at h
      exact ev_eq (spec_l1Same_l0 q q' (p ++ [x]) (p' ++ [x]) (by simp [hl]) (by simpa using hq) h) (by simp)
    · simp only [e, ↓reduceIte]
      exact ev_eq (Ev.now _) (by simp [e])
theorem spec_l1Same_ev (a b : List Int) (h : a.length < 9223372036854775807) : Ev (fun k => spec_l1Same.f k a b) (decide (a = b)) := by
  by_cases hl : a.length = b.length
  · have e : ((a.length : Int) = (b.length : Int)) = True := by apply eq_true; omega
    simp only [spec_l1Same.f, e, ↓reduceIte]
    simpa using spec_l1Same_l0 a b [] [] rfl hl (by simpa using h)
  · have e : ¬ ((a.length : Int) = (b.length : Int)) := by omega
    simp only [spec_l1Same.f, e, ↓reduceIte]
    exact ev_eq (Ev.now _) (by
      symm; rw [decide_eq_false_iff_not]
      intro he; exact hl (by rw [he]))
theorem slices_Equal_int_int_l0 : ∀ (q q' p p' : List Int), p.length = p'.length → q.length = q'.length → (p ++ q).length < 9223372036854775807 → Ev (fun k => slices_Equal_int_int.l0 k (p ++ q) (p' ++ q') ((p ++ q).length : Int) (p.length : Int)) (decide (q = q'))
  | [], q', p, p', hl, hq, h => by
    obtain rfl : q' = [] := List.eq_nil_of_length_eq_zero hq.symm
    refine ev_up ?_
    simp only [slices_Equal_int_int.l0, mid_end, ↓reduceIte]
    exact ev_eq (Ev.now _) (by simp)
  | x :: q, [], p, p', hl, hq, h => by simp at hq
  | x :: q, y :: q', p, p', hl, hq, h => by
    have hp : p.length < 9223372036854775807 := by simp only [List.length_append, List.length_cons] at h; omega
    refine ev_up ?_
    simp only [slices_Equal_int_int.l0, mid_lt, mid_ge, mid_lt2 p p' q' y hl, rd_mid, rd_mid2 p p' q' y hl, wrap_mid p x hp, ↓reduceIte]
    by_cases e : x = y
    · subst e
      simp only [↓reduceIte]
      rw [step_mid p q x, step_mid p' q' x]
      rw [step_mid p q x] at h
      exact ev_eq (slices_Equal_int_int_l0 q q' (p ++ [x]) (p' ++ [x]) (by simp [hl]) (by simpa using hq) h) (by simp)
    · simp only [e, ↓reduceIte]
      exact ev_eq (Ev.now _) (by simp [e])
theorem slices_Equal_int_int_ev (a b : List Int) (h : a.length < 9223372036854775807) : Ev (fun k => slices_Equal_int_int.f k a b) (decide (a = b)) := by
  by_cases hl : a.length = b.length
  · have e : ((a.length : Int) = (b.length : Int)) = True := by apply eq_true; omega
    simp only [slices_Equal_int_int.f, e, ↓reduceIte]
    simpa using slices_Equal_int_int_l0 a b [] [] rfl hl (by simpa using h)
  · have e : ¬ ((a.length : Int) = (b.length : Int)) := by omega
    simp only [slices_Equal_int_int.f, e, ↓reduceIte]
    exact ev_eq (Ev.now _) (by
      symm; rw [decide_eq_false_iff_not]
      intro he; exact hl (by rw [he]))
theorem rd_at (p q : List Int) (j : Nat) : rd (p ++ q) ((p.length : Int) + (j : Int)) = q.getD j 0 := by
  have : ((p.length : Int) + (j : Int)).toNat = p.length + j := by omega
  unfold rd
  rw [this, List.getD_eq_getElem?_getD, List.getD_eq_getElem?_getD, List.getElem?_append_right (by omega), Nat.add_sub_cancel_left]
theorem five {q : List Int} (h : ¬ q.length < 5) : ∃ a b c d e r, q = a :: b :: c :: d :: e :: r := by
  match q, h with
  | a :: b :: c :: d :: e :: r, _ => exact ⟨a, b, c, d, e, r, rfl⟩
  | [], h => simp at h
  | [_], h => simp at h
  | [_, _], h => simp at h
  | [_, _, _], h => simp at h
  | [_, _, _, _], h => simp at h
/-- The records that are recovered, n are before. -/
def recFrom : Nat → List Int → List S25
  | n, a :: b :: c :: d :: e :: r => if n < 40 ∧ okRec ⟨a, b, c⟩ = true ∧ recNums ⟨a, b, c⟩ n = [a, b, c, d, e] then ⟨a, b, c⟩ :: recFrom (n + 1) r else []
  | _, _ => []
theorem recFrom_short (n : Nat) {q : List Int} (h : q.length < 5) : recFrom n q = [] := by
  match q, h with
  | [], _ => rfl
  | [_], _ => rfl
  | [_, _], _ => rfl
  | [_, _, _], _ => rfl
  | [_, _, _, _], _ => rfl
  | _ :: _ :: _ :: _ :: _ :: _, h => simp at h; omega
theorem recFrom_ok : ∀ (m : Nat) (q : List Int) (n : Nat), q.length ≤ m → (∀ r ∈ recFrom n q, okRec r = true) ∧ n + (recFrom n q).length ≤ max n 40
  | m, q, n, hm => by
    by_cases hq : q.length < 5
    · rw [recFrom_short n hq]; simp; omega
    · obtain ⟨a, b, c, d, e, r, rfl⟩ := five hq
      match m, hm with
      | 0, hm => simp at hm
      | m + 1, hm =>
        simp only [recFrom]
        split
        · rename_i h
          obtain ⟨h1, h2⟩ := recFrom_ok m r (n + 1) (by simp at hm; omega)
          refine ⟨fun x hx => ?_, ?_⟩
          · rcases List.mem_cons.1 hx with rfl | hx
            · exact h.2.1
            · exact h1 x hx
          · simp only [List.length_cons]; omega
        · simp; omega
def recovered (q : List Int) : List S25 := recFrom 0 q
theorem recovered_ok (q : List Int) : ∀ r ∈ recovered q, okRec r = true := (recFrom_ok q.length q 0 (Nat.le_refl _)).1
theorem recovered_len (q : List Int) : (recovered q).length ≤ 40 := by have := (recFrom_ok q.length q 0 (Nat.le_refl _)).2; unfold recovered; omega
theorem slice_five (p : List Int) (a b c d e : Int) (r : List Int) : ((p ++ a :: b :: c :: d :: e :: r).take ((p.length : Int) + 5).toNat).drop ((p.length : Int)).toNat = [a, b, c, d, e] := by
  have h1 : ((p.length : Int) + 5).toNat = p.length + 5 := by omega
  have h2 : ((p.length : Int)).toNat = p.length := by omega
  rw [h1, h2, List.take_append, List.take_of_length_le (by omega : p.length ≤ p.length + 5), Nat.add_sub_cancel_left]
  simp
theorem spec_jrRecover_l0 : ∀ (m : Nat) (q p : List Int) (out : List S25), q.length ≤ m → p.length = 5 * out.length → (p ++ q).length < 1000000000000 → Ev (fun k => spec_jrRecover.l0 k (p ++ q) out (p.length : Int)) (out ++ recFrom out.length q)
  | m, q, p, out, hm, hp, h => by
    have hp5 : wrap64 ((p.length : Int) + 5) = (p.length : Int) + 5 := wrap_id (by omega) (by simp only [List.length_append] at h; omega)
    by_cases hq : q.length < 5
    · have h1 : ((p.length : Int) + 5 ≤ ((p ++ q).length : Int)) = False := by apply eq_false; simp only [List.length_append]; omega
      refine ev_up (ev_up ?_)
      simp only [spec_jrRecover.l0, spec_jrRecover.j1, hp5, h1, ↓reduceIte, Bool.false_eq_true]
      exact ev_eq (Ev.now _) (by rw [recFrom_short _ hq, List.append_nil])
    · obtain ⟨a, b, c, d, e, r, rfl⟩ := five hq
      have h1 : ((p.length : Int) + 5 ≤ ((p ++ a :: b :: c :: d :: e :: r).length : Int)) = True := by apply eq_true; simp only [List.length_append, List.length_cons]; omega
      have h2 : wrap64 ((p.length : Int) + 1) = (p.length : Int) + 1 := wrap_id (by omega) (by simp only [List.length_append] at h; omega)
      have h3 : wrap64 ((p.length : Int) + 2) = (p.length : Int) + 2 := wrap_id (by omega) (by simp only [List.length_append] at h; omega)
      have h4 : (0 ≤ (p.length : Int) + 1) = True := by apply eq_true; omega
      have h5 : (0 ≤ (p.length : Int) + 2) = True := by apply eq_true; omega
      have h6 : ((p.length : Int) + 1 < ((p ++ a :: b :: c :: d :: e :: r).length : Int)) = True := by apply eq_true; simp only [List.length_append, List.length_cons]; omega
      have h7 : ((p.length : Int) + 2 < ((p ++ a :: b :: c :: d :: e :: r).length : Int)) = True := by apply eq_true; simp only [List.length_append, List.length_cons]; omega
      have h8 : ((p.length : Int) ≤ (p.length : Int) + 5) = True := by apply eq_true; omega
      have r1 : rd (p ++ a :: b :: c :: d :: e :: r) ((p.length : Int) + 1) = b := rd_at p _ 1
      have r2 : rd (p ++ a :: b :: c :: d :: e :: r) ((p.length : Int) + 2) = c := rd_at p _ 2
      refine ev_up (ev_up ?_)
      simp only [spec_jrRecover.l0, spec_jrRecover.j1, hp5, h1, h2, h3, h4, h5, h6, h7, h8, r1, r2, rd_mid, mid_lt, mid_ge, jrRecord_eq, jrOf_eq, slice_five, Option.bind_some, ↓reduceIte, recFrom]
      by_cases hn : out.length < 40
      · have hn' : ((out.length : Int) < 40) = True := by apply eq_true; omega
        simp only [hn', decide_true, ↓reduceIte]
        by_cases hok : okRec ⟨a, b, c⟩ = true
        · simp only [hok, ↓reduceIte]
          refine ev_bind (spec_l1Same_ev _ _ (by simp [recNums_len])) ?_
          by_cases hr : recNums ⟨a, b, c⟩ (out.length : Int) = [a, b, c, d, e]
          · have ho : (out.length < 5864062014805) = True := by apply eq_true; omega
            simp only [hr, decide_true, ho, hn, and_self, ↓reduceIte]
            match m, hm with
            | 0, hm => simp at hm
            | m + 1, hm =>
              have := spec_jrRecover_l0 m r (p ++ [a, b, c, d, e]) (out ++ [⟨a, b, c⟩]) (by simp at hm; omega) (by simp; omega) (by simpa using h)
              simpa [List.append_assoc] using this
          · simp only [hr, decide_false, and_false, ↓reduceIte, Bool.false_eq_true, List.append_nil]
            exact Ev.now _
        · simp only [hok, ↓reduceIte, Bool.false_eq_true, false_and, and_false, List.append_nil]
          exact Ev.now _
      · have hn' : ((out.length : Int) < 40) = False := by apply eq_false; omega
        simp only [hn', hn, decide_false, ↓reduceIte, Bool.false_eq_true, false_and, List.append_nil]
        exact Ev.now _
theorem spec_jrRecover_ev (l : List Int) (h : l.length < 1000000000000) : Ev (fun k => spec_jrRecover.f k l) (recovered l) := by
  simpa [spec_jrRecover.f, recovered] using spec_jrRecover_l0 l.length l [] [] (Nat.le_refl _) rfl (by simpa using h)
theorem impl_recovered_l0 : ∀ (m : Nat) (q p : List Int) (out : List S25), q.length ≤ m → p.length = 5 * out.length → (p ++ q).length < 1000000000000 → Ev (fun k => impl_recovered.l0 k (p ++ q) out (out.length : Int)) (out ++ recFrom out.length q)
  | m, q, p, out, hm, hp, h => by
    have hw : wrap64 (5 * (out.length : Int)) = (p.length : Int) := by rw [wrap_id (by omega) (by simp only [List.length_append] at h; omega)]; omega
    have hp5 : wrap64 ((p.length : Int) + 5) = (p.length : Int) + 5 := wrap_id (by omega) (by simp only [List.length_append] at h; omega)
    by_cases hn : out.length < 40
    · have hn' : ((out.length : Int) < 40) = True := by apply eq_true; omega
      by_cases hq : q.length < 5
      · have h1 : ((p.length : Int) + 5 ≤ ((p ++ q).length : Int)) = False := by apply eq_false; simp only [List.length_append]; omega
        refine ev_up (ev_up ?_)
        simp only [impl_recovered.l0, impl_recovered.j1, hw, hp5, h1, hn', decide_false, ↓reduceIte, Bool.false_eq_true]
        exact ev_eq (Ev.now _) (by rw [recFrom_short _ hq, List.append_nil])
      · obtain ⟨a, b, c, d, e, r, rfl⟩ := five hq
        have h1 : ((p.length : Int) + 5 ≤ ((p ++ a :: b :: c :: d :: e :: r).length : Int)) = True := by apply eq_true; simp only [List.length_append, List.length_cons]; omega
        have h8 : ((p.length : Int) ≤ (p.length : Int) + 5) = True := by apply eq_true; omega
        have r0 : rd [a, b, c, d, e] 0 = a := rfl
        have r1 : rd [a, b, c, d, e] 1 = b := rfl
        have r2 : rd [a, b, c, d, e] 2 = c := rfl
        have g0 : ((0 : Int) < (([a, b, c, d, e] : List Int).length : Int)) = True := by simp
        have g1 : ((1 : Int) < (([a, b, c, d, e] : List Int).length : Int)) = True := by simp
        have g2 : ((2 : Int) < (([a, b, c, d, e] : List Int).length : Int)) = True := by simp
        refine ev_up (ev_up ?_)
        simp only [impl_recovered.l0, impl_recovered.j1, hw, hp5, h1, hn', h8, slice_five, r0, r1, r2, g0, g1, g2, mid_ge, IsJournalRecord_eq, recordNumbers_eq, Option.bind_some, decide_true, ↓reduceIte, recFrom]
        by_cases hok : okRec ⟨a, b, c⟩ = true
        · simp only [hok, ↓reduceIte]
          refine ev_bind (slices_Equal_int_int_ev _ _ (by simp [recNums_len])) ?_
          by_cases hr : recNums ⟨a, b, c⟩ (out.length : Int) = [a, b, c, d, e]
          · have ho : (out.length < 5864062014805) = True := by apply eq_true; omega
            have hw1 : wrap64 ((out.length : Int) + 1) = (out.length : Int) + 1 := wrap_id (by omega) (by omega)
            simp only [hr, hw1, decide_true, ho, hn, and_self, ↓reduceIte]
            match m, hm with
            | 0, hm => simp at hm
            | m + 1, hm =>
              have := impl_recovered_l0 m r (p ++ [a, b, c, d, e]) (out ++ [⟨a, b, c⟩]) (by simp at hm; omega) (by simp; omega) (by simpa using h)
              simpa [List.append_assoc] using this
          · simp only [hr, decide_false, and_false, ↓reduceIte, Bool.false_eq_true, List.append_nil]
            exact Ev.now _
        · simp only [hok, ↓reduceIte, Bool.false_eq_true, false_and, and_false, List.append_nil]
          exact Ev.now _
    · have hn' : ((out.length : Int) < 40) = False := by apply eq_false; omega
      refine ev_up (ev_up ?_)
      simp only [impl_recovered.l0, impl_recovered.j1, hn', ↓reduceIte, Bool.false_eq_true]
      refine ev_eq (Ev.now _) ?_
      by_cases hq : q.length < 5
      · rw [recFrom_short _ hq, List.append_nil]
      · obtain ⟨a, b, c, d, e, r, rfl⟩ := five hq
        simp only [recFrom, hn, false_and, ↓reduceIte, List.append_nil]
theorem impl_recovered_ev (l : List Int) (h : l.length < 1000000000000) : Ev (fun k => impl_recovered.f k l) (recovered l) := by
  simpa [impl_recovered.f, recovered] using impl_recovered_l0 l.length l [] [] (Nat.le_refl _) rfl (by simpa using h)
theorem eqJournalRecord_self (a b c : Int) : laws_eqJournalRecord.f a b c a b c = some true := by simp [laws_eqJournalRecord.f]
theorem laws_eqJournalRecordS_l0 : ∀ (q p : List S25), (p ++ q).length < 9223372036854775807 → Ev (fun k => laws_eqJournalRecordS.l0 k (p ++ q) (p ++ q) (p.length : Int)) true
  | [], p, h => by
    refine ev_up ?_
    simp only [laws_eqJournalRecordS.l0, mid_end, ↓reduceIte]
    exact Ev.now _
  | x :: q, p, h => by
    have hp : p.length < 9223372036854775807 := by simp only [List.length_append, List.length_cons] at h; omega
    refine ev_up ?_
    simp only [laws_eqJournalRecordS.l0, eqJournalRecord_self, Option.bind_some, rd_T25, mid_lt, mid_ge, getD_mid, wrap_mid p x hp, ↓reduceIte]
    rw [step_mid p q x] at h ⊢
    exact laws_eqJournalRecordS_l0 q (p ++ [x]) h
theorem laws_eqJournalRecordS_ev (l : List S25) (h : l.length < 9223372036854775807) : Ev (fun k => laws_eqJournalRecordS.f k l l) true := by
  simp only [laws_eqJournalRecordS.f, ↓reduceIte]
  simpa using laws_eqJournalRecordS_l0 l [] (by simpa using h)
def toR (x : S23) : S25 := ⟨x.f0, x.f1, x.f2⟩
theorem laws_toJournalRecordS_l0 : ∀ (q : List S23) (p : List S23), (p ++ q).length < 9223372036854775807 → Ev (fun k => laws_toJournalRecordS.l0 k (p ++ q) (p.map toR ++ List.replicate q.length z25) (p.length : Int)) ((p ++ q).map toR)
  | [], p, h => by
    refine ev_up ?_
    simp only [laws_toJournalRecordS.l0, mid_end, ↓reduceIte]
    exact ev_eq (Ev.now _) (by simp)
  | x :: q, p, h => by
    have hp : p.length < 9223372036854775807 := by simp only [List.length_append, List.length_cons] at h; omega
    have hl : p.length = (p.map toR).length := by simp
    refine ev_up ?_
    simp only [laws_toJournalRecordS.l0, laws_toJournalRecord.f, Option.bind_some, rd_T23, List.length_cons, List.replicate_succ, mid_lt, mid_lt2 p _ _ _ hl, mid_ge, getD_mid, set_mid2 p _ _ _ _ hl, wrap_mid p x hp, ↓reduceIte]
    rw [step_mid p q x] at h ⊢
    have e : p.map toR ++ (⟨x.f0, x.f1, x.f2⟩ : S25) :: List.replicate q.length z25 = (p ++ [x]).map toR ++ List.replicate q.length z25 := by simp [toR]
    rw [e]
    exact laws_toJournalRecordS_l0 q (p ++ [x]) h
theorem laws_toJournalRecordS_ev (l : List S23) (h : l.length ≤ 1048576) : Ev (fun k => laws_toJournalRecordS.f k l) (l.map toR) := by
  have h0 : (0 ≤ (l.length : Int)) = True := by apply eq_true; omega
  have h1 : (((l.length : Int) : Int).toNat ≤ 11728124029610) = True := by apply eq_true; omega
  simp only [laws_toJournalRecordS.f, h0, h1, ↓reduceIte]
  simpa using laws_toJournalRecordS_l0 l [] (by simp; omega)
theorem szJournalRecordS_eq (l : List S23) (h : l.length ≤ 9223372036854775807) : laws_szJournalRecordS.f l 1048576 = some (if l.length ≤ 1048576 then 1048576 - (l.length : Int) else -1) := by
  have hw : wrap64 (1048576 - (l.length : Int)) = 1048576 - (l.length : Int) := wrap_id (by omega) (by omega)
  unfold laws_szJournalRecordS.f
  rw [hw]
  by_cases hl : l.length ≤ 1048576
  · rw [if_neg (by omega), if_pos hl]
  · rw [if_pos (by omega), if_neg hl]
theorem laws_markJournalRecordS_o : ∀ (q p : List S25) (m : Int), (p ++ q).length < 1000000000000000 → 0 ≤ m → m + 3 * q.length ≤ 1000000000000000 → ∃ q', Ev (fun k => laws_markJournalRecordS.l0 k (p ++ q) m (p.length : Int)) (m + 3 * q.length, q')
  | [], p, m, h, h0, h1 => by
    refine ⟨p, ev_up ?_⟩
    simp only [laws_markJournalRecordS.l0, mid_end, ↓reduceIte]
    exact ev_eq (Ev.now _) (by simp)
  | x :: q, p, m, h, h0, h1 => by
    have hp : p.length < 9223372036854775807 := by simp only [List.length_append, List.length_cons] at h; omega
    have hm1 : wrap64 (m + 1) = m + 1 := wrap_id (by omega) (by simp only [List.length_cons] at h1; omega)
    have hm2 : wrap64 (m + 1 + 1) = m + 2 := by rw [wrap_id (by omega) (by simp only [List.length_cons] at h1; omega)]; omega
    have hm3 : wrap64 (m + 2 + 1) = m + 3 := by rw [wrap_id (by omega) (by simp only [List.length_cons] at h1; omega)]; omega
    obtain ⟨q', hA⟩ := laws_markJournalRecordS_o q (p ++ [⟨m, m + 1, m + 2⟩]) (m + 3) (by simp only [List.length_append, List.length_cons, List.length_nil] at h ⊢; omega) (by omega) (by simp only [List.length_cons] at h1; omega)
    have e : (m + 3) + 3 * (q.length : Int) = m + 3 * ((x :: q).length : Int) := by simp only [List.length_cons]; omega
    rw [e] at hA
    refine ⟨q', ev_up ?_⟩
    simp only [laws_markJournalRecordS.l0, rd_T25, mid_lt, mid_ge, set_mid, getD_mid, Option.bind_some, hm1, hm2, hm3, wrap_mid p (⟨m, m + 1, m + 2⟩ : S25) hp, ↓reduceIte]
    rw [step_mid p q]
    exact hA
theorem laws_markJournalRecordS_only (l : List S25) (m : Int) (h : l.length < 100000000000000) (h0 : 0 ≤ m) (h1 : m ≤ 100000000000000) : ∃ m' l', 0 ≤ m' ∧ Ev (fun k => laws_markJournalRecordS.f k l m) (m', l') := by
  obtain ⟨q', hA⟩ := laws_markJournalRecordS_o l [] m (by simp; omega) (by omega) (by omega)
  exact ⟨m + 3 * l.length, q', by omega, by simpa [laws_markJournalRecordS.f] using hA⟩
theorem mn_le (a b : Int) : mn a b ≤ a ∧ mn a b ≤ b := by unfold mn; split <;> omega
theorem mn_ge {a b c : Int} (h0 : c ≤ a) (h1 : c ≤ b) : c ≤ mn a b := by unfold mn; split <;> omega
def setAll (v : List Int) : List S25 → List Int
  | [] => v
  | x :: q => setAll (if x.f0 = 1 then v.set x.f1.toNat x.f2 else v) q
theorem setAll_len : ∀ (q : List S25) (v : List Int), (setAll v q).length = v.length
  | [], v => rfl
  | x :: q, v => by rw [setAll, setAll_len q]; split <;> simp
def values (l : List S25) : List Int := setAll (List.replicate 8 (-1)) (committed l)
theorem values_len (l : List S25) : (values l).length = 8 := by simp [values, setAll_len]
theorem okRec_key {r : S25} (h : okRec r = true) (h1 : r.f0 = 1) : 0 ≤ r.f1 ∧ r.f1 ≤ 7 := by
  unfold okRec at h; simp only [decide_eq_true_eq] at h; omega
theorem good_ok {l : List S25} (h : goodRecs l = true) : ∀ r ∈ l, okRec r = true := by
  unfold goodRecs at h; simp only [Bool.and_eq_true, List.all_eq_true] at h; exact h.1
theorem good_len {l : List S25} (h : goodRecs l = true) : l.length ≤ 40 := by
  unfold goodRecs at h; simp only [Bool.and_eq_true, decide_eq_true_eq] at h; exact h.2
def compactFrom : Nat → List Int → List S25
  | _, [] => []
  | i, v :: q => if v ≥ 0 then ⟨1, i, v⟩ :: compactFrom (i + 1) q else compactFrom (i + 1) q
theorem compactFrom_len : ∀ (q : List Int) (i : Nat), (compactFrom i q).length ≤ q.length
  | [], _ => by simp [compactFrom]
  | v :: q, i => by simp only [compactFrom]; have := compactFrom_len q (i + 1); split <;> simp <;> omega
def closeJ (out : List S25) : List S25 × Bool := if out.length > 0 then (out ++ [⟨2, 0, 0⟩], true) else (out, true)
def rCompactJournal (l : List S25) : List S25 × Bool := if goodRecs l = true then closeJ (compactFrom 0 (values l)) else ([], false)
theorem rCompactJournal_len (l : List S25) (h : l.length ≤ 1048576) : (rCompactJournal l).1.length ≤ 10000000 := by
  unfold rCompactJournal closeJ; have := compactFrom_len (values l) 0; rw [values_len] at this; split
  · split <;> simp <;> omega
  · simp
def cntNe : List Int → List Int → Nat
  | x :: a, y :: b => (if x = y then 0 else 1) + cntNe a b
  | _, _ => 0
theorem cntNe_le : ∀ a b : List Int, cntNe a b ≤ a.length
  | [], b => by simp [cntNe]
  | x :: a, [] => by simp [cntNe]
  | x :: a, y :: b => by simp only [cntNe, List.length_cons]; have := cntNe_le a b; split <;> omega
def rLostAfterCut (l : List S25) (n : Int) : Int × Bool :=
  if goodRecs l = true ∧ 0 ≤ n ∧ n ≤ 200 then ((cntNe (values (recovered ((numsFrom 0 l).take (mn n (numsFrom 0 l).length).toNat))) (values l) : Int), true) else (0, false)
def finishA (y : List S25) : List Int × Bool := if y.length ≤ 40 then (numsFrom 0 y, true) else ([], false)
def appendV (acc q : List S25) : List Int × Bool := if (q.all fun r => decide (r.f0 = 1)) = true then finishA (acc ++ q ++ [⟨2, 0, 0⟩]) else ([], false)
def rAppendCommit (l : List Int) (r : List S25) : List Int × Bool := if goodNums l = true ∧ goodRecs r = true then appendV (committed (recovered l)) r else ([], false)
theorem rAppendCommit_len (l : List Int) (r : List S25) : (rAppendCommit l r).1.length ≤ 10000000 := by
  unfold rAppendCommit appendV finishA
  repeat' split
  all_goals simp_all [numsFrom_len]
  all_goals omega
theorem okCommit : okRec ⟨2, 0, 0⟩ = true := by decide
theorem spec_AppendCommit_l0 : ∀ (q p : List S25) (acc : List S25), (p ++ q).length ≤ 1048576 → acc.length ≤ 1048576 + p.length → (∀ r ∈ acc, okRec r = true) → (∀ r ∈ q, okRec r = true) → Ev (fun k => spec_AppendCommit.l0 k acc (p ++ q) ((p ++ q).length : Int) (p.length : Int)) (appendV acc q)
  | [], p, acc, h, ha, ho, hq => by
    simp only [List.append_nil] at h
    have h1 : (acc.length < 5864062014805) = True := by apply eq_true; omega
    refine ev_up ?_
    simp only [spec_AppendCommit.l0, mid_end, h1, Option.bind_some, ↓reduceIte, appendV, List.all_nil]
    rw [List.append_nil acc]
    unfold finishA
    have hg : goodRecs (acc ++ [⟨2, 0, 0⟩]) = decide ((acc ++ [(⟨2, 0, 0⟩ : S25)]).length ≤ 40) := by
      unfold goodRecs
      have : (acc ++ [(⟨2, 0, 0⟩ : S25)]).all okRec = true := by
        simp only [List.all_append, Bool.and_eq_true, List.all_eq_true]
        exact ⟨ho, by simp [okCommit]⟩
      rw [this, Bool.true_and]
    refine ev_bind (spec_jrGood_ev _ (by simp; omega)) ?_
    rw [hg]
    by_cases h4 : (acc ++ [(⟨2, 0, 0⟩ : S25)]).length ≤ 40
    · simp only [h4, decide_true, ↓reduceIte]
      exact ev_bind (spec_jrAll_ev _ (by omega)) (Ev.now _)
    · simp only [h4, decide_false, Bool.false_eq_true, ↓reduceIte]
      exact Ev.now _
  | x :: q, p, acc, h, ha, ho, hq => by
    have hl : (p ++ x :: q).length = p.length + 1 + q.length := by simp; omega
    have h1 : (acc.length < 5864062014805) = True := by apply eq_true; omega
    refine ev_up ?_
    simp only [spec_AppendCommit.l0, rd_T25, h1, getD_mid, mid_lt, mid_ge, wrap_mid p x (by omega), ↓reduceIte]
    rw [step_mid p q x] at h ⊢
    by_cases hx : x.f0 = 1
    · simp only [hx, ↓reduceIte]
      have e : (⟨1, x.f1, x.f2⟩ : S25) = x := by cases x; simp at hx; simp [hx]
      rw [e]
      have := spec_AppendCommit_l0 q (p ++ [x]) (acc ++ [x]) h (by simp; omega) (fun r hr => by
        rcases List.mem_append.1 hr with hr | hr
        · exact ho r hr
        · rw [List.mem_singleton.1 hr]; exact hq x List.mem_cons_self) (fun r hr => hq r (List.mem_cons_of_mem _ hr))
      refine ev_eq this ?_
      unfold appendV
      rw [← step_mid acc q x]
      simp [hx]
    · simp only [hx, ↓reduceIte]
      exact ev_eq (Ev.now _) (by simp [appendV, hx])
theorem spec_AppendCommit_ev (l : List Int) (r : List S25) (h : l.length ≤ 1048576) (hr : r.length ≤ 1048576) : Ev (fun k => spec_AppendCommit.f k l r) (rAppendCommit l r) := by
  unfold rAppendCommit
  simp only [spec_AppendCommit.f]
  refine ev_bind (spec_jrList_ev l (by omega)) ?_
  have fin : Ev (fun k => spec_AppendCommit.j0 k l r true) (([] : List Int), false) := by
    refine ev_up ?_
    simp only [spec_AppendCommit.j0, ↓reduceIte]
    exact Ev.now _
  cases goodNums l
  · simpa using fin
  · simp only [↓reduceIte]
    refine ev_bind (spec_jrGood_ev r (by omega)) ?_
    cases hg : goodRecs r
    · simpa using fin
    · simp only [Bool.not_true, and_self, ↓reduceIte]
      refine ev_up ?_
      simp only [spec_AppendCommit.j0, Bool.false_eq_true, ↓reduceIte]
      refine ev_bind (spec_jrRecover_ev l (by omega)) ?_
      have hl := recovered_len l
      have hc := committed_len (recovered l)
      refine ev_bind (spec_jrCommitted_ev _ (by omega)) ?_
      simpa using spec_AppendCommit_l0 r [] (committed (recovered l)) (by simpa using hr) (by simp; omega) (fun x hx => recovered_ok l x (committed_mem _ x hx)) (good_ok hg)
theorem impl_AppendCommit_l0 : ∀ (q p : List S25) (acc : List S25), (p ++ q).length ≤ 1048576 → acc.length ≤ 1048576 + p.length → (∀ r ∈ acc, okRec r = true) → (∀ r ∈ q, okRec r = true) → Ev (fun k => impl_AppendCommit.l0 k acc (p ++ q) ((p ++ q).length : Int) (p.length : Int)) (appendV acc q)
  | [], p, acc, h, ha, ho, hq => by
    simp only [List.append_nil] at h
    have h1 : (acc.length < 5864062014805) = True := by apply eq_true; omega
    refine ev_up ?_
    simp only [impl_AppendCommit.l0, mid_end, h1, Option.bind_some, ↓reduceIte, appendV, List.all_nil]
    rw [List.append_nil acc]
    unfold finishA
    by_cases h4 : (acc ++ [(⟨2, 0, 0⟩ : S25)]).length ≤ 40
    · have h5 : (((acc ++ [(⟨2, 0, 0⟩ : S25)]).length : Int) > 40) = False := by apply eq_false; omega
      simp only [h4, h5, ↓reduceIte]
      exact ev_bind (impl_journalNumbers_ev _ (by omega)) (Ev.now _)
    · have h5 : (((acc ++ [(⟨2, 0, 0⟩ : S25)]).length : Int) > 40) = True := by apply eq_true; omega
      simp only [h4, h5, ↓reduceIte]
      exact Ev.now _
  | x :: q, p, acc, h, ha, ho, hq => by
    have hl : (p ++ x :: q).length = p.length + 1 + q.length := by simp; omega
    have h1 : (acc.length < 5864062014805) = True := by apply eq_true; omega
    refine ev_up ?_
    simp only [impl_AppendCommit.l0, rd_T25, h1, getD_mid, mid_lt, mid_ge, wrap_mid p x (by omega), ↓reduceIte]
    rw [step_mid p q x] at h ⊢
    by_cases hx : x.f0 = 1
    · simp only [hx, ↓reduceIte]
      have e : (⟨1, x.f1, x.f2⟩ : S25) = x := by cases x; simp at hx; simp [hx]
      rw [e]
      have := impl_AppendCommit_l0 q (p ++ [x]) (acc ++ [x]) h (by simp; omega) (fun r hr => by
        rcases List.mem_append.1 hr with hr | hr
        · exact ho r hr
        · rw [List.mem_singleton.1 hr]; exact hq x List.mem_cons_self) (fun r hr => hq r (List.mem_cons_of_mem _ hr))
      refine ev_eq this ?_
      unfold appendV
      rw [← step_mid acc q x]
      simp [hx]
    · simp only [hx, ↓reduceIte]
      exact ev_eq (Ev.now _) (by simp [appendV, hx])
theorem impl_AppendCommit_ev (l : List Int) (r : List S25) (h : l.length ≤ 1048576) (hr : r.length ≤ 1048576) : Ev (fun k => impl_AppendCommit.f k l r) (rAppendCommit l r) := by
  unfold rAppendCommit
  simp only [impl_AppendCommit.f]
  refine ev_bind (impl_areNumbers_ev l (by omega)) ?_
  have fin : Ev (fun k => impl_AppendCommit.j0 k l r true) (([] : List Int), false) := by
    refine ev_up ?_
    simp only [impl_AppendCommit.j0, ↓reduceIte]
    exact Ev.now _
  cases goodNums l
  · simpa using fin
  · simp only [↓reduceIte]
    refine ev_bind (impl_areRecords_ev r (by omega)) ?_
    cases hg : goodRecs r
    · simpa using fin
    · simp only [Bool.not_true, and_self, ↓reduceIte]
      refine ev_up ?_
      simp only [impl_AppendCommit.j0, Bool.false_eq_true, ↓reduceIte]
      refine ev_bind (impl_recovered_ev l (by omega)) ?_
      have hl := recovered_len l
      have hc := committed_len (recovered l)
      refine ev_bind (impl_committedPart_ev _ (by omega)) ?_
      simpa using impl_AppendCommit_l0 r [] (committed (recovered l)) (by simpa using hr) (by simp; omega) (fun x hx => recovered_ok l x (committed_mem _ x hx)) (good_ok hg)
theorem FnExactAppendCommit (l0 : List Int) (l1 : List S23) (wl0 : l0.length ≤ maxLen) (we0 : ∀ z ∈ l0, (Lit.int .i64 z).wf = true) (wl1 : l1.length ≤ maxLen) (we1 : ∀ z ∈ l1, (Lit.int .i64 z.f0).wf = true ∧ (Lit.int .i64 z.f1).wf = true ∧ (Lit.int .i64 z.f2).wf = true) : ∃ k, laws_FnExactAppendCommit.f k l0 l1 = some true := by
  refine Ev.rounds (g := fun k => laws_FnExactAppendCommit.f k l0 l1) ?_
  by_cases hb : l0.length ≤ 1048576 ∧ l1.length ≤ 1048576
  · have hm := (show maxLen ≤ 9223372036854775807 by decide); obtain ⟨hb0, hb1⟩ := hb; have hc0 : (1048576 < (l0.length : Int)) = False := by apply eq_false; omega
    have SZ := szJournalRecordS_eq l1 (by omega)
    have hc1 : (1048576 - (l1.length : Int) < 0) = False := by apply eq_false; omega
    have hL : (l1.map toR).length = l1.length := by simp
    have T0 := laws_toIntS_ev l0 hb0
    have T1 := laws_toJournalRecordS_ev l1 hb1
    have E0 := laws_eqIntS_ev l0 (by omega)
    have E1 := laws_eqJournalRecordS_ev (l1.map toR) (by omega)
    obtain ⟨la, -, M0, -⟩ := laws_markIntS_ev l0 1 (by omega) (by omega) (by omega)
    obtain ⟨m1, lb, h1, M1⟩ := laws_markJournalRecordS_only (l1.map toR) (1 + (l0.length : Int)) (by omega) (by omega) (by omega)
    replace h1 : (m1 < 0) = False := by apply eq_false; omega
    have hR := rAppendCommit_len l0 (l1.map toR)
    have S := spec_AppendCommit_ev l0 (l1.map toR) (by omega) (by omega)
    have I := impl_AppendCommit_ev l0 (l1.map toR) (by omega) (by omega)
    have E2 := laws_eqIntS_ev (rAppendCommit l0 (l1.map toR)).1 (by omega)
    obtain ⟨l2, -, M2, N2⟩ := laws_markIntS_ev (rAppendCommit l0 (l1.map toR)).1 1 (by omega) (by omega) (by omega)
    have h2 : (1 + ((rAppendCommit l0 (l1.map toR)).1.length : Int) < 0) = False := by apply eq_false; omega
    simp only [laws_FnExactAppendCommit.f]
    repeat (first
      | exact Ev.now _
      | with_reducible refine ev_bind (by with_reducible assumption) ?_
      | simp only [*, Option.bind_some, bne_self_eq_false, ↓reduceIte, Bool.false_eq_true, gt_iff_lt]
      | (refine ev_up ?_; simp only [laws_FnExactAppendCommit.j0, laws_FnExactAppendCommit.j1, laws_FnExactAppendCommit.j2]))
  · have hm := (show maxLen ≤ 9223372036854775807 by decide)
    by_cases hb0 : l0.length ≤ 1048576
    · have hc0 : (1048576 < (l0.length : Int)) = False := by apply eq_false; omega
      have SZ := szJournalRecordS_eq l1 (by omega)
      have hb1 : ¬ l1.length ≤ 1048576 := fun h => hb ⟨hb0, h⟩
      have hc1 : ((-1 : Int) < 0) = True := by apply eq_true; omega
      simp only [laws_FnExactAppendCommit.f, gt_iff_lt, hc0, SZ, hb1, hc1, Option.bind_some, ↓reduceIte]
      exact Ev.now _
    · have hc0 : (1048576 < (l0.length : Int)) = True := by apply eq_true; omega
      simp only [laws_FnExactAppendCommit.f, gt_iff_lt, hc0, ↓reduceIte]
      exact Ev.now _

end Go.Proofs.Ytojblklecncjnaa.Pure
