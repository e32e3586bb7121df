/- The law FnExactCutNumbers of plain lists and numbers: whatever the input, it answers true. Condition: the lengths are those of rows that fit a machine. -/
import Derived.Test.YtojblklecncjnaaF6
namespace Go.Proofs.Ytojblklecncjnaa.Pure
open Go.RowKit Go.Proofs.Ytojblklecncjnaa.Pall Go.Proofs.YtojblklecncjnaaW.PrintWords Go.Proofs.YtojblklecncjnaaW.PrintLast Go.Proofs.YtojblklecncjnaaW.PrintMore
set_option linter.unusedVariables false
set_option linter.unusedSimpArgs false

/-! ### Ground: rounds, and a row seen as what is behind and what is ahead -/
theorem ev_up {α : Type} {g : Nat → Option α} {r : α} (h : Ev (fun k => g (k + 1)) r) : Ev g r := by
  obtain ⟨K, hK⟩ := h
  refine ⟨K + 1, fun k hk => ?_⟩
  obtain ⟨m, rfl⟩ : ∃ m, k = m + 1 := ⟨k - 1, by omega⟩
  exact hK m (by omega)
theorem ev_eq {α : Type} {g : Nat → Option α} {r r' : α} (h : Ev g r) (e : r = r') : Ev g r' := e ▸ h
theorem ev_bind {α β : Type} {g : Nat → Option α} {f : Nat → α → Option β} {a : α} {r : β} (h : Ev g a) (k : Ev (fun n => f n a) r) : Ev (fun n => (g n).bind (f n)) r := Ev.bind h k
theorem mid_lt {α : Type} (p q : List α) (x : α) : ((p.length : Int) < ((p ++ x :: q).length : Int)) = True := by
  apply eq_true; simp only [List.length_append, List.length_cons]; omega
theorem mid_lt2 {α β : Type} (p : List α) (p' q : List β) (x : β) (h : p.length = p'.length) : ((p.length : Int) < ((p' ++ x :: q).length : Int)) = True := by
  apply eq_true; simp only [List.length_append, List.length_cons]; omega
theorem mid_ge {α : Type} (p : List α) : (0 ≤ (p.length : Int)) = True := by apply eq_true; omega
theorem mid_end {α : Type} (p : List α) : ((p.length : Int) < ((p ++ []).length : Int)) = False := by simp
theorem mid_lt_l {α : Type} (p : List α) (x : α) (q : List α) : ((p.length : Int) < (p.length : Int) + ((x :: q).length : Int)) = True := by
  apply eq_true; simp only [List.length_cons]; omega
theorem rd_mid (p q : List Int) (x : Int) : rd (p ++ x :: q) (p.length : Int) = x := by simp [rd]
theorem rd_mid2 {α : Type} (p : List α) (p' q : List Int) (x : Int) (h : p.length = p'.length) : rd (p' ++ x :: q) (p.length : Int) = x := by simp [rd, h]
theorem getD_mid {α : Type} (p q : List α) (x z : α) : (p ++ x :: q).getD ((p.length : Int)).toNat z = x := by simp
theorem getD_mid2 {α β : Type} (p : List α) (p' q : List β) (x z : β) (h : p.length = p'.length) : (p' ++ x :: q).getD ((p.length : Int)).toNat z = x := by simp [h]
theorem set_mid {α : Type} (p q : List α) (x y : α) : (p ++ x :: q).set ((p.length : Int)).toNat y = p ++ y :: q := by simp
theorem set_mid2 {α β : Type} (p : List α) (p' q : List β) (x y : β) (h : p.length = p'.length) : (p' ++ x :: q).set ((p.length : Int)).toNat y = p' ++ y :: q := by simp [h]
theorem wrap_mid {α : Type} (p : List α) (x : α) (h : p.length < 9223372036854775807) : wrap64 ((p.length : Int) + 1) = ((p ++ [x]).length : Int) := by
  unfold wrap64; simp only [List.length_append, List.length_singleton]; omega
theorem step_mid {α : Type} (p q : List α) (x : α) : p ++ x :: q = (p ++ [x]) ++ q := by simp
theorem wrap_id {x : Int} (h0 : -9223372036854775808 ≤ x) (h1 : x ≤ 9223372036854775807) : wrap64 x = x := by unfold wrap64; omega
theorem wf_i64 {x : Int} (h : (Lit.int .i64 x).wf = true) : -9223372036854775808 ≤ x ∧ x ≤ 9223372036854775807 := by
  have h1 : IntKind.i64.min = -9223372036854775808 := by decide +kernel
  have h2 : IntKind.i64.max = 9223372036854775807 := by decide +kernel
  simp only [Lit.wf, h1, h2, Bool.and_eq_true, decide_eq_true_eq] at h
  omega
theorem laws_eqIntS_l0 : ∀ (q p : List Int), (p ++ q).length < 9223372036854775807 → Ev (fun k => laws_eqIntS.l0 k (p ++ q) (p ++ q) (p.length : Int)) true
  | [], p, h => by
    refine ev_up ?_
    simp only [laws_eqIntS.l0, mid_end, ↓reduceIte]
    exact Ev.now _
  | x :: q, p, h => by
    have hp : p.length < 9223372036854775807 := by simp only [List.length_append, List.length_cons] at h; omega
    refine ev_up ?_
    simp only [laws_eqIntS.l0, mid_lt, mid_ge, rd_mid, wrap_mid p x hp, ↓reduceIte]
    rw [step_mid p q x] at h ⊢
    exact laws_eqIntS_l0 q (p ++ [x]) h
theorem laws_eqIntS_ev (l : List Int) (h : l.length < 9223372036854775807) : Ev (fun k => laws_eqIntS.f k l l) true := by
  simp only [laws_eqIntS.f, ↓reduceIte]
  simpa using laws_eqIntS_l0 l [] (by simpa using h)
theorem laws_markIntS_l0 : ∀ (q p : List Int) (m : Int), (p ++ q).length < 1000000000000000 → 0 ≤ m → m + q.length ≤ 1000000000000000 → ∃ q', q'.length = q.length ∧ Ev (fun k => laws_markIntS.l0 k (p ++ q) m (p.length : Int)) (m + q.length, p ++ q') ∧ Ev (fun k => laws_heldIntS.l0 k (p ++ q') m (p.length : Int)) (m + q.length)
  | [], p, m, h, h0, h1 => by
    refine ⟨[], rfl, ev_up ?_, ev_up ?_⟩
    · simp only [laws_markIntS.l0, mid_end, ↓reduceIte]
      exact ev_eq (Ev.now _) (by simp)
    · simp only [laws_heldIntS.l0, mid_end, ↓reduceIte]
      exact ev_eq (Ev.now _) (by simp)
  | x :: q, p, m, h, h0, h1 => by
    have hp : p.length < 9223372036854775807 := by simp only [List.length_append, List.length_cons] at h; omega
    have hm : wrap64 (m + 1) = m + 1 := wrap_id (by omega) (by simp only [List.length_cons] at h1; omega)
    obtain ⟨q', hl, hA, hB⟩ := laws_markIntS_l0 q (p ++ [m]) (m + 1) (by simp only [List.length_append, List.length_cons, List.length_nil] at h ⊢; omega) (by omega) (by simp only [List.length_cons] at h1; omega)
    have e : (m + 1) + (q.length : Int) = m + ((x :: q).length : Int) := by simp only [List.length_cons]; omega
    rw [e] at hA hB
    refine ⟨m :: q', by simp [hl], ev_up ?_, ev_up ?_⟩
    · simp only [laws_markIntS.l0, mid_lt, mid_ge, set_mid, wrap_mid p m hp, hm, ↓reduceIte]
      rw [step_mid p q m, step_mid p q' m]
      exact hA
    · simp only [laws_heldIntS.l0, mid_lt, mid_ge, rd_mid, wrap_mid p m hp, hm, ↓reduceIte]
      rw [step_mid p q' m]
      exact hB
/-- What is marked is held, and anew so. -/
theorem laws_markIntS_ev (l : List Int) (m : Int) (h : l.length < 1000000000000000) (h0 : 0 ≤ m) (h1 : m + l.length ≤ 1000000000000000) : ∃ l', l'.length = l.length ∧ Ev (fun k => laws_markIntS.f k l m) (m + l.length, l') ∧ Ev (fun k => laws_heldIntS.f k l' m) (m + l.length) := by
  obtain ⟨q', hl, hA, hB⟩ := laws_markIntS_l0 l [] m (by simpa using h) h0 h1
  exact ⟨q', hl, by simpa [laws_markIntS.f] using hA, by simpa [laws_heldIntS.f] using hB⟩
theorem laws_toIntS_l0 : ∀ (q p : List Int), (p ++ q).length < 9223372036854775807 → Ev (fun k => laws_toIntS.l0 k (p ++ q) (p ++ List.replicate q.length 0) (p.length : Int)) (p ++ q)
  | [], p, h => by
    refine ev_up ?_
    simp only [laws_toIntS.l0, mid_end, ↓reduceIte]
    exact ev_eq (Ev.now _) (by simp)
  | x :: q, p, h => by
    have hp : p.length < 9223372036854775807 := by simp only [List.length_append, List.length_cons] at h; omega
    refine ev_up ?_
    simp only [laws_toIntS.l0, List.length_cons, List.replicate_succ, mid_lt, mid_ge, rd_mid, set_mid, wrap_mid p x hp, ↓reduceIte]
    rw [step_mid p q x] at h ⊢
    rw [step_mid p (List.replicate q.length 0) x]
    exact laws_toIntS_l0 q (p ++ [x]) h
theorem laws_toIntS_ev (l : List Int) (h : l.length ≤ 1048576) : Ev (fun k => laws_toIntS.f k l) l := by
  have h0 : (0 ≤ (l.length : Int)) = True := by apply eq_true; omega
  have h1 : (((l.length : Int) : Int).toNat ≤ 35184372088832) = True := by apply eq_true; omega
  simp only [laws_toIntS.f, h0, h1, ↓reduceIte]
  simpa using laws_toIntS_l0 l [] (by simp; omega)
theorem l1In_eq (a lo hi : Int) : spec_l1In.f a lo hi = some (decide (lo ≤ a ∧ a ≤ hi)) := by
  by_cases h : lo ≤ a <;> simp [spec_l1In.f, h]
theorem spec_l1All_l0 (lo hi : Int) : ∀ (q p : List Int), (p ++ q).length < 9223372036854775807 → Ev (fun k => spec_l1All.l0 k lo hi (p ++ q) ((p ++ q).length : Int) (p.length : Int)) (q.all fun x => decide (lo ≤ x ∧ x ≤ hi))
  | [], p, h => by
    refine ev_up ?_
    simp only [spec_l1All.l0, mid_end, ↓reduceIte]
    exact Ev.now _
  | x :: q, p, h => by
    have hp : p.length < 9223372036854775807 := by simp only [List.length_append, List.length_cons] at h; omega
    refine ev_up ?_
    simp only [spec_l1All.l0, l1In_eq, Option.bind_some, mid_lt, mid_ge, rd_mid, wrap_mid p x hp, ↓reduceIte, List.all_cons]
    cases decide (lo ≤ x ∧ x ≤ hi) with
    | false => simpa using Ev.now _
    | true =>
      simp only [↓reduceIte, Bool.true_and]
      rw [step_mid p q x] at h ⊢
      exact spec_l1All_l0 lo hi q (p ++ [x]) h
theorem spec_l1All_ev (l : List Int) (lo hi : Int) (h : l.length < 9223372036854775807) : Ev (fun k => spec_l1All.f k l lo hi) (l.all fun x => decide (lo ≤ x ∧ x ≤ hi)) := by
  simpa [spec_l1All.f] using spec_l1All_l0 lo hi l [] (by simpa using h)
theorem l1Own_eq (l : List Int) (h : l.length < 17592186044416) : spec_l1Own.f l = some l := by
  simp [spec_l1Own.f, h]
theorem l1Least_eq (a b : Int) : spec_l1Least.f a b = some (mn a b) := by
  unfold spec_l1Least.f mn; split <;> split <;> first | rfl | (congr 1; omega)
theorem laws_markIntS_o : ∀ (q p : List Int) (m : Int), (p ++ q).length < 1000000000000000 → 0 ≤ m → m + q.length ≤ 1000000000000000 → ∃ q', Ev (fun k => laws_markIntS.l0 k (p ++ q) m (p.length : Int)) (m + q.length, q')
  | [], p, m, h, h0, h1 => by
    refine ⟨p, ev_up ?_⟩
    simp only [laws_markIntS.l0, mid_end, ↓reduceIte]
    exact ev_eq (Ev.now _) (by simp)
  | x :: q, p, m, h, h0, h1 => by
    have hp : p.length < 9223372036854775807 := by simp only [List.length_append, List.length_cons] at h; omega
    have hm : wrap64 (m + 1) = m + 1 := wrap_id (by omega) (by simp only [List.length_cons] at h1; omega)
    obtain ⟨q', hA⟩ := laws_markIntS_o q (p ++ [m]) (m + 1) (by simp only [List.length_append, List.length_cons, List.length_nil] at h ⊢; omega) (by omega) (by simp only [List.length_cons] at h1; omega)
    have e : (m + 1) + (q.length : Int) = m + ((x :: q).length : Int) := by simp only [List.length_cons]; omega
    rw [e] at hA
    refine ⟨q', ev_up ?_⟩
    simp only [laws_markIntS.l0, mid_lt, mid_ge, set_mid, wrap_mid p m hp, hm, ↓reduceIte]
    rw [step_mid p q m]
    exact hA
theorem laws_markIntS_only (l : List Int) (h : l.length < 100000000000000) : ∃ m' l', 0 ≤ m' ∧ Ev (fun k => laws_markIntS.f k l 1) (m', l') := by
  obtain ⟨q', hA⟩ := laws_markIntS_o l [] 1 (by simp; omega) (by omega) (by omega)
  exact ⟨1 + l.length, q', by omega, by simpa [laws_markIntS.f] using hA⟩
/-- A valid record. -/
def okRec (r : S25) : Bool := decide ((r.f0 = 1 ∧ 0 ≤ r.f1 ∧ r.f1 ≤ 7 ∧ 0 ≤ r.f2 ∧ r.f2 ≤ 999) ∨ (r.f0 = 2 ∧ r.f1 = 0 ∧ r.f2 = 0))
def goodRecs (l : List S25) : Bool := l.all okRec && decide (l.length ≤ 40)
def goodNums (l : List Int) : Bool := (l.all fun x => decide (0 ≤ x ∧ x ≤ 9999)) && decide (l.length ≤ 200)
theorem spec_jrList_ev (l : List Int) (h : l.length < 9223372036854775807) : Ev (fun k => spec_jrList.f k l) (goodNums l) := by
  unfold goodNums
  by_cases hl : l.length ≤ 200
  · have : ((l.length : Int) ≤ 200) := by omega
    simp only [spec_jrList.f, this, ↓reduceIte, hl, decide_true, Bool.and_true]
    exact ev_bind (spec_l1All_ev l 0 9999 h) (Ev.now _)
  · have : ¬ ((l.length : Int) ≤ 200) := by omega
    simp only [spec_jrList.f, this, ↓reduceIte, hl, decide_false, Bool.and_false]
    exact Ev.now _
theorem impl_areNumbers_l0 : ∀ (q p : List Int), (p ++ q).length < 9223372036854775807 → Ev (fun k => impl_areNumbers.l0 k (p ++ q) ((p ++ q).length : Int) (p.length : Int)) (q.all fun x => decide (0 ≤ x ∧ x ≤ 9999))
  | [], p, h => by
    refine ev_up ?_
    simp only [impl_areNumbers.l0, mid_end, ↓reduceIte]
    exact ev_eq (Ev.now _) (by simp)
  | x :: q, p, h => by
    have hp : p.length < 9223372036854775807 := by simp only [List.length_append, List.length_cons] at h; omega
    refine ev_up ?_
    simp only [impl_areNumbers.l0, mid_lt, mid_ge, rd_mid, wrap_mid p x hp, ↓reduceIte, List.all_cons]
    by_cases h0 : x < 0
    · simp only [h0, ↓reduceIte]
      exact ev_eq (Ev.now _) (by have : ¬ 0 ≤ x := by omega
                                 simp [this])
    · by_cases h1 : x > 9999
      · simp only [h0, h1, ↓reduceIte]
        exact ev_eq (Ev.now _) (by have : ¬ x ≤ 9999 := by omega
                                   simp [this])
      · simp only [h0, h1, ↓reduceIte]
        have e : decide (0 ≤ x ∧ x ≤ 9999) = true := by rw [decide_eq_true_iff]; omega
        rw [e, Bool.true_and]
        rw [step_mid p q x] at h ⊢
        exact impl_areNumbers_l0 q (p ++ [x]) h
theorem impl_areNumbers_ev (l : List Int) (h : l.length < 9223372036854775807) : Ev (fun k => impl_areNumbers.f k l) (goodNums l) := by
  unfold goodNums
  by_cases hl : l.length ≤ 200
  · have : ¬ ((l.length : Int) > 200) := by omega
    simp only [impl_areNumbers.f, this, ↓reduceIte, hl, decide_true, Bool.and_true]
    simpa using impl_areNumbers_l0 l [] (by simpa using h)
  · have : ((l.length : Int) > 200) := by omega
    simp only [impl_areNumbers.f, this, ↓reduceIte, hl, decide_false, Bool.and_false]
    exact Ev.now _
/-- The end of the committed part: e so far, i records are behind. -/
def endOf : Nat → Nat → List S25 → Nat
  | _, e, [] => e
  | i, e, x :: q => endOf (i + 1) (if x.f0 = 2 then i + 1 else e) q
theorem endOf_le : ∀ (q : List S25) (i e : Nat), e ≤ i → e ≤ endOf i e q ∧ endOf i e q ≤ i + q.length
  | [], i, e, h => by simp [endOf, h]
  | x :: q, i, e, h => by
    simp only [endOf, List.length_cons]
    have := endOf_le q (i + 1) (if x.f0 = 2 then i + 1 else e) (by split <;> omega)
    split at this <;> rename_i hx <;> simp only [hx, ↓reduceIte] <;> omega
theorem endOf_snoc : ∀ (q : List S25) (x : S25) (i e : Nat), endOf i e (q ++ [x]) = if x.f0 = 2 then i + q.length + 1 else endOf i e q
  | [], x, i, e => by simp [endOf]
  | y :: q, x, i, e => by
    simp only [List.cons_append, endOf, endOf_snoc q x, List.length_cons]
    split <;> first | rfl | omega
def committed (l : List S25) : List S25 := l.take (endOf 0 0 l)
theorem committed_len (l : List S25) : (committed l).length ≤ l.length := by unfold committed; simp [List.length_take]; omega
theorem committed_mem (l : List S25) : ∀ x ∈ committed l, x ∈ l := fun _ h => List.mem_of_mem_take h
/-- The numbers of record n. -/
def recNums (r : S25) (n : Int) : List Int := [r.f0, r.f1, r.f2, n, Int.tmod (wrap64 ((wrap64 ((wrap64 ((wrap64 ((wrap64 (3 * r.f0)) + (wrap64 (5 * r.f1)))) + (wrap64 (7 * r.f2)))) + (wrap64 (11 * n)))) + 13)) 997]
theorem recNums_len (r : S25) (n : Int) : (recNums r n).length = 5 := rfl
/-- The journal of records, from record i on. -/
def numsFrom : Nat → List S25 → List Int
  | _, [] => []
  | i, x :: q => recNums x i ++ numsFrom (i + 1) q
theorem numsFrom_len : ∀ (q : List S25) (i : Nat), (numsFrom i q).length = 5 * q.length
  | [], _ => rfl
  | x :: q, i => by simp only [numsFrom, List.length_append, recNums_len, numsFrom_len q, List.length_cons]; omega
theorem rd_at (p q : List Int) (j : Nat) : rd (p ++ q) ((p.length : Int) + (j : Int)) = q.getD j 0 := by
  have : ((p.length : Int) + (j : Int)).toNat = p.length + j := by omega
  unfold rd
  rw [this, List.getD_eq_getElem?_getD, List.getD_eq_getElem?_getD, List.getElem?_append_right (by omega), Nat.add_sub_cancel_left]
theorem five {q : List Int} (h : ¬ q.length < 5) : ∃ a b c d e r, q = a :: b :: c :: d :: e :: r := by
  match q, h with
  | a :: b :: c :: d :: e :: r, _ => exact ⟨a, b, c, d, e, r, rfl⟩
  | [], h => simp at h
  | [_], h => simp at h
  | [_, _], h => simp at h
  | [_, _, _], h => simp at h
  | [_, _, _, _], h => simp at h
/-- The records that are recovered, n are before. -/
def recFrom : Nat → List Int → List S25
  | n, a :: b :: c :: d :: e :: r => if n < 40 ∧ okRec ⟨a, b, c⟩ = true ∧ recNums ⟨a, b, c⟩ n = [a, b, c, d, e] then ⟨a, b, c⟩ :: recFrom (n + 1) r else []
  | _, _ => []
theorem recFrom_short (n : Nat) {q : List Int} (h : q.length < 5) : recFrom n q = [] := by
  match q, h with
  | [], _ => rfl
  | [_], _ => rfl
  | [_, _], _ => rfl
  | [_, _, _], _ => rfl
  | [_, _, _, _], _ => rfl
  | _ :: _ :: _ :: _ :: _ :: _, h => simp at h; omega
theorem recFrom_ok : ∀ (m : Nat) (q : List Int) (n : Nat), q.length ≤ m → (∀ r ∈ recFrom n q, okRec r = true) ∧ n + (recFrom n q).length ≤ max n 40
  | m, q, n, hm => by
    by_cases hq : q.length < 5
    · rw [recFrom_short n hq]; simp; omega
    · obtain ⟨a, b, c, d, e, r, rfl⟩ := five hq
      match m, hm with
      | 0, hm => simp at hm
      | m + 1, hm =>
        simp only [recFrom]
        split
        · rename_i h
          obtain ⟨h1, h2⟩ := recFrom_ok m r (n + 1) (by simp at hm; omega)
          refine ⟨fun x hx => ?_, ?_⟩
          · rcases List.mem_cons.1 hx with rfl | hx
            · exact h.2.1
            · exact h1 x hx
          · simp only [List.length_cons]; omega
        · simp; omega
def recovered (q : List Int) : List S25 := recFrom 0 q
theorem recovered_ok (q : List Int) : ∀ r ∈ recovered q, okRec r = true := (recFrom_ok q.length q 0 (Nat.le_refl _)).1
theorem recovered_len (q : List Int) : (recovered q).length ≤ 40 := by have := (recFrom_ok q.length q 0 (Nat.le_refl _)).2; unfold recovered; omega
theorem slice_five (p : List Int) (a b c d e : Int) (r : List Int) : ((p ++ a :: b :: c :: d :: e :: r).take ((p.length : Int) + 5).toNat).drop ((p.length : Int)).toNat = [a, b, c, d, e] := by
  have h1 : ((p.length : Int) + 5).toNat = p.length + 5 := by omega
  have h2 : ((p.length : Int)).toNat = p.length := by omega
  rw [h1, h2, List.take_append, List.take_of_length_le (by omega : p.length ≤ p.length + 5), Nat.add_sub_cancel_left]
  simp
def rCutNumbers (l : List Int) (n : Int) : List Int × Bool := if goodNums l = true ∧ 0 ≤ n ∧ n ≤ 200 then (l.take (mn n l.length).toNat, true) else ([], false)
theorem rCutNumbers_len (l : List Int) (n : Int) (h : l.length ≤ 1048576) : (rCutNumbers l n).1.length ≤ 10000000 := by
  unfold rCutNumbers; split
  · simp only [List.length_take]; omega
  · simp
theorem mn_le (a b : Int) : mn a b ≤ a ∧ mn a b ≤ b := by unfold mn; split <;> omega
theorem mn_ge {a b c : Int} (h0 : c ≤ a) (h1 : c ≤ b) : c ≤ mn a b := by unfold mn; split <;> omega
def setAll (v : List Int) : List S25 → List Int
  | [] => v
  | x :: q => setAll (if x.f0 = 1 then v.set x.f1.toNat x.f2 else v) q
theorem setAll_len : ∀ (q : List S25) (v : List Int), (setAll v q).length = v.length
  | [], v => rfl
  | x :: q, v => by rw [setAll, setAll_len q]; split <;> simp
def values (l : List S25) : List Int := setAll (List.replicate 8 (-1)) (committed l)
theorem values_len (l : List S25) : (values l).length = 8 := by simp [values, setAll_len]
theorem okRec_key {r : S25} (h : okRec r = true) (h1 : r.f0 = 1) : 0 ≤ r.f1 ∧ r.f1 ≤ 7 := by
  unfold okRec at h; simp only [decide_eq_true_eq] at h; omega
theorem good_ok {l : List S25} (h : goodRecs l = true) : ∀ r ∈ l, okRec r = true := by
  unfold goodRecs at h; simp only [Bool.and_eq_true, List.all_eq_true] at h; exact h.1
theorem good_len {l : List S25} (h : goodRecs l = true) : l.length ≤ 40 := by
  unfold goodRecs at h; simp only [Bool.and_eq_true, decide_eq_true_eq] at h; exact h.2
def compactFrom : Nat → List Int → List S25
  | _, [] => []
  | i, v :: q => if v ≥ 0 then ⟨1, i, v⟩ :: compactFrom (i + 1) q else compactFrom (i + 1) q
theorem compactFrom_len : ∀ (q : List Int) (i : Nat), (compactFrom i q).length ≤ q.length
  | [], _ => by simp [compactFrom]
  | v :: q, i => by simp only [compactFrom]; have := compactFrom_len q (i + 1); split <;> simp <;> omega
def closeJ (out : List S25) : List S25 × Bool := if out.length > 0 then (out ++ [⟨2, 0, 0⟩], true) else (out, true)
def rCompactJournal (l : List S25) : List S25 × Bool := if goodRecs l = true then closeJ (compactFrom 0 (values l)) else ([], false)
theorem rCompactJournal_len (l : List S25) (h : l.length ≤ 1048576) : (rCompactJournal l).1.length ≤ 10000000 := by
  unfold rCompactJournal closeJ; have := compactFrom_len (values l) 0; rw [values_len] at this; split
  · split <;> simp <;> omega
  · simp
theorem jrCount_eq (n : Int) : spec_jrCount.f n = some (decide (0 ≤ n ∧ n ≤ 200)) := by simp [spec_jrCount.f, l1In_eq]
theorem spec_CutNumbers_ev (l : List Int) (n : Int) (h : l.length ≤ 1048576) : Ev (fun k => spec_CutNumbers.f k l n) (rCutNumbers l n) := by
  unfold rCutNumbers
  simp only [spec_CutNumbers.f, jrCount_eq, Option.bind_some]
  refine ev_bind (spec_jrList_ev l (by omega)) ?_
  cases goodNums l
  · simp only [Bool.false_eq_true, false_and, ↓reduceIte]
    refine ev_up ?_
    simp only [spec_CutNumbers.j0, ↓reduceIte]
    exact Ev.now _
  · by_cases hn : 0 ≤ n ∧ n ≤ 200
    · have m0 : (0 ≤ mn n (l.length : Int)) = True := by apply eq_true; exact mn_ge hn.1 (by omega)
      have m1 : (mn n (l.length : Int) ≤ (l.length : Int)) = True := by apply eq_true; exact (mn_le _ _).2
      simp only [hn, and_self, decide_true, Bool.not_true, ↓reduceIte]
      refine ev_up ?_
      simp only [spec_CutNumbers.j0, m0, m1, l1Least_eq, l1Own_eq (l.take (mn n (l.length : Int)).toNat) (by simp only [List.length_take]; omega), Option.bind_some, Bool.false_eq_true, ↓reduceIte]
      exact Ev.now _
    · simp only [hn, and_false, decide_false, Bool.not_false, ↓reduceIte]
      refine ev_up ?_
      simp only [spec_CutNumbers.j0, ↓reduceIte]
      exact Ev.now _
theorem impl_CutNumbers_ev (l : List Int) (n : Int) (h : l.length ≤ 1048576) : Ev (fun k => impl_CutNumbers.f k l n) (rCutNumbers l n) := by
  unfold rCutNumbers
  simp only [impl_CutNumbers.f, Option.bind_some]
  refine ev_bind (impl_areNumbers_ev l (by omega)) ?_
  cases goodNums l
  · exact ev_eq (Ev.now _) (by simp)
  · by_cases h0 : n < 0
    · have : ¬ (0 ≤ n ∧ n ≤ 200) := by omega
      simp only [h0, this, and_false, ↓reduceIte]
      exact Ev.now _
    · by_cases h1 : n > 200
      · have : ¬ (0 ≤ n ∧ n ≤ 200) := by omega
        simp only [h0, h1, this, and_false, ↓reduceIte]
        exact Ev.now _
      · have hn : 0 ≤ n ∧ n ≤ 200 := by omega
        have m0 : (0 ≤ mn n (l.length : Int)) = True := by apply eq_true; exact mn_ge hn.1 (by omega)
        have m1 : (mn n (l.length : Int) ≤ (l.length : Int)) = True := by apply eq_true; exact (mn_le _ _).2
        have m2 : (([] : List Int).length + (l.take (mn n (l.length : Int)).toNat).length < 17592186044416) = True := by apply eq_true; simp only [List.length_nil, List.length_take]; omega
        simp only [h0, h1, hn, m0, m1, m2, and_self, List.nil_append, ↓reduceIte]
        exact Ev.now _
theorem FnExactCutNumbers (l0 : List Int) (a1 : Int) (wl0 : l0.length ≤ maxLen) (we0 : ∀ z ∈ l0, (Lit.int .i64 z).wf = true) (wa1 : (Lit.int .i64 a1).wf = true) : ∃ k, laws_FnExactCutNumbers.f k l0 a1 = some true := by
  refine Ev.rounds (g := fun k => laws_FnExactCutNumbers.f k l0 a1) ?_
  by_cases hb : l0.length ≤ 1048576
  · have hc : (1048576 < (l0.length : Int)) = False := by apply eq_false; omega
    have T := laws_toIntS_ev l0 hb
    have E1 := laws_eqIntS_ev l0 (by omega)
    obtain ⟨m1, l1, h1, M1⟩ := laws_markIntS_only l0 (by omega)
    replace h1 : (m1 < 0) = False := by apply eq_false; omega
    have hR : (rCutNumbers l0 a1).1.length ≤ 10000000 := rCutNumbers_len _ _ (by omega)
    have S := spec_CutNumbers_ev l0 a1 (by omega)
    have I := impl_CutNumbers_ev l0 a1 (by omega)
    have E2 := laws_eqIntS_ev (rCutNumbers l0 a1).1 (by omega)
    obtain ⟨l2, -, M2, N2⟩ := laws_markIntS_ev (rCutNumbers l0 a1).1 1 (by omega) (by omega) (by omega)
    have h2 : (1 + ((rCutNumbers l0 a1).1.length : Int) < 0) = False := by apply eq_false; omega
    simp only [laws_FnExactCutNumbers.f]
    repeat (first
      | exact Ev.now _
      | with_reducible refine ev_bind (by with_reducible assumption) ?_
      | simp only [*, Option.bind_some, bne_self_eq_false, ↓reduceIte, Bool.false_eq_true, gt_iff_lt]
      | (refine ev_up ?_; simp only [laws_FnExactCutNumbers.j0, laws_FnExactCutNumbers.j1, laws_FnExactCutNumbers.j2]))
  · have hc : (1048576 < (l0.length : Int)) = True := by apply eq_true; omega
    simp only [laws_FnExactCutNumbers.f]
    repeat (first
      | exact Ev.now _
      | with_reducible refine ev_bind (by with_reducible assumption) ?_
      | simp only [*, Option.bind_some, bne_self_eq_false, ↓reduceIte, Bool.false_eq_true, gt_iff_lt]
      | (refine ev_up ?_; simp only [laws_FnExactCutNumbers.j0, laws_FnExactCutNumbers.j1, laws_FnExactCutNumbers.j2]))


end Go.Proofs.Ytojblklecncjnaa.Pure
