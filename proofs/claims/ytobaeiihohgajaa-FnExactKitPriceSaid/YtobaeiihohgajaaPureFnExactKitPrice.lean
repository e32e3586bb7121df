/- The law FnExactKitPrice of plain lists and numbers: whatever the input, it answers true. Condition: the lengths are those of rows that fit a machine. -/
import Derived.Test.YtobaeiihohgajaaF3
namespace Go.Proofs.Ytobaeiihohgajaa.Pure
open Go.RowKit Go.Proofs.Ytobaeiihohgajaa.Pall Go.Proofs.YtobaeiihohgajaaW.PrintWords Go.Proofs.YtobaeiihohgajaaW.PrintLast Go.Proofs.YtobaeiihohgajaaW.PrintMore
set_option linter.unusedVariables false
set_option linter.unusedSimpArgs false

/-! ### Ground: rounds, and a row seen as what is behind and what is ahead -/
theorem ev_up {α : Type} {g : Nat → Option α} {r : α} (h : Ev (fun k => g (k + 1)) r) : Ev g r := by
  obtain ⟨K, hK⟩ := h
  refine ⟨K + 1, fun k hk => ?_⟩
  obtain ⟨m, rfl⟩ : ∃ m, k = m + 1 := ⟨k - 1, by omega⟩
  exact hK m (by omega)
theorem ev_eq {α : Type} {g : Nat → Option α} {r r' : α} (h : Ev g r) (e : r = r') : Ev g r' := e ▸ h
theorem ev_bind {α β : Type} {g : Nat → Option α} {f : Nat → α → Option β} {a : α} {r : β} (h : Ev g a) (k : Ev (fun n => f n a) r) : Ev (fun n => (g n).bind (f n)) r := Ev.bind h k
theorem mid_lt {α : Type} (p q : List α) (x : α) : ((p.length : Int) < ((p ++ x :: q).length : Int)) = True := by
  apply eq_true; simp only [List.length_append, List.length_cons]; omega
theorem mid_lt2 {α β : Type} (p : List α) (p' q : List β) (x : β) (h : p.length = p'.length) : ((p.length : Int) < ((p' ++ x :: q).length : Int)) = True := by
  apply eq_true; simp only [List.length_append, List.length_cons]; omega
theorem mid_ge {α : Type} (p : List α) : (0 ≤ (p.length : Int)) = True := by apply eq_true; omega
theorem mid_end {α : Type} (p : List α) : ((p.length : Int) < ((p ++ []).length : Int)) = False := by simp
theorem mid_lt_l {α : Type} (p : List α) (x : α) (q : List α) : ((p.length : Int) < (p.length : Int) + ((x :: q).length : Int)) = True := by
  apply eq_true; simp only [List.length_cons]; omega
theorem rd_mid (p q : List Int) (x : Int) : rd (p ++ x :: q) (p.length : Int) = x := by simp [rd]
theorem rd_mid2 {α : Type} (p : List α) (p' q : List Int) (x : Int) (h : p.length = p'.length) : rd (p' ++ x :: q) (p.length : Int) = x := by simp [rd, h]
theorem getD_mid {α : Type} (p q : List α) (x z : α) : (p ++ x :: q).getD ((p.length : Int)).toNat z = x := by simp
theorem getD_mid2 {α β : Type} (p : List α) (p' q : List β) (x z : β) (h : p.length = p'.length) : (p' ++ x :: q).getD ((p.length : Int)).toNat z = x := by simp [h]
theorem set_mid {α : Type} (p q : List α) (x y : α) : (p ++ x :: q).set ((p.length : Int)).toNat y = p ++ y :: q := by simp
theorem set_mid2 {α β : Type} (p : List α) (p' q : List β) (x y : β) (h : p.length = p'.length) : (p' ++ x :: q).set ((p.length : Int)).toNat y = p' ++ y :: q := by simp [h]
theorem wrap_mid {α : Type} (p : List α) (x : α) (h : p.length < 9223372036854775807) : wrap64 ((p.length : Int) + 1) = ((p ++ [x]).length : Int) := by
  unfold wrap64; simp only [List.length_append, List.length_singleton]; omega
theorem step_mid {α : Type} (p q : List α) (x : α) : p ++ x :: q = (p ++ [x]) ++ q := by simp
theorem wrap_id {x : Int} (h0 : -9223372036854775808 ≤ x) (h1 : x ≤ 9223372036854775807) : wrap64 x = x := by unfold wrap64; omega
theorem wf_i64 {x : Int} (h : (Lit.int .i64 x).wf = true) : -9223372036854775808 ≤ x ∧ x ≤ 9223372036854775807 := by
  have h1 : IntKind.i64.min = -9223372036854775808 := by decide +kernel
  have h2 : IntKind.i64.max = 9223372036854775807 := by decide +kernel
  simp only [Lit.wf, h1, h2, Bool.and_eq_true, decide_eq_true_eq] at h
  omega
theorem laws_eqIntS_l0 : ∀ (q p : List Int), (p ++ q).length < 9223372036854775807 → Ev (fun k => laws_eqIntS.l0 k (p ++ q) (p ++ q) (p.length : Int)) true
  | [], p, h => by
    refine ev_up ?_
    simp only [laws_eqIntS.l0, mid_end, ↓reduceIte]
    exact Ev.now _
  | x :: q, p, h => by
    have hp : p.length < 9223372036854775807 := by simp only [List.length_append, List.length_cons] at h; omega
    refine ev_up ?_
    simp only [laws_eqIntS.l0, mid_lt, mid_ge, rd_mid, wrap_mid p x hp, ↓reduceIte]
    rw [step_mid p q x] at h ⊢
    exact laws_eqIntS_l0 q (p ++ [x]) h
theorem laws_eqIntS_ev (l : List Int) (h : l.length < 9223372036854775807) : Ev (fun k => laws_eqIntS.f k l l) true := by
  simp only [laws_eqIntS.f, ↓reduceIte]
  simpa using laws_eqIntS_l0 l [] (by simpa using h)
theorem laws_toIntS_l0 : ∀ (q p : List Int), (p ++ q).length < 9223372036854775807 → Ev (fun k => laws_toIntS.l0 k (p ++ q) (p ++ List.replicate q.length 0) (p.length : Int)) (p ++ q)
  | [], p, h => by
    refine ev_up ?_
    simp only [laws_toIntS.l0, mid_end, ↓reduceIte]
    exact ev_eq (Ev.now _) (by simp)
  | x :: q, p, h => by
    have hp : p.length < 9223372036854775807 := by simp only [List.length_append, List.length_cons] at h; omega
    refine ev_up ?_
    simp only [laws_toIntS.l0, List.length_cons, List.replicate_succ, mid_lt, mid_ge, rd_mid, set_mid, wrap_mid p x hp, ↓reduceIte]
    rw [step_mid p q x] at h ⊢
    rw [step_mid p (List.replicate q.length 0) x]
    exact laws_toIntS_l0 q (p ++ [x]) h
theorem laws_toIntS_ev (l : List Int) (h : l.length ≤ 1048576) : Ev (fun k => laws_toIntS.f k l) l := by
  have h0 : (0 ≤ (l.length : Int)) = True := by apply eq_true; omega
  have h1 : (((l.length : Int) : Int).toNat ≤ 35184372088832) = True := by apply eq_true; omega
  simp only [laws_toIntS.f, h0, h1, ↓reduceIte]
  simpa using laws_toIntS_l0 l [] (by simp; omega)
theorem l1In_eq (a lo hi : Int) : spec_l1In.f a lo hi = some (decide (lo ≤ a ∧ a ≤ hi)) := by
  by_cases h : lo ≤ a <;> simp [spec_l1In.f, h]
theorem spec_l1All_l0 (lo hi : Int) : ∀ (q p : List Int), (p ++ q).length < 9223372036854775807 → Ev (fun k => spec_l1All.l0 k lo hi (p ++ q) ((p ++ q).length : Int) (p.length : Int)) (q.all fun x => decide (lo ≤ x ∧ x ≤ hi))
  | [], p, h => by
    refine ev_up ?_
    simp only [spec_l1All.l0, mid_end, ↓reduceIte]
    exact Ev.now _
  | x :: q, p, h => by
    have hp : p.length < 9223372036854775807 := by simp only [List.length_append, List.length_cons] at h; omega
    refine ev_up ?_
    simp only [spec_l1All.l0, l1In_eq, Option.bind_some, mid_lt, mid_ge, rd_mid, wrap_mid p x hp, ↓reduceIte, List.all_cons]
    cases decide (lo ≤ x ∧ x ≤ hi) with
    | false => simpa using Ev.now _
    | true =>
      simp only [↓reduceIte, Bool.true_and]
      rw [step_mid p q x] at h ⊢
      exact spec_l1All_l0 lo hi q (p ++ [x]) h
theorem spec_l1All_ev (l : List Int) (lo hi : Int) (h : l.length < 9223372036854775807) : Ev (fun k => spec_l1All.f k l lo hi) (l.all fun x => decide (lo ≤ x ∧ x ≤ hi)) := by
  simpa [spec_l1All.f] using spec_l1All_l0 lo hi l [] (by simpa using h)
def okCell (c : S103) : Bool := decide (0 ≤ c.f0 ∧ c.f0 ≤ 7 ∧ (c.f1 = 0 ∨ (c.f1 = 1 ∧ (c.f0 = 3 ∨ c.f0 = 6))))
def goodBoard (r c : Int) (l : List S103) : Bool := decide (1 ≤ r ∧ r ≤ 10 ∧ 1 ≤ c ∧ c ≤ 9 ∧ (l.length : Int) = r * c) && l.all okCell
theorem size_le {r c : Int} (h1 : 1 ≤ r) (h2 : r ≤ 10) (h3 : 1 ≤ c) (h4 : c ≤ 9) : 0 ≤ r * c ∧ r * c ≤ 90 :=
  ⟨Int.mul_nonneg (by omega) (by omega), Int.le_trans (Int.mul_le_mul h2 h4 (by omega) (by omega)) (by omega)⟩
theorem goodBoard_len {r c : Int} {l : List S103} (h : goodBoard r c l = true) : l.length ≤ 90 := by
  unfold goodBoard at h
  simp only [Bool.and_eq_true, decide_eq_true_eq] at h
  have := size_le h.1.1 h.1.2.1 h.1.2.2.1 h.1.2.2.2.1
  omega
theorem goodBoard_ok {r c : Int} {l : List S103} (h : goodBoard r c l = true) : ∀ x ∈ l, okCell x = true := by
  unfold goodBoard at h
  simp only [Bool.and_eq_true, List.all_eq_true] at h
  exact h.2
theorem okCell_kind {x : S103} (h : okCell x = true) : 0 ≤ x.f0 ∧ x.f0 ≤ 7 := by
  unfold okCell at h; simp only [decide_eq_true_eq] at h; omega
/-- The cells of each kind. -/
def cnt (v : List Int) : List S103 → List Int
  | [] => v
  | x :: q => cnt (v.set x.f0.toNat (wrap64 (rd v x.f0 + 1))) q
theorem cnt_len : ∀ (q : List S103) (v : List Int), (cnt v q).length = v.length
  | [], v => rfl
  | x :: q, v => by rw [cnt, cnt_len q]; simp
def need (l : List S103) : List Int := (cnt (List.replicate 8 0) l).drop 1
theorem need_len (l : List S103) : (need l).length = 7 := by simp [need, cnt_len]
def goodKit (l : List Int) : Bool := decide (l.length = 7) && l.all fun x => decide (0 ≤ x ∧ x ≤ 600)
theorem goodKit_len {l : List Int} (h : goodKit l = true) : l.length = 7 := by
  unfold goodKit at h; simp only [Bool.and_eq_true, decide_eq_true_eq] at h; exact h.1
theorem spec_kiParts_ev (l : List Int) (h : l.length ≤ 1048576) : Ev (fun k => spec_kiParts.f k l) (goodKit l) := by
  unfold goodKit
  by_cases hl : l.length = 7
  · have : ((l.length : Int) = 7) = True := by apply eq_true; omega
    simp only [spec_kiParts.f, this, hl, decide_true, Bool.true_and, ↓reduceIte]
    exact ev_bind (spec_l1All_ev l 0 600 (by omega)) (Ev.now _)
  · have : ((l.length : Int) = 7) = False := by apply eq_false; omega
    simp only [spec_kiParts.f, this, hl, decide_false, Bool.false_and, ↓reduceIte]
    exact Ev.now _
theorem impl_isKit_l0 : ∀ (q p : List Int), (p ++ q).length < 9223372036854775807 → Ev (fun k => impl_isKit.l0 k (p ++ q) ((p ++ q).length : Int) (p.length : Int)) (q.all fun x => decide (0 ≤ x ∧ x ≤ 600))
  | [], p, h => by
    refine ev_up ?_
    simp only [impl_isKit.l0, mid_end, ↓reduceIte]
    exact ev_eq (Ev.now _) (by simp)
  | x :: q, p, h => by
    have hp : p.length < 9223372036854775807 := by simp only [List.length_append, List.length_cons] at h; omega
    refine ev_up ?_
    simp only [impl_isKit.l0, mid_lt, mid_ge, rd_mid, wrap_mid p x hp, ↓reduceIte, List.all_cons]
    by_cases h0 : x < 0
    · simp only [h0, ↓reduceIte]
      exact ev_eq (Ev.now _) (by have : ¬ 0 ≤ x := by omega
                                 simp [this])
    · by_cases h1 : x > 600
      · simp only [h0, h1, ↓reduceIte]
        exact ev_eq (Ev.now _) (by have : ¬ x ≤ 600 := by omega
                                   simp [this])
      · simp only [h0, h1, ↓reduceIte]
        have e : decide (0 ≤ x ∧ x ≤ 600) = true := by rw [decide_eq_true_iff]; omega
        rw [e, Bool.true_and]
        rw [step_mid p q x] at h ⊢
        exact impl_isKit_l0 q (p ++ [x]) h
theorem impl_isKit_ev (l : List Int) : Ev (fun k => impl_isKit.f k l) (goodKit l) := by
  unfold goodKit
  by_cases hl : l.length = 7
  · have : ((l.length : Int) = 7) = True := by apply eq_true; omega
    simp only [impl_isKit.f, this, hl, decide_true, Bool.true_and, ↓reduceIte]
    simpa [hl] using impl_isKit_l0 l [] (by simp; omega)
  · have : ((l.length : Int) = 7) = False := by apply eq_false; omega
    simp only [impl_isKit.f, this, hl, decide_false, Bool.false_and, ↓reduceIte]
    exact Ev.now _
def enoughV : List Int → List Int → Bool
  | a :: q', b :: q => if a < b then false else enoughV q' q
  | _, _ => true
def mostV (m : Int) : List Int → List Int → Int
  | a :: q', b :: q => mostV (if b > 0 then mn m (wrap64 (Int.tdiv a b)) else m) q' q
  | _, _ => m
def missV : List Int → List Int → List Int
  | a :: q', b :: q => mx 0 (wrap64 (b - a)) :: missV q' q
  | _, _ => []
def restV : List Int → List Int → List Int
  | a :: q', b :: q => wrap64 (a - b) :: restV q' q
  | _, _ => []
theorem missV_len : ∀ a b : List Int, (missV a b).length ≤ a.length
  | a :: q', b :: q => by simp only [missV, List.length_cons]; have := missV_len q' q; omega
  | [], _ => by simp [missV]
  | _ :: _, [] => by simp [missV]
theorem restV_len : ∀ a b : List Int, (restV a b).length ≤ a.length
  | a :: q', b :: q => by simp only [restV, List.length_cons]; have := restV_len q' q; omega
  | [], _ => by simp [restV]
  | _ :: _, [] => by simp [restV]
def goodPrices (l : List Int) : Bool := decide (l.length = 7) && l.all fun x => decide (0 ≤ x ∧ x ≤ 100)
def priceV (s : Int) : List Int → List Int → Int
  | a :: q', b :: q => priceV (wrap64 (s + wrap64 (a * b))) q' q
  | _, _ => s
def rKitPrice (kit prices : List Int) : Int × Bool := if goodKit kit = true ∧ goodPrices prices = true then (priceV 0 kit prices, true) else (0, false)
theorem spec_KitPrice_l0 : ∀ (q q' p p' : List Int) (s : Int), p.length = p'.length → q.length = q'.length → (p ++ q).length ≤ 7 → Ev (fun k => spec_KitPrice.l0 k (p' ++ q') s (p ++ q) ((p ++ q).length : Int) (p.length : Int)) (priceV s q q', true)
  | [], q', p, p', s, hl, hq, h => by
    obtain rfl : q' = [] := List.eq_nil_of_length_eq_zero hq.symm
    refine ev_up ?_
    simp only [spec_KitPrice.l0, mid_end, ↓reduceIte]
    exact ev_eq (Ev.now _) (by simp [priceV])
  | x :: q, [], p, p', s, hl, hq, h => by simp at hq
  | x :: q, y :: q', p, p', s, hl, hq, h => by
    have hp : p.length < 7 := by simp only [List.length_append, List.length_cons] at h; omega
    refine ev_up ?_
    simp only [spec_KitPrice.l0, mid_lt, mid_ge, mid_lt2 p p' q' y hl, rd_mid, rd_mid2 p p' q' y hl, wrap_mid p x (by omega), ↓reduceIte, priceV]
    rw [step_mid p q x, step_mid p' q' y]
    rw [step_mid p q x] at h
    exact spec_KitPrice_l0 q q' (p ++ [x]) (p' ++ [y]) _ (by simp [hl]) (by simpa using hq) h
theorem spec_KitPrice_ev (kit prices : List Int) (h : kit.length ≤ 1048576) (h2 : prices.length ≤ 1048576) : Ev (fun k => spec_KitPrice.f k kit prices) (rKitPrice kit prices) := by
  unfold rKitPrice
  have fin : Ev (fun k => spec_KitPrice.j0 k kit prices true) ((0 : Int), false) := by
    refine ev_up ?_
    simp only [spec_KitPrice.j0, ↓reduceIte]
    exact Ev.now _
  simp only [spec_KitPrice.f]
  refine ev_bind (spec_kiParts_ev kit h) ?_
  cases hk : goodKit kit
  · simpa using fin
  · simp only [↓reduceIte]
    have hkl := goodKit_len hk
    by_cases hp : prices.length = 7
    · have hp' : ((prices.length : Int) = 7) = True := by apply eq_true; omega
      have hg : goodPrices prices = prices.all fun x => decide (0 ≤ x ∧ x ≤ 100) := by simp [goodPrices, hp]
      simp only [hp', ↓reduceIte]
      refine ev_bind (spec_l1All_ev prices 0 100 (by omega)) ?_
      rw [← hg]
      cases goodPrices prices
      · simpa using fin
      · simp only [Bool.not_true, and_self, ↓reduceIte]
        refine ev_up ?_
        simp only [spec_KitPrice.j0, Bool.false_eq_true, ↓reduceIte]
        simpa using spec_KitPrice_l0 kit prices [] [] 0 rfl (by omega) (by simp; omega)
    · have hp' : ((prices.length : Int) = 7) = False := by apply eq_false; omega
      have hg : goodPrices prices = false := by simp [goodPrices, hp]
      simp only [hp', hg, ↓reduceIte]
      simpa using fin
theorem impl_KitPrice_l0 : ∀ (q q' p p' : List Int) (s : Int), p.length = p'.length → q.length = q'.length → (p ++ q).length ≤ 7 → Ev (fun k => impl_KitPrice.l0 k (p' ++ q') s (p ++ q) ((p ++ q).length : Int) (p.length : Int)) (if (q.all fun x => decide (0 ≤ x ∧ x ≤ 100)) = true then (priceV s q' q, true) else (0, false))
  | [], q', p, p', s, hl, hq, h => by
    obtain rfl : q' = [] := List.eq_nil_of_length_eq_zero hq.symm
    refine ev_up ?_
    simp only [impl_KitPrice.l0, mid_end, ↓reduceIte]
    exact ev_eq (Ev.now _) (by simp [priceV])
  | x :: q, [], p, p', s, hl, hq, h => by simp at hq
  | x :: q, y :: q', p, p', s, hl, hq, h => by
    have hp : p.length < 7 := by simp only [List.length_append, List.length_cons] at h; omega
    refine ev_up ?_
    simp only [impl_KitPrice.l0, mid_lt, mid_ge, mid_lt2 p p' q' y hl, rd_mid, rd_mid2 p p' q' y hl, wrap_mid p x (by omega), ↓reduceIte, List.all_cons]
    by_cases h0 : x < 0
    · have e : decide (0 ≤ x ∧ x ≤ 100) = false := by rw [decide_eq_false_iff_not]; omega
      simp only [h0, e, Bool.false_and, Bool.false_eq_true, ↓reduceIte]
      exact Ev.now _
    · by_cases h1 : x > 100
      · have e : decide (0 ≤ x ∧ x ≤ 100) = false := by rw [decide_eq_false_iff_not]; omega
        simp only [h0, h1, e, Bool.false_and, Bool.false_eq_true, ↓reduceIte]
        exact Ev.now _
      · have e : decide (0 ≤ x ∧ x ≤ 100) = true := by rw [decide_eq_true_iff]; omega
        simp only [h0, h1, e, Bool.true_and, ↓reduceIte, priceV]
        rw [step_mid p q x, step_mid p' q' y]
        rw [step_mid p q x] at h
        exact impl_KitPrice_l0 q q' (p ++ [x]) (p' ++ [y]) _ (by simp [hl]) (by simpa using hq) h
theorem impl_KitPrice_ev (kit prices : List Int) (h : kit.length ≤ 1048576) (h2 : prices.length ≤ 1048576) : Ev (fun k => impl_KitPrice.f k kit prices) (rKitPrice kit prices) := by
  unfold rKitPrice
  have fin : Ev (fun k => impl_KitPrice.j0 k kit prices true) ((0 : Int), false) := by
    refine ev_up ?_
    simp only [impl_KitPrice.j0, ↓reduceIte]
    exact Ev.now _
  simp only [impl_KitPrice.f]
  refine ev_bind (impl_isKit_ev kit) ?_
  cases hk : goodKit kit
  · simpa using fin
  · simp only [↓reduceIte]
    have hkl := goodKit_len hk
    by_cases hp : prices.length = 7
    · have hp' : ((prices.length : Int) != 7) = false := by simp; omega
      have hg : goodPrices prices = prices.all fun x => decide (0 ≤ x ∧ x ≤ 100) := by simp [goodPrices, hp]
      simp only [hp', hg, true_and]
      refine ev_up ?_
      simp only [impl_KitPrice.j0, Bool.false_eq_true, ↓reduceIte]
      simpa using impl_KitPrice_l0 prices kit [] [] 0 rfl (by omega) (by simp; omega)
    · have hp' : ((prices.length : Int) != 7) = true := by simp; omega
      have hg : goodPrices prices = false := by simp [goodPrices, hp]
      simp only [hp', hg]
      simpa using fin
theorem FnExactKitPrice (l0 : List Int) (l1 : List Int) (wl0 : l0.length ≤ maxLen) (we0 : ∀ z ∈ l0, (Lit.int .i64 z).wf = true) (wl1 : l1.length ≤ maxLen) (we1 : ∀ z ∈ l1, (Lit.int .i64 z).wf = true) : ∃ k, laws_FnExactKitPrice.f k l0 l1 = some true := by
  refine Ev.rounds (g := fun k => laws_FnExactKitPrice.f k l0 l1) ?_
  by_cases hb : l0.length ≤ 1048576 ∧ l1.length ≤ 1048576
  · obtain ⟨hb0, hb1⟩ := hb; have hc0 : (1048576 < (l0.length : Int)) = False := by apply eq_false; omega
    have hc1 : (1048576 < (l1.length : Int)) = False := by apply eq_false; omega
    have T0 := laws_toIntS_ev l0 hb0
    have E0 := laws_eqIntS_ev l0 (by omega)
    have T1 := laws_toIntS_ev l1 hb1
    have E1 := laws_eqIntS_ev l1 (by omega)
    have S := spec_KitPrice_ev l0 l1 (by omega) (by omega)
    have I := impl_KitPrice_ev l0 l1 (by omega) (by omega)
    simp only [laws_FnExactKitPrice.f]
    repeat (first
      | exact Ev.now _
      | with_reducible refine ev_bind (by with_reducible assumption) ?_
      | simp only [*, Option.bind_some, bne_self_eq_false, ↓reduceIte, Bool.false_eq_true, gt_iff_lt]
      | (refine ev_up ?_; simp only [laws_FnExactKitPrice.j0]))
  · by_cases hb0 : l0.length ≤ 1048576
    · have hc0 : (1048576 < (l0.length : Int)) = False := by apply eq_false; omega
      have hc1 : (1048576 < (l1.length : Int)) = True := by apply eq_true; omega
      simp only [laws_FnExactKitPrice.f, gt_iff_lt, hc0, hc1, ↓reduceIte]
      exact Ev.now _
    · have hc0 : (1048576 < (l0.length : Int)) = True := by apply eq_true; omega
      simp only [laws_FnExactKitPrice.f, gt_iff_lt, hc0, ↓reduceIte]
      exact Ev.now _

end Go.Proofs.Ytobaeiihohgajaa.Pure
