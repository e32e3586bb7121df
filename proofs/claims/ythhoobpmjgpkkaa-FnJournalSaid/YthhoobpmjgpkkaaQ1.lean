/- The functions and what they answer, proved over the engine; printed by a program. -/
import Derived.Test.YthhoobpmjgpkkaaQS
set_option linter.unusedVariables false
set_option linter.unusedSimpArgs false
set_option maxRecDepth 10000
set_option maxHeartbeats 40000000
namespace Go.Proofs.Ythhoobpmjgpkkaa.E
open Go Go.Sim Go.Proofs Go.RowKit Go.Proofs.YthhoobpmjgpkkaaW.PrintWords Go.Proofs.YthhoobpmjgpkkaaW.PrintMore
def laws_big.f (l0 : List Int) (l1 : List Int) : Option (Bool) := if (l0.length : Int) > 1048576 then (some true) else (some (decide ((l1.length : Int) > (wrap64 (1048576 - (l0.length : Int))))))

theorem laws_big_ok  (l0 : List Int) (l1 : List Int) (r0 : Bool) (h : laws_big.f l0 l1 = some r0) (n_l0 : Nat) (hn_l0 : l0.length = n_l0) (g_l0 : Nat → List V) (hg_l0 : encL eU l0 = g_l0) (n_l1 : Nat) (hn_l1 : l1.length = n_l1) (g_l1 : Nat → List V) (hg_l1 : encL eU l1 = g_l1)  : CallOK Try.prog 38 [.fz 1 n_l0 g_l0, .fz 1 n_l1 g_l1] [] (.val (.bool r0)) [] := by
  refine CallOK.of_code tabOK Try.func38 rfl rfl ⟨[], []⟩ ?_
  unfold laws_big.f at h
  obtain ⟨P, hP⟩ : ∃ P, Try.prog = P := ⟨_, rfl⟩
  rw [hP]
  (try rw [hn_l0] at h); (try rw [hn_l1] at h); skip
  cbv
  repeat' (first
    | ((with_reducible show ∃ _, _)
       first
        | (refine ⟨trivial, ?_⟩; cbv)
        | (refine side (by first | with_reducible eq_refl | assumption | (intro _ _; with_reducible eq_refl) | exact lt_ix (by assumption) (by assumption) (by assumption) | exact lt_ix2 (by assumption) (by assumption) (by assumption) (by assumption) | exact lt_y (by assumption) (by assumption) | exact le_y (by assumption) | exact ge_y (by assumption) | exact cut_le (by assumption) (by assumption) | omega) ?_; (try cbv)))
    | ((with_reducible show ∀ _ : Bool, _)
       first
        | (refine all_lt ?_ ?_ <;> (intro hd; first | exact absurd rfl hd | ((first | rw [if_pos hd] at h | rw [if_neg hd] at h | rw [if_pos (by omega)] at h | rw [if_neg (by omega)] at h | skip); (first | (rw [decide_eq_true hd] at h; (try simp only [bs, eq_self, if_true, if_false, reduceIte] at h)) | (rw [decide_eq_false hd] at h; (try simp only [bs, eq_self, if_true, if_false, reduceIte] at h)) | skip); cbv))))
    | ((with_reducible show ∀ _ : Int, _)
       first
        | (refine all_wrap ?_; intro y hy; (try rw [hy] at h); cbv)
        | (refine all_len_old (by assumption) ?_; cbv)
        | (refine all_len ?_; intro y hy; (try replace hy : ((_ : Nat) : Int) = y := hy); (try rw [hy] at h); (try rw [show (NatCast.natCast _ : Int) = _ from hy] at h); cbv))
    | (simp only [Option.some.injEq, Prod.mk.injEq] at h; subst h)
    | trivial)

def laws_sameInts.l0 : Nat → List Int → List Int → Int → Int → Option (Bool)
  | 0, _, _, _, _ => none
  | k + 1, x0, x1, x12, x13 => if x13 < x12 then (if 0 ≤ x13 then (if x13 < (x0.length : Int) then (if x13 < (x1.length : Int) then (if (rd x0 x13) = (rd x1 x13) then (laws_sameInts.l0 k x0 x1 x12 (wrap64 (x13 + 1))) else (some false)) else (none)) else (none)) else (none)) else (some true)
def laws_sameInts.f (k : Nat) (l0 : List Int) (l1 : List Int) : Option (Bool) := if (l0.length : Int) = (l1.length : Int) then (laws_sameInts.l0 k l0 l1 (l0.length : Int) 0) else (some false)

theorem laws_sameInts_ok (k : Nat) (l0 : List Int) (l1 : List Int) (r0 : Bool) (h : laws_sameInts.f k l0 l1 = some r0) (n_l0 : Nat) (hn_l0 : l0.length = n_l0) (g_l0 : Nat → List V) (hg_l0 : encL eI l0 = g_l0) (n_l1 : Nat) (hn_l1 : l1.length = n_l1) (g_l1 : Nat → List V) (hg_l1 : encL eI l1 = g_l1)  : CallOK Try.prog 42 [.fz 1 n_l0 g_l0, .fz 1 n_l1 g_l1] [] (.val (.bool r0)) [] := by
  refine CallOK.of_code tabOK Try.func42 rfl rfl ⟨[(7, []), (8, [0, 1, 12, 13]), (9, [])], []⟩ ?_
  unfold laws_sameInts.f at h
  obtain ⟨P, hP⟩ : ∃ P, Try.prog = P := ⟨_, rfl⟩
  rw [hP]
  (try rw [hn_l0] at h); (try rw [hn_l1] at h); skip
  cbv
  repeat' (first
    | ((with_reducible show ∃ _, _)
       first
        | (refine ⟨trivial, ?_⟩; cbv)
        | (refine side (by first | with_reducible eq_refl | assumption | (intro _ _; with_reducible eq_refl) | exact lt_ix (by assumption) (by assumption) (by assumption) | exact lt_ix2 (by assumption) (by assumption) (by assumption) (by assumption) | exact lt_y (by assumption) (by assumption) | exact le_y (by assumption) | exact ge_y (by assumption) | exact cut_le (by assumption) (by assumption) | omega) ?_; (try cbv))
        | (refine ⟨.still 9, side (by decide +kernel) ?_⟩; cbv))
    | ((with_reducible show ∃ _ : Nat, _)
       first
        | (refine ⟨_, [0, 1, 12, 13], Nat.lt_succ_self _, ?_⟩; cbv; exact ⟨_, _, _, _, _, _, _, _, h, by first | assumption | rfl, by first | assumption | rfl, by first | assumption | rfl, by first | assumption | rfl, rfl⟩))
    | ((with_reducible show ∃ _ : Nat → St → Prop, _)
       first
        | (refine ⟨fun k1 s => ∃ x0 x1 x12 x13 n_x0 g_x0 n_x1 g_x1, laws_sameInts.l0 k1 x0 x1 x12 x13 = some r0 ∧ x0.length = n_x0 ∧ encL eI x0 = g_x0 ∧ x1.length = n_x1 ∧ encL eI x1 = g_x1 ∧ s = ⟨⟨26, (upd 26 (upd 26 (upd 26 (upd 26 noT 13 (.val (.int .i64 x13))) 12 (.val (.int .i64 x12))) 1 (.fz 1 n_x1 g_x1)) 0 (.fz 1 n_x0 g_x0))⟩, []⟩, ?_, [], ?_⟩
           rotate_left
           · cbv; exact ⟨_, [0, 1, 12, 13], by cbv; exact ⟨_, _, _, _, _, _, _, _, h, by first | assumption | rfl, by first | assumption | rfl, by first | assumption | rfl, by first | assumption | rfl, rfl⟩⟩
           clear h
           rintro (_ | k1) s1 ⟨x0, x1, x12, x13, n_x0, g_x0, n_x1, g_x1, h, hn_x0, hg_x0, hn_x1, hg_x1, rfl⟩
           · cases h
           unfold laws_sameInts.l0 at h
           (try rw [hn_x0] at h); (try rw [hn_x1] at h); skip
           cbv))
    | ((with_reducible show ∀ _ : Bool, _)
       first
        | (refine all_lt ?_ ?_ <;> (intro hd; first | exact absurd rfl hd | ((first | rw [if_pos hd] at h | rw [if_neg hd] at h | rw [if_pos (by omega)] at h | rw [if_neg (by omega)] at h | skip); (first | (rw [decide_eq_true hd] at h; (try simp only [bs, eq_self, if_true, if_false, reduceIte] at h)) | (rw [decide_eq_false hd] at h; (try simp only [bs, eq_self, if_true, if_false, reduceIte] at h)) | skip); cbv)))
        | (refine all_bne ?_ ?_ <;> (intro hd; first | exact absurd rfl hd | ((first | rw [if_pos hd] at h | rw [if_neg hd] at h | rw [if_pos (by omega)] at h | rw [if_neg (by omega)] at h | skip); (first | (rw [bne_pos hd] at h; (try simp only [bs, eq_self, if_true, if_false, reduceIte] at h)) | (rw [bne_neg hd] at h; (try simp only [bs, eq_self, if_true, if_false, reduceIte] at h)) | skip); cbv))))
    | ((with_reducible show ∀ _ : Int, _)
       first
        | (refine all_wrap ?_; intro y hy; (try rw [hy] at h); cbv)
        | (refine all_len_old (by assumption) ?_; cbv)
        | (refine all_len ?_; intro y hy; (try replace hy : ((_ : Nat) : Int) = y := hy); (try rw [hy] at h); (try rw [show (NatCast.natCast _ : Int) = _ from hy] at h); cbv))
    | ((with_reducible show ∀ _ : List V, _)
       first
        | (refine @all_rd _ _ eI rd ?_ ?_ ?_ _ _ _ (fun _ _ => rfl) ?_ ?_ ?_ ?_ ?_ ?_
           rotate_left 3
           assumption
           assumption
           (first | rfl | assumption)
           (first | assumption | exact lt_ix (by assumption) (by assumption) (by assumption) | exact lt_ix2 (by assumption) (by assumption) (by assumption) (by assumption) | exact lt_y (by assumption) (by assumption) | exact le_y (by assumption) | exact ge_y (by assumption) | exact cut_le (by assumption) (by assumption) | omega)
           (first | assumption | exact lt_ix (by assumption) (by assumption) (by assumption) | exact lt_ix2 (by assumption) (by assumption) (by assumption) (by assumption) | exact lt_y (by assumption) (by assumption) | exact le_y (by assumption) | exact ge_y (by assumption) | exact cut_le (by assumption) (by assumption) | omega)
           intro z hz
           (try rw [hz] at h); cbv))
    | (obtain ⟨hc, h'⟩ := if_none h; clear h; have h := h'; clear h')
    | (simp only [Option.some.injEq, Prod.mk.injEq] at h; subst h)
    | trivial)

def impl_areNumbers.l0 : Nat → List Int → Int → Int → Option (Bool)
  | 0, _, _, _ => none
  | k + 1, x8, x9, x10 => if x10 < x9 then (if 0 ≤ x10 then (if x10 < (x8.length : Int) then (if (rd x8 x10) < 0 then (some false) else (if (rd x8 x10) > 9999 then (some false) else (impl_areNumbers.l0 k x8 x9 (wrap64 (x10 + 1))))) else (none)) else (none)) else (some true)
def impl_areNumbers.f (k : Nat) (l0 : List Int) : Option (Bool) := if (l0.length : Int) > 200 then (some false) else (impl_areNumbers.l0 k l0 (l0.length : Int) 0)

theorem impl_areNumbers_ok (k : Nat) (l0 : List Int) (r0 : Bool) (h : impl_areNumbers.f k l0 = some r0) (n_l0 : Nat) (hn_l0 : l0.length = n_l0) (g_l0 : Nat → List V) (hg_l0 : encL eI l0 = g_l0)  : CallOK Try.prog 149 [.fz 1 n_l0 g_l0] [] (.val (.bool r0)) [] := by
  refine CallOK.of_code tabOK Try.func149 rfl rfl ⟨[(7, []), (8, [8, 9, 10]), (9, [])], []⟩ ?_
  unfold impl_areNumbers.f at h
  obtain ⟨P, hP⟩ : ∃ P, Try.prog = P := ⟨_, rfl⟩
  rw [hP]
  (try rw [hn_l0] at h); skip
  cbv
  repeat' (first
    | ((with_reducible show ∃ _, _)
       first
        | (refine ⟨trivial, ?_⟩; cbv)
        | (refine side (by first | with_reducible eq_refl | assumption | (intro _ _; with_reducible eq_refl) | exact lt_ix (by assumption) (by assumption) (by assumption) | exact lt_ix2 (by assumption) (by assumption) (by assumption) (by assumption) | exact lt_y (by assumption) (by assumption) | exact le_y (by assumption) | exact ge_y (by assumption) | exact cut_le (by assumption) (by assumption) | omega) ?_; (try cbv)))
    | ((with_reducible show ∃ _ : Nat, _)
       first
        | (refine ⟨_, [8, 9, 10], Nat.lt_succ_self _, ?_⟩; cbv; exact ⟨_, _, _, _, _, h, by first | assumption | rfl, by first | assumption | rfl, rfl⟩))
    | ((with_reducible show ∃ _ : Nat → St → Prop, _)
       first
        | (refine ⟨fun k1 s => ∃ x8 x9 x10 n_x8 g_x8, impl_areNumbers.l0 k1 x8 x9 x10 = some r0 ∧ x8.length = n_x8 ∧ encL eI x8 = g_x8 ∧ s = ⟨⟨21, (upd 21 (upd 21 (upd 21 noT 10 (.val (.int .i64 x10))) 9 (.val (.int .i64 x9))) 8 (.fz 1 n_x8 g_x8))⟩, []⟩, ?_, [], ?_⟩
           rotate_left
           · cbv; exact ⟨_, [8, 9, 10], by cbv; exact ⟨_, _, _, _, _, h, by first | assumption | rfl, by first | assumption | rfl, rfl⟩⟩
           clear h
           rintro (_ | k1) s1 ⟨x8, x9, x10, n_x8, g_x8, h, hn_x8, hg_x8, rfl⟩
           · cases h
           unfold impl_areNumbers.l0 at h
           (try rw [hn_x8] at h); skip
           cbv))
    | ((with_reducible show ∀ _ : Bool, _)
       first
        | (refine all_lt ?_ ?_ <;> (intro hd; first | exact absurd rfl hd | ((first | rw [if_pos hd] at h | rw [if_neg hd] at h | rw [if_pos (by omega)] at h | rw [if_neg (by omega)] at h | skip); (first | (rw [decide_eq_true hd] at h; (try simp only [bs, eq_self, if_true, if_false, reduceIte] at h)) | (rw [decide_eq_false hd] at h; (try simp only [bs, eq_self, if_true, if_false, reduceIte] at h)) | skip); cbv))))
    | ((with_reducible show ∀ _ : Int, _)
       first
        | (refine all_wrap ?_; intro y hy; (try rw [hy] at h); cbv)
        | (refine all_len_old (by assumption) ?_; cbv)
        | (refine all_len ?_; intro y hy; (try replace hy : ((_ : Nat) : Int) = y := hy); (try rw [hy] at h); (try rw [show (NatCast.natCast _ : Int) = _ from hy] at h); cbv))
    | ((with_reducible show ∀ _ : List V, _)
       first
        | (refine @all_rd _ _ eI rd ?_ ?_ ?_ _ _ _ (fun _ _ => rfl) ?_ ?_ ?_ ?_ ?_ ?_
           rotate_left 3
           assumption
           assumption
           (first | rfl | assumption)
           (first | assumption | exact lt_ix (by assumption) (by assumption) (by assumption) | exact lt_ix2 (by assumption) (by assumption) (by assumption) (by assumption) | exact lt_y (by assumption) (by assumption) | exact le_y (by assumption) | exact ge_y (by assumption) | exact cut_le (by assumption) (by assumption) | omega)
           (first | assumption | exact lt_ix (by assumption) (by assumption) (by assumption) | exact lt_ix2 (by assumption) (by assumption) (by assumption) (by assumption) | exact lt_y (by assumption) (by assumption) | exact le_y (by assumption) | exact ge_y (by assumption) | exact cut_le (by assumption) (by assumption) | omega)
           intro z hz
           (try rw [hz] at h); cbv))
    | (obtain ⟨hc, h'⟩ := if_none h; clear h; have h := h'; clear h')
    | (simp only [Option.some.injEq, Prod.mk.injEq] at h; subst h)
    | trivial)

def impl_IsJournalRecord.f (a0_0 : Int) (a0_1 : Int) (a0_2 : Int) : Option (Bool) := if a0_0 = 1 then (if a0_1 ≥ 0 then (if a0_1 < 8 then (if a0_2 ≥ 0 then (some (decide (a0_2 ≤ 999))) else (some false)) else (some false)) else (some false)) else (if a0_0 = 2 then (if a0_1 = 0 then (some (a0_2 == 0)) else (some false)) else (some false))

theorem impl_IsJournalRecord_ok  (a0_0 : Int) (a0_1 : Int) (a0_2 : Int) (r0 : Bool) (h : impl_IsJournalRecord.f a0_0 a0_1 a0_2 = some r0)   : CallOK Try.prog 57 [.agg [.val (.int .i64 a0_0), .val (.int .i64 a0_1), .val (.int .i64 a0_2)]] [] (.val (.bool r0)) [] := by
  refine CallOK.of_code tabOK Try.func57 rfl rfl ⟨[(6, [])], []⟩ ?_
  unfold impl_IsJournalRecord.f at h
  obtain ⟨P, hP⟩ : ∃ P, Try.prog = P := ⟨_, rfl⟩
  rw [hP]
  skip
  cbv
  repeat' (first
    | ((with_reducible show ∃ _, _)
       first
        | (refine ⟨trivial, ?_⟩; cbv)
        | (refine side (by first | with_reducible eq_refl | assumption | (intro _ _; with_reducible eq_refl) | exact lt_ix (by assumption) (by assumption) (by assumption) | exact lt_ix2 (by assumption) (by assumption) (by assumption) (by assumption) | exact lt_y (by assumption) (by assumption) | exact le_y (by assumption) | exact ge_y (by assumption) | exact cut_le (by assumption) (by assumption) | omega) ?_; (try cbv)))
    | ((with_reducible show ∀ _ : Bool, _)
       first
        | (refine all_lt ?_ ?_ <;> (intro hd; first | exact absurd rfl hd | ((first | rw [if_pos hd] at h | rw [if_neg hd] at h | rw [if_pos (by omega)] at h | rw [if_neg (by omega)] at h | skip); (first | (rw [decide_eq_true hd] at h; (try simp only [bs, eq_self, if_true, if_false, reduceIte] at h)) | (rw [decide_eq_false hd] at h; (try simp only [bs, eq_self, if_true, if_false, reduceIte] at h)) | skip); cbv)))
        | (refine all_le ?_ ?_ <;> (intro hd; first | exact absurd rfl hd | ((first | rw [if_pos hd] at h | rw [if_neg hd] at h | rw [if_pos (by omega)] at h | rw [if_neg (by omega)] at h | skip); (first | (rw [decide_eq_true hd] at h; (try simp only [bs, eq_self, if_true, if_false, reduceIte] at h)) | (rw [decide_eq_false hd] at h; (try simp only [bs, eq_self, if_true, if_false, reduceIte] at h)) | skip); cbv)))
        | (refine all_beq ?_ ?_ <;> (intro hd; first | exact absurd rfl hd | ((first | rw [if_pos hd] at h | rw [if_neg hd] at h | rw [if_pos (by omega)] at h | rw [if_neg (by omega)] at h | skip); (first | (rw [beq_pos hd] at h; (try simp only [bs, eq_self, if_true, if_false, reduceIte] at h)) | (rw [beq_neg hd] at h; (try simp only [bs, eq_self, if_true, if_false, reduceIte] at h)) | skip); cbv))))
    | (simp only [Option.some.injEq, Prod.mk.injEq] at h; subst h)
    | trivial)

def impl_recordNumbers.f (a0_0 : Int) (a0_1 : Int) (a0_2 : Int) (a1 : Int) : Option (List Int) := some (([a0_0, a0_1, a0_2, a1, Int.tmod (wrap64 ((wrap64 ((wrap64 ((wrap64 ((wrap64 (3 * a0_0)) + (wrap64 (5 * a0_1)))) + (wrap64 (7 * a0_2)))) + (wrap64 (11 * a1)))) + 13)) 997] : List Int))

theorem impl_recordNumbers_ok  (a0_0 : Int) (a0_1 : Int) (a0_2 : Int) (a1 : Int) (r0 : List Int) (h : impl_recordNumbers.f a0_0 a0_1 a0_2 a1 = some r0)  (n_r0 : Nat) (hn_r0 : r0.length = n_r0) (g_r0 : Nat → List V) (hg_r0 : encL eI r0 = g_r0) : CallOK Try.prog 164 [.agg [.val (.int .i64 a0_0), .val (.int .i64 a0_1), .val (.int .i64 a0_2)], .val (.int .i64 a1)] [] (.row 0 0 n_r0) [.row 3 1 n_r0 g_r0] := by
  refine CallOK.of_code tabOK Try.func164 rfl rfl ⟨[], []⟩ ?_
  unfold impl_recordNumbers.f at h
  obtain ⟨P, hP⟩ : ∃ P, Try.prog = P := ⟨_, rfl⟩
  rw [hP]
  skip
  cbv
  repeat' (first
    | ((with_reducible show ∃ _, _)
       first
        | (refine ⟨trivial, ?_⟩; cbv)
        | (refine side (by first | with_reducible eq_refl | assumption | (intro _ _; with_reducible eq_refl) | exact lt_ix (by assumption) (by assumption) (by assumption) | exact lt_ix2 (by assumption) (by assumption) (by assumption) (by assumption) | exact lt_y (by assumption) (by assumption) | exact le_y (by assumption) | exact ge_y (by assumption) | exact cut_le (by assumption) (by assumption) | omega) ?_; (try cbv))
        | (refine bind_side (Eq.refl _) ?_; (try cbv))
        | (refine ⟨.row, ?_⟩; cbv))
    | ((with_reducible show ∃ _ : Nat → List V, _)
       first
        | (refine all_buildI5 ?_; intro g_b hg_b; cbv))
    | ((with_reducible show ∀ _ : Int, _)
       first
        | (refine all_wrap ?_; intro y hy; (try rw [hy] at h); cbv)
        | (refine all_eq (α := Int) ?_; intro y hy; (try replace hy : ((_ : Nat) : Int) = y := hy); (try rw [hy] at h); cbv))
    | (simp only [Option.some.injEq, Prod.mk.injEq] at h; subst h)
    | ((with_reducible show ∃ _, _)
       refine side (by first | exact enc_same (by assumption) (by assumption) _ | exact take_s1 (by assumption) (by assumption) (by assumption) | exact take_s2 (by assumption) (by assumption) (by assumption) (by assumption) (by assumption) | exact take_s3 (by assumption) (by assumption) (by assumption) | exact take_s4 (by assumption) (by assumption) (by assumption) | (intro k hk; subst_vars; first | eq_refl | exact enc_drop | exact enc_take hk | exact absurd hk (Nat.not_lt_zero k)) | (subst_vars; first | eq_refl | (simp; done) | (simp; omega)) | (have h1 : Int.toNat 1 = 1 := rfl; have h2 := one_le (by assumption) (by assumption); simp only [List.length_append, List.length_nil, List.length_drop, h1] at *; omega) | (simp only [Nat.cast] at *; omega)) ?_; (try cbv)))

def slices_Equal_int_int.l0 : Nat → List Int → List Int → Int → Int → Option (Bool)
  | 0, _, _, _, _ => none
  | k + 1, x0, x1, x12, x13 => if x13 < x12 then (if 0 ≤ x13 then (if x13 < (x0.length : Int) then (if x13 < (x1.length : Int) then (if (rd x0 x13) = (rd x1 x13) then (slices_Equal_int_int.l0 k x0 x1 x12 (wrap64 (x13 + 1))) else (some false)) else (none)) else (none)) else (none)) else (some true)
def slices_Equal_int_int.f (k : Nat) (l0 : List Int) (l1 : List Int) : Option (Bool) := if (l0.length : Int) = (l1.length : Int) then (slices_Equal_int_int.l0 k l0 l1 (l0.length : Int) 0) else (some false)

theorem slices_Equal_int_int_ok (k : Nat) (l0 : List Int) (l1 : List Int) (r0 : Bool) (h : slices_Equal_int_int.f k l0 l1 = some r0) (n_l0 : Nat) (hn_l0 : l0.length = n_l0) (g_l0 : Nat → List V) (hg_l0 : encL eI l0 = g_l0) (n_l1 : Nat) (hn_l1 : l1.length = n_l1) (g_l1 : Nat → List V) (hg_l1 : encL eI l1 = g_l1)  : CallOK Try.prog 202 [.fz 1 n_l0 g_l0, .fz 1 n_l1 g_l1] [] (.val (.bool r0)) [] := by
  refine CallOK.of_code tabOK Try.func202 rfl rfl ⟨[(7, []), (8, [0, 1, 12, 13]), (9, [])], []⟩ ?_
  unfold slices_Equal_int_int.f at h
  obtain ⟨P, hP⟩ : ∃ P, Try.prog = P := ⟨_, rfl⟩
  rw [hP]
  (try rw [hn_l0] at h); (try rw [hn_l1] at h); skip
  cbv
  repeat' (first
    | ((with_reducible show ∃ _, _)
       first
        | (refine ⟨trivial, ?_⟩; cbv)
        | (refine side (by first | with_reducible eq_refl | assumption | (intro _ _; with_reducible eq_refl) | exact lt_ix (by assumption) (by assumption) (by assumption) | exact lt_ix2 (by assumption) (by assumption) (by assumption) (by assumption) | exact lt_y (by assumption) (by assumption) | exact le_y (by assumption) | exact ge_y (by assumption) | exact cut_le (by assumption) (by assumption) | omega) ?_; (try cbv))
        | (refine ⟨.still 9, side (by decide +kernel) ?_⟩; cbv))
    | ((with_reducible show ∃ _ : Nat, _)
       first
        | (refine ⟨_, [0, 1, 12, 13], Nat.lt_succ_self _, ?_⟩; cbv; exact ⟨_, _, _, _, _, _, _, _, h, by first | assumption | rfl, by first | assumption | rfl, by first | assumption | rfl, by first | assumption | rfl, rfl⟩))
    | ((with_reducible show ∃ _ : Nat → St → Prop, _)
       first
        | (refine ⟨fun k1 s => ∃ x0 x1 x12 x13 n_x0 g_x0 n_x1 g_x1, slices_Equal_int_int.l0 k1 x0 x1 x12 x13 = some r0 ∧ x0.length = n_x0 ∧ encL eI x0 = g_x0 ∧ x1.length = n_x1 ∧ encL eI x1 = g_x1 ∧ s = ⟨⟨26, (upd 26 (upd 26 (upd 26 (upd 26 noT 13 (.val (.int .i64 x13))) 12 (.val (.int .i64 x12))) 1 (.fz 1 n_x1 g_x1)) 0 (.fz 1 n_x0 g_x0))⟩, []⟩, ?_, [], ?_⟩
           rotate_left
           · cbv; exact ⟨_, [0, 1, 12, 13], by cbv; exact ⟨_, _, _, _, _, _, _, _, h, by first | assumption | rfl, by first | assumption | rfl, by first | assumption | rfl, by first | assumption | rfl, rfl⟩⟩
           clear h
           rintro (_ | k1) s1 ⟨x0, x1, x12, x13, n_x0, g_x0, n_x1, g_x1, h, hn_x0, hg_x0, hn_x1, hg_x1, rfl⟩
           · cases h
           unfold slices_Equal_int_int.l0 at h
           (try rw [hn_x0] at h); (try rw [hn_x1] at h); skip
           cbv))
    | ((with_reducible show ∀ _ : Bool, _)
       first
        | (refine all_lt ?_ ?_ <;> (intro hd; first | exact absurd rfl hd | ((first | rw [if_pos hd] at h | rw [if_neg hd] at h | rw [if_pos (by omega)] at h | rw [if_neg (by omega)] at h | skip); (first | (rw [decide_eq_true hd] at h; (try simp only [bs, eq_self, if_true, if_false, reduceIte] at h)) | (rw [decide_eq_false hd] at h; (try simp only [bs, eq_self, if_true, if_false, reduceIte] at h)) | skip); cbv)))
        | (refine all_bne ?_ ?_ <;> (intro hd; first | exact absurd rfl hd | ((first | rw [if_pos hd] at h | rw [if_neg hd] at h | rw [if_pos (by omega)] at h | rw [if_neg (by omega)] at h | skip); (first | (rw [bne_pos hd] at h; (try simp only [bs, eq_self, if_true, if_false, reduceIte] at h)) | (rw [bne_neg hd] at h; (try simp only [bs, eq_self, if_true, if_false, reduceIte] at h)) | skip); cbv))))
    | ((with_reducible show ∀ _ : Int, _)
       first
        | (refine all_wrap ?_; intro y hy; (try rw [hy] at h); cbv)
        | (refine all_len_old (by assumption) ?_; cbv)
        | (refine all_len ?_; intro y hy; (try replace hy : ((_ : Nat) : Int) = y := hy); (try rw [hy] at h); (try rw [show (NatCast.natCast _ : Int) = _ from hy] at h); cbv))
    | ((with_reducible show ∀ _ : List V, _)
       first
        | (refine @all_rd _ _ eI rd ?_ ?_ ?_ _ _ _ (fun _ _ => rfl) ?_ ?_ ?_ ?_ ?_ ?_
           rotate_left 3
           assumption
           assumption
           (first | rfl | assumption)
           (first | assumption | exact lt_ix (by assumption) (by assumption) (by assumption) | exact lt_ix2 (by assumption) (by assumption) (by assumption) (by assumption) | exact lt_y (by assumption) (by assumption) | exact le_y (by assumption) | exact ge_y (by assumption) | exact cut_le (by assumption) (by assumption) | omega)
           (first | assumption | exact lt_ix (by assumption) (by assumption) (by assumption) | exact lt_ix2 (by assumption) (by assumption) (by assumption) (by assumption) | exact lt_y (by assumption) (by assumption) | exact le_y (by assumption) | exact ge_y (by assumption) | exact cut_le (by assumption) (by assumption) | omega)
           intro z hz
           (try rw [hz] at h); cbv))
    | (obtain ⟨hc, h'⟩ := if_none h; clear h; have h := h'; clear h')
    | (simp only [Option.some.injEq, Prod.mk.injEq] at h; subst h)
    | trivial)

mutual
def impl_recovered.l0 : Nat → List Int → List (S72) → Int → Option ((List (S72)))
  | 0, _, _, _ => none
  | k + 1, x0, x3, x4 => if x4 < 40 then (impl_recovered.j1 k x0 x3 x4 (decide ((wrap64 ((wrap64 (5 * x4)) + 5)) ≤ (x0.length : Int)))) else (impl_recovered.j1 k x0 x3 x4 false)
def impl_recovered.j1 : Nat → List Int → List (S72) → Int → Bool → Option ((List (S72)))
  | 0, _, _, _, _ => none
  | k + 1, x0, x3, x4, x17 => if x17 = true then (if 0 ≤ (wrap64 (5 * x4)) then (if (wrap64 (5 * x4)) ≤ (wrap64 ((wrap64 (5 * x4)) + 5)) then (if (wrap64 ((wrap64 (5 * x4)) + 5)) ≤ (x0.length : Int) then (if 0 < (((x0.take ((wrap64 ((wrap64 (5 * x4)) + 5)) : Int).toNat).drop ((wrap64 (5 * x4)) : Int).toNat).length : Int) then (if 1 < (((x0.take ((wrap64 ((wrap64 (5 * x4)) + 5)) : Int).toNat).drop ((wrap64 (5 * x4)) : Int).toNat).length : Int) then (if 2 < (((x0.take ((wrap64 ((wrap64 (5 * x4)) + 5)) : Int).toNat).drop ((wrap64 (5 * x4)) : Int).toNat).length : Int) then ((impl_IsJournalRecord.f (rd ((x0.take ((wrap64 ((wrap64 (5 * x4)) + 5)) : Int).toNat).drop ((wrap64 (5 * x4)) : Int).toNat) 0) (rd ((x0.take ((wrap64 ((wrap64 (5 * x4)) + 5)) : Int).toNat).drop ((wrap64 (5 * x4)) : Int).toNat) 1) (rd ((x0.take ((wrap64 ((wrap64 (5 * x4)) + 5)) : Int).toNat).drop ((wrap64 (5 * x4)) : Int).toNat) 2)).bind fun t322 => (if t322 = true then ((impl_recordNumbers.f (rd ((x0.take ((wrap64 ((wrap64 (5 * x4)) + 5)) : Int).toNat).drop ((wrap64 (5 * x4)) : Int).toNat) 0) (rd ((x0.take ((wrap64 ((wrap64 (5 * x4)) + 5)) : Int).toNat).drop ((wrap64 (5 * x4)) : Int).toNat) 1) (rd ((x0.take ((wrap64 ((wrap64 (5 * x4)) + 5)) : Int).toNat).drop ((wrap64 (5 * x4)) : Int).toNat) 2) x4).bind fun t323 => ((slices_Equal_int_int.f k t323 ((x0.take ((wrap64 ((wrap64 (5 * x4)) + 5)) : Int).toNat).drop ((wrap64 (5 * x4)) : Int).toNat)).bind fun t326 => (if t326 = true then (if x3.length < 5864062014805 then (impl_recovered.l0 k x0 (x3 ++ [(⟨rd ((x0.take ((wrap64 ((wrap64 (5 * x4)) + 5)) : Int).toNat).drop ((wrap64 (5 * x4)) : Int).toNat) 0, rd ((x0.take ((wrap64 ((wrap64 (5 * x4)) + 5)) : Int).toNat).drop ((wrap64 (5 * x4)) : Int).toNat) 1, rd ((x0.take ((wrap64 ((wrap64 (5 * x4)) + 5)) : Int).toNat).drop ((wrap64 (5 * x4)) : Int).toNat) 2⟩ : S72)]) (wrap64 (x4 + 1))) else (none)) else (some x3)))) else (some x3))) else (none)) else (none)) else (none)) else (none)) else (none)) else (none)) else (some x3)
end
def impl_recovered.f (k : Nat) (l0 : List Int) : Option ((List (S72))) := impl_recovered.l0 k l0 (([] : List (S72))) 0

theorem impl_recovered_ok (k : Nat) (l0 : List Int) (r0 : List (S72)) (h : impl_recovered.f k l0 = some r0) (n_l0 : Nat) (hn_l0 : l0.length = n_l0) (g_l0 : Nat → List V) (hg_l0 : encL eI l0 = g_l0) (n_r0 : Nat) (hn_r0 : r0.length = n_r0) (g_r0 : Nat → List V) (hg_r0 : encL e72 r0 = g_r0) : CallOK Try.prog 153 [.fz 1 n_l0 g_l0] [] (.row 0 0 n_r0) [.row 72 3 n_r0 g_r0] := by
  refine CallOK.of_code tabOK Try.func153 rfl rfl ⟨[(5, [0, 3, 4]), (7, [0, 3, 4, 5, 6]), (8, [0, 3, 4, 6]), (9, [3])], []⟩ ?_
  unfold impl_recovered.f at h
  obtain ⟨P, hP⟩ : ∃ P, Try.prog = P := ⟨_, rfl⟩
  rw [hP]
  (try rw [hn_l0] at h); skip
  cbv
  repeat' (first
    | ((with_reducible show ∃ _, _)
       first
        | (refine ⟨trivial, ?_⟩; cbv)
        | (refine side (by first | with_reducible eq_refl | assumption | (intro _ _; with_reducible eq_refl) | exact lt_ix (by assumption) (by assumption) (by assumption) | exact lt_ix2 (by assumption) (by assumption) (by assumption) (by assumption) | exact lt_y (by assumption) (by assumption) | exact le_y (by assumption) | exact ge_y (by assumption) | exact cut_le (by assumption) (by assumption) | omega) ?_; (try cbv))
        | (refine bind_side (Eq.refl _) ?_; (try cbv))
        | (refine ⟨.kept, side (Eq.refl _) (side (by first | trivial | exact ⟨clean_enc (by assumption) (by assumption) (fun _ => rfl), trivial⟩) ?_)⟩; cbv)
        | (refine ⟨Frz.own, ?_⟩; cbv)
        | (refine ⟨.row, ?_⟩; cbv)
        | (refine ⟨.chain [(0, 11), (1, 11), (2, 11), (3, 11), (4, 11), (5, 11), (6, 11), (7, 11), (8, 11), (9, 11)], side (by decide +kernel) ?_⟩; cbv))
    | ((with_reducible show ∃ _ : Nat, _)
       first
        | (refine ⟨k1, [0, 3, 4], (by omega), ?_⟩; cbv; exact ⟨_, _, _, _, _, _, _, h, by first | assumption | rfl, by first | assumption | rfl, by first | assumption | rfl, by first | assumption | rfl, rfl⟩))
    | ((with_reducible show ∃ _ : List Nat, _)
       first
        | ((with_reducible (have h0 : Option.bind (impl_IsJournalRecord.f _ _ _) _ = some _ := h; clear h0))
           refine ⟨[], ?_⟩; cbv
           repeat (first | (refine all_show (by first | omega | decide) ?_; cbv) | (refine all_showT (by assumption) (by assumption) (by assumption) (by first | assumption | exact lt_ix (by assumption) (by assumption) (by assumption) | exact lt_ix2 (by assumption) (by assumption) (by assumption) (by assumption) | exact lt_y (by assumption) (by assumption) | exact le_y (by assumption) | exact ge_y (by assumption) | exact cut_le (by assumption) (by assumption) | omega) (by first | assumption | exact cut_hi (by assumption) | exact cut_hi2 (by assumption) (by assumption) | omega) ?_; intro D hD hnD g hgD; (try rw [hD] at h); cbv))
           obtain ⟨t, ht, h'⟩ := bind_some h
           clear h; have h := h'; clear h'; (try dsimp only at h)
           refine ⟨_, _, (hP ▸ impl_IsJournalRecord_ok _ _ _ _ ht   : CallOK P 57 _ _ _ _), ?_⟩
           rcases t with _ | _ <;> (try simp only [bs, eq_self, if_true, if_false, reduceIte] at h) <;> (try (cases h; done)) <;> cbv)
        | ((with_reducible (have h0 : Option.bind (impl_recordNumbers.f _ _ _ _) _ = some _ := h; clear h0))
           refine ⟨[], ?_⟩; cbv
           repeat (first | (refine all_show (by first | omega | decide) ?_; cbv) | (refine all_showT (by assumption) (by assumption) (by assumption) (by first | assumption | exact lt_ix (by assumption) (by assumption) (by assumption) | exact lt_ix2 (by assumption) (by assumption) (by assumption) (by assumption) | exact lt_y (by assumption) (by assumption) | exact le_y (by assumption) | exact ge_y (by assumption) | exact cut_le (by assumption) (by assumption) | omega) (by first | assumption | exact cut_hi (by assumption) | exact cut_hi2 (by assumption) (by assumption) | omega) ?_; intro D hD hnD g hgD; (try rw [hD] at h); cbv))
           obtain ⟨t, ht, h'⟩ := bind_some h
           clear h; have h := h'; clear h'; (try dsimp only at h)
           obtain ⟨n_c164_0, hn_c164_0⟩ : ∃ n, t.length = n := ⟨_, rfl⟩; obtain ⟨g_t, hg_c164_0⟩ : ∃ g, encL eI t = g := ⟨_, rfl⟩; (try rw [hn_c164_0] at h)
           refine ⟨_, _, (hP ▸ impl_recordNumbers_ok _ _ _ _ _ ht  _ hn_c164_0 _ hg_c164_0 : CallOK P 164 _ _ _ _), ?_⟩; cbv)
        | ((with_reducible (have h0 : Option.bind (slices_Equal_int_int.f _ _ _) _ = some _ := h; clear h0))
           refine ⟨[], ?_⟩; cbv
           repeat (first | (refine all_show (by first | omega | decide) ?_; cbv) | (refine all_showT (by assumption) (by assumption) (by assumption) (by first | assumption | exact lt_ix (by assumption) (by assumption) (by assumption) | exact lt_ix2 (by assumption) (by assumption) (by assumption) (by assumption) | exact lt_y (by assumption) (by assumption) | exact le_y (by assumption) | exact ge_y (by assumption) | exact cut_le (by assumption) (by assumption) | omega) (by first | assumption | exact cut_hi (by assumption) | exact cut_hi2 (by assumption) (by assumption) | omega) ?_; intro D hD hnD g hgD; (try rw [hD] at h); cbv))
           obtain ⟨t, ht, h'⟩ := bind_some h
           clear h; have h := h'; clear h'; (try dsimp only at h)
           refine ⟨_, _, (hP ▸ slices_Equal_int_int_ok _ _ _ _ ht _ (by first | assumption | rfl) _ (by assumption) _ (by first | assumption | rfl) _ (by assumption)  : CallOK P 202 _ _ _ _), ?_⟩
           rcases t with _ | _ <;> (try simp only [bs, eq_self, if_true, if_false, reduceIte] at h) <;> (try (cases h; done)) <;> cbv))
    | ((with_reducible show ∃ _ : Nat → List V, _)
       first
        | (refine all_build1 e72 (x := ⟨_, _, _⟩) rfl ?_; intro g_b hg_b; cbv)
        | (refine all_build0 e72 ?_; intro g_b hg_b; cbv))
    | ((with_reducible show ∃ _ : Nat → St → Prop, _)
       first
        | (refine ⟨fun k1 s => ∃ x0 x3 x4 n_x0 g_x0 n_x3 g_x3, impl_recovered.l0 k1 x0 x3 x4 = some r0 ∧ x0.length = n_x0 ∧ encL eI x0 = g_x0 ∧ x3.length = n_x3 ∧ encL e72 x3 = g_x3 ∧ s = ⟨⟨53, (upd 53 (upd 53 (upd 53 noT 4 (.val (.int .i64 x4))) 3 (.row 0 0 n_x3)) 0 (.fz 1 n_x0 g_x0))⟩, [.row 72 3 n_x3 g_x3]⟩, ?_, [], ?_⟩
           rotate_left
           · cbv; exact ⟨_, [0, 3, 4], by cbv; exact ⟨_, _, _, _, _, _, _, h, by first | assumption | rfl, by first | assumption | rfl, by first | assumption | rfl, by first | assumption | rfl, rfl⟩⟩
           clear h
           rintro (_ | k1) s1 ⟨x0, x3, x4, n_x0, g_x0, n_x3, g_x3, h, hn_x0, hg_x0, hn_x3, hg_x3, rfl⟩
           · cases h
           unfold impl_recovered.l0 at h
           (try rw [hn_x0] at h); (try rw [hn_x3] at h); skip
           cbv))
    | ((with_reducible (have h0 : impl_recovered.j1 _ _ _ _ _ = some _ := h; clear h0))
       first
        | (unfold impl_recovered.j1 at h
           rcases k1 with _ | k1
           · cases h
           (try dsimp only at h); (try simp only [bs, eq_self, if_true, if_false, reduceIte] at h); (try rw [hn_l0] at h); (try rw [show (Nat.cast n_l0 : Int) = _ from (by assumption)] at h); (try rw [show (NatCast.natCast n_l0 : Int) = _ from (by assumption)] at h); (try (simp only [Nat.cast] at h; rw [show (NatCast.natCast n_l0 : Int) = _ from (by assumption)] at h)); (try rw [hn_c164_0] at h); (try rw [show (Nat.cast n_c164_0 : Int) = _ from (by assumption)] at h); (try rw [show (NatCast.natCast n_c164_0 : Int) = _ from (by assumption)] at h); (try (simp only [Nat.cast] at h; rw [show (NatCast.natCast n_c164_0 : Int) = _ from (by assumption)] at h)); (try rw [hn_x0] at h); (try rw [show (Nat.cast n_x0 : Int) = _ from (by assumption)] at h); (try rw [show (NatCast.natCast n_x0 : Int) = _ from (by assumption)] at h); (try (simp only [Nat.cast] at h; rw [show (NatCast.natCast n_x0 : Int) = _ from (by assumption)] at h)); (try rw [hn_x3] at h); (try rw [show (Nat.cast n_x3 : Int) = _ from (by assumption)] at h); (try rw [show (NatCast.natCast n_x3 : Int) = _ from (by assumption)] at h); (try (simp only [Nat.cast] at h; rw [show (NatCast.natCast n_x3 : Int) = _ from (by assumption)] at h))))
    | ((with_reducible show ∀ _ : Bool, _)
       first
        | (refine all_lt ?_ ?_ <;> (intro hd; first | exact absurd rfl hd | ((first | rw [if_pos hd] at h | rw [if_neg hd] at h | rw [if_pos (by omega)] at h | rw [if_neg (by omega)] at h | skip); (first | (rw [decide_eq_true hd] at h; (try simp only [bs, eq_self, if_true, if_false, reduceIte] at h)) | (rw [decide_eq_false hd] at h; (try simp only [bs, eq_self, if_true, if_false, reduceIte] at h)) | skip); cbv)))
        | (refine all_le ?_ ?_ <;> (intro hd; first | exact absurd rfl hd | ((first | rw [if_pos hd] at h | rw [if_neg hd] at h | rw [if_pos (by omega)] at h | rw [if_neg (by omega)] at h | skip); (first | (rw [decide_eq_true hd] at h; (try simp only [bs, eq_self, if_true, if_false, reduceIte] at h)) | (rw [decide_eq_false hd] at h; (try simp only [bs, eq_self, if_true, if_false, reduceIte] at h)) | skip); cbv))))
    | ((with_reducible show ∀ _ : Int, _)
       first
        | (refine all_wrap_old (by assumption) ?_; cbv)
        | (refine all_wrap ?_; intro y hy; (try rw [hy] at h); cbv)
        | (refine all_len ?_; intro y hy; (try replace hy : ((_ : Nat) : Int) = y := hy); (try rw [hy] at h); (try rw [show (NatCast.natCast _ : Int) = _ from hy] at h); cbv))
    | ((with_reducible show ∀ _ : Nat, _)
       first
        | (refine @all_cut ?_ ?_ ?_ ?_ _ _ _ _ ?_ ?_ ?_ ?_ ?_ ?_
           rotate_left 4
           assumption
           assumption
           (first | assumption | exact lt_ix (by assumption) (by assumption) (by assumption) | exact lt_ix2 (by assumption) (by assumption) (by assumption) (by assumption) | exact lt_y (by assumption) (by assumption) | exact le_y (by assumption) | exact ge_y (by assumption) | exact cut_le (by assumption) (by assumption) | omega)
           (first | assumption | exact lt_ix (by assumption) (by assumption) (by assumption) | exact lt_ix2 (by assumption) (by assumption) (by assumption) (by assumption) | exact lt_y (by assumption) (by assumption) | exact le_y (by assumption) | exact ge_y (by assumption) | exact cut_le (by assumption) (by assumption) | omega)
           (first | assumption | exact cut_hi (by assumption) | exact cut_hi2 (by assumption) (by assumption) | omega)
           intro D hD n_D hnD g hgD; (try rw [hD] at h); (try rw [hnD] at h); cbv)
        | (refine all_app (by first | assumption | exact (rfl : encL _ ([] : List _) = _)) (by first | assumption | rfl) (by assumption) (by first | assumption | rfl) ?_; intro L hL n_L hnL g hgL; (try rw [hL] at h); (try rw [Option.bind_some] at h); (try rw [hnL] at h); cbv))
    | ((with_reducible show ∀ _ : List V, _)
       first
        | (refine @all_rd _ _ eI rd ?_ ?_ ?_ _ _ _ (fun _ _ => rfl) ?_ ?_ ?_ ?_ ?_ ?_
           rotate_left 3
           assumption
           assumption
           (first | rfl | assumption)
           (first | assumption | exact lt_ix (by assumption) (by assumption) (by assumption) | exact lt_ix2 (by assumption) (by assumption) (by assumption) (by assumption) | exact lt_y (by assumption) (by assumption) | exact le_y (by assumption) | exact ge_y (by assumption) | exact cut_le (by assumption) (by assumption) | omega)
           (first | assumption | exact lt_ix (by assumption) (by assumption) (by assumption) | exact lt_ix2 (by assumption) (by assumption) (by assumption) (by assumption) | exact lt_y (by assumption) (by assumption) | exact le_y (by assumption) | exact ge_y (by assumption) | exact cut_le (by assumption) (by assumption) | omega)
           intro z hz
           (try rw [hz] at h); cbv))
    | (obtain ⟨hc, h'⟩ := if_none h; clear h; have h := h'; clear h')
    | (simp only [Option.some.injEq, Prod.mk.injEq] at h; subst h)
    | ((with_reducible show ∃ _, _)
       refine side (by first | exact enc_same (by assumption) (by assumption) _ | exact take_s1 (by assumption) (by assumption) (by assumption) | exact take_s2 (by assumption) (by assumption) (by assumption) (by assumption) (by assumption) | exact take_s3 (by assumption) (by assumption) (by assumption) | exact take_s4 (by assumption) (by assumption) (by assumption) | (intro k hk; subst_vars; first | eq_refl | exact enc_drop | exact enc_take hk | exact absurd hk (Nat.not_lt_zero k)) | (subst_vars; first | eq_refl | (simp; done) | (simp; omega)) | (have h1 : Int.toNat 1 = 1 := rfl; have h2 := one_le (by assumption) (by assumption); simp only [List.length_append, List.length_nil, List.length_drop, h1] at *; omega) | (simp only [Nat.cast] at *; omega)) ?_; (try cbv)))

def impl_RecoverRecords.f (k : Nat) (l0 : List Int) : Option ((List (S72)) × Int × Bool) := (impl_areNumbers.f k l0).bind fun t330 => (if t330 = true then ((impl_recovered.f k l0).bind fun t331 => (some (t331, wrap64 (5 * (t331.length : Int)), true))) else (some (([] : List (S72)), 0, false)))

theorem impl_RecoverRecords_ok (k : Nat) (l0 : List Int) (r0 : (List (S72))) (r1 : Int) (r2 : Bool) (h : impl_RecoverRecords.f k l0 = some (r0, r1, r2)) (n_l0 : Nat) (hn_l0 : l0.length = n_l0) (g_l0 : Nat → List V) (hg_l0 : encL eI l0 = g_l0) (n_r0 : Nat) (hn_r0 : r0.length = n_r0) (g_r0 : Nat → List V) (hg_r0 : encL e72 r0 = g_r0) : CallOK Try.prog 43 [.fz 1 n_l0 g_l0] [] (.tup [.row 0 0 n_r0, .val (.int .i64 r1), .val (.bool r2)]) [.row 72 3 n_r0 g_r0] := by
  refine CallOK.of_code tabOK Try.func43 rfl rfl ⟨[(4, [5])], []⟩ ?_
  unfold impl_RecoverRecords.f at h
  obtain ⟨P, hP⟩ : ∃ P, Try.prog = P := ⟨_, rfl⟩
  rw [hP]
  (try rw [hn_l0] at h); skip
  cbv
  repeat' (first
    | ((with_reducible show ∃ _, _)
       first
        | (refine ⟨trivial, ?_⟩; cbv)
        | (refine side (by first | with_reducible eq_refl | assumption | (intro _ _; with_reducible eq_refl) | exact lt_ix (by assumption) (by assumption) (by assumption) | exact lt_ix2 (by assumption) (by assumption) (by assumption) (by assumption) | exact lt_y (by assumption) (by assumption) | exact le_y (by assumption) | exact ge_y (by assumption) | exact cut_le (by assumption) (by assumption) | omega) ?_; (try cbv))
        | (refine bind_side (Eq.refl _) ?_; (try cbv))
        | (refine ⟨.kept, side (Eq.refl _) (side (by first | trivial | exact ⟨clean_enc (by assumption) (by assumption) (fun _ => rfl), trivial⟩) ?_)⟩; cbv)
        | (refine ⟨Frz.own, ?_⟩; cbv)
        | (refine ⟨.row, ?_⟩; cbv))
    | ((with_reducible show ∃ _ : List Nat, _)
       first
        | ((with_reducible (have h0 : Option.bind (impl_areNumbers.f _ _) _ = some _ := h; clear h0))
           refine ⟨[], ?_⟩; cbv
           repeat (first | (refine all_show (by first | omega | decide) ?_; cbv) | (refine all_showT (by assumption) (by assumption) (by assumption) (by first | assumption | exact lt_ix (by assumption) (by assumption) (by assumption) | exact lt_ix2 (by assumption) (by assumption) (by assumption) (by assumption) | exact lt_y (by assumption) (by assumption) | exact le_y (by assumption) | exact ge_y (by assumption) | exact cut_le (by assumption) (by assumption) | omega) (by first | assumption | exact cut_hi (by assumption) | exact cut_hi2 (by assumption) (by assumption) | omega) ?_; intro D hD hnD g hgD; (try rw [hD] at h); cbv))
           obtain ⟨t, ht, h'⟩ := bind_some h
           clear h; have h := h'; clear h'; (try dsimp only at h)
           refine ⟨_, _, (hP ▸ impl_areNumbers_ok _ _ _ ht _ (by first | assumption | rfl) _ (by assumption)  : CallOK P 149 _ _ _ _), ?_⟩
           rcases t with _ | _ <;> (try simp only [bs, eq_self, if_true, if_false, reduceIte] at h) <;> (try (cases h; done)) <;> cbv)
        | ((with_reducible (have h0 : Option.bind (impl_recovered.f _ _) _ = some _ := h; clear h0))
           refine ⟨[], ?_⟩; cbv
           repeat (first | (refine all_show (by first | omega | decide) ?_; cbv) | (refine all_showT (by assumption) (by assumption) (by assumption) (by first | assumption | exact lt_ix (by assumption) (by assumption) (by assumption) | exact lt_ix2 (by assumption) (by assumption) (by assumption) (by assumption) | exact lt_y (by assumption) (by assumption) | exact le_y (by assumption) | exact ge_y (by assumption) | exact cut_le (by assumption) (by assumption) | omega) (by first | assumption | exact cut_hi (by assumption) | exact cut_hi2 (by assumption) (by assumption) | omega) ?_; intro D hD hnD g hgD; (try rw [hD] at h); cbv))
           obtain ⟨t, ht, h'⟩ := bind_some h
           clear h; have h := h'; clear h'; (try dsimp only at h)
           obtain ⟨n_c153_0, hn_c153_0⟩ : ∃ n, t.length = n := ⟨_, rfl⟩; obtain ⟨g_t, hg_c153_0⟩ : ∃ g, encL e72 t = g := ⟨_, rfl⟩; (try rw [hn_c153_0] at h)
           refine ⟨_, _, (hP ▸ impl_recovered_ok _ _ _ ht _ (by first | assumption | rfl) _ (by assumption) _ hn_c153_0 _ hg_c153_0 : CallOK P 153 _ _ _ _), ?_⟩; cbv))
    | ((with_reducible show ∀ _ : Int, _)
       first
        | (refine all_wrap ?_; intro y hy; (try rw [hy] at h); cbv)
        | (refine all_len ?_; intro y hy; (try replace hy : ((_ : Nat) : Int) = y := hy); (try rw [hy] at h); (try rw [show (NatCast.natCast _ : Int) = _ from hy] at h); cbv))
    | (simp only [Option.some.injEq, Prod.mk.injEq] at h; obtain ⟨rfl, rfl, rfl⟩ := h)
    | ((with_reducible show ∃ _, _)
       refine side (by first | exact enc_same (by assumption) (by assumption) _ | exact take_s1 (by assumption) (by assumption) (by assumption) | exact take_s2 (by assumption) (by assumption) (by assumption) (by assumption) (by assumption) | exact take_s3 (by assumption) (by assumption) (by assumption) | exact take_s4 (by assumption) (by assumption) (by assumption) | (intro k hk; subst_vars; first | eq_refl | exact enc_drop | exact enc_take hk | exact absurd hk (Nat.not_lt_zero k)) | (subst_vars; first | eq_refl | (simp; done) | (simp; omega)) | (have h1 : Int.toNat 1 = 1 := rfl; have h2 := one_le (by assumption) (by assumption); simp only [List.length_append, List.length_nil, List.length_drop, h1] at *; omega) | (simp only [Nat.cast] at *; omega)) ?_; (try cbv)))

def spec_l1In.f (a0 : Int) (a1 : Int) (a2 : Int) : Option (Bool) := if a0 ≥ a1 then (some (decide (a0 ≤ a2))) else (some false)

theorem spec_l1In_ok  (a0 : Int) (a1 : Int) (a2 : Int) (r0 : Bool) (h : spec_l1In.f a0 a1 a2 = some r0)   : CallOK Try.prog 155 [.val (.int .i64 a0), .val (.int .i64 a1), .val (.int .i64 a2)] [] (.val (.bool r0)) [] := by
  refine CallOK.of_code tabOK Try.func155 rfl rfl ⟨[], []⟩ ?_
  unfold spec_l1In.f at h
  obtain ⟨P, hP⟩ : ∃ P, Try.prog = P := ⟨_, rfl⟩
  rw [hP]
  skip
  cbv
  repeat' (first
    | ((with_reducible show ∃ _, _)
       first
        | (refine ⟨trivial, ?_⟩; cbv)
        | (refine side (by first | with_reducible eq_refl | assumption | (intro _ _; with_reducible eq_refl) | exact lt_ix (by assumption) (by assumption) (by assumption) | exact lt_ix2 (by assumption) (by assumption) (by assumption) (by assumption) | exact lt_y (by assumption) (by assumption) | exact le_y (by assumption) | exact ge_y (by assumption) | exact cut_le (by assumption) (by assumption) | omega) ?_; (try cbv)))
    | ((with_reducible show ∀ _ : Bool, _)
       first
        | (refine all_le ?_ ?_ <;> (intro hd; first | exact absurd rfl hd | ((first | rw [if_pos hd] at h | rw [if_neg hd] at h | rw [if_pos (by omega)] at h | rw [if_neg (by omega)] at h | skip); (first | (rw [decide_eq_true hd] at h; (try simp only [bs, eq_self, if_true, if_false, reduceIte] at h)) | (rw [decide_eq_false hd] at h; (try simp only [bs, eq_self, if_true, if_false, reduceIte] at h)) | skip); cbv))))
    | (simp only [Option.some.injEq, Prod.mk.injEq] at h; subst h)
    | trivial)

def spec_l1All.l0 : Nat → Int → Int → List Int → Int → Int → Option (Bool)
  | 0, _, _, _, _, _ => none
  | k + 1, x1, x2, x9, x10, x11 => if x11 < x10 then (if 0 ≤ x11 then (if x11 < (x9.length : Int) then ((spec_l1In.f (rd x9 x11) x1 x2).bind fun t289 => (if t289 = true then (spec_l1All.l0 k x1 x2 x9 x10 (wrap64 (x11 + 1))) else (some false))) else (none)) else (none)) else (some true)
def spec_l1All.f (k : Nat) (l0 : List Int) (a1 : Int) (a2 : Int) : Option (Bool) := spec_l1All.l0 k a1 a2 l0 (l0.length : Int) 0

theorem spec_l1All_ok (k : Nat) (l0 : List Int) (a1 : Int) (a2 : Int) (r0 : Bool) (h : spec_l1All.f k l0 a1 a2 = some r0) (n_l0 : Nat) (hn_l0 : l0.length = n_l0) (g_l0 : Nat → List V) (hg_l0 : encL eI l0 = g_l0)  : CallOK Try.prog 119 [.fz 1 n_l0 g_l0, .val (.int .i64 a1), .val (.int .i64 a2)] [] (.val (.bool r0)) [] := by
  refine CallOK.of_code tabOK Try.func119 rfl rfl ⟨[(5, []), (6, [1, 2, 9, 10, 11]), (7, [])], []⟩ ?_
  unfold spec_l1All.f at h
  obtain ⟨P, hP⟩ : ∃ P, Try.prog = P := ⟨_, rfl⟩
  rw [hP]
  (try rw [hn_l0] at h); skip
  cbv
  repeat' (first
    | ((with_reducible show ∃ _, _)
       first
        | (refine ⟨trivial, ?_⟩; cbv)
        | (refine side (by first | with_reducible eq_refl | assumption | (intro _ _; with_reducible eq_refl) | exact lt_ix (by assumption) (by assumption) (by assumption) | exact lt_ix2 (by assumption) (by assumption) (by assumption) (by assumption) | exact lt_y (by assumption) (by assumption) | exact le_y (by assumption) | exact ge_y (by assumption) | exact cut_le (by assumption) (by assumption) | omega) ?_; (try cbv))
        | (refine ⟨Frz.own, ?_⟩; cbv))
    | ((with_reducible show ∃ _ : Nat, _)
       first
        | (refine ⟨_, [1, 2, 9, 10, 11], Nat.lt_succ_self _, ?_⟩; cbv; exact ⟨_, _, _, _, _, _, _, h, by first | assumption | rfl, by first | assumption | rfl, rfl⟩))
    | ((with_reducible show ∃ _ : List Nat, _)
       first
        | ((with_reducible (have h0 : Option.bind (spec_l1In.f _ _ _) _ = some _ := h; clear h0))
           refine ⟨[], ?_⟩; cbv
           repeat (first | (refine all_show (by first | omega | decide) ?_; cbv) | (refine all_showT (by assumption) (by assumption) (by assumption) (by first | assumption | exact lt_ix (by assumption) (by assumption) (by assumption) | exact lt_ix2 (by assumption) (by assumption) (by assumption) (by assumption) | exact lt_y (by assumption) (by assumption) | exact le_y (by assumption) | exact ge_y (by assumption) | exact cut_le (by assumption) (by assumption) | omega) (by first | assumption | exact cut_hi (by assumption) | exact cut_hi2 (by assumption) (by assumption) | omega) ?_; intro D hD hnD g hgD; (try rw [hD] at h); cbv))
           obtain ⟨t, ht, h'⟩ := bind_some h
           clear h; have h := h'; clear h'; (try dsimp only at h)
           refine ⟨_, _, (hP ▸ spec_l1In_ok _ _ _ _ ht   : CallOK P 155 _ _ _ _), ?_⟩
           rcases t with _ | _ <;> (try simp only [bs, eq_self, if_true, if_false, reduceIte] at h) <;> (try (cases h; done)) <;> cbv))
    | ((with_reducible show ∃ _ : Nat → St → Prop, _)
       first
        | (refine ⟨fun k1 s => ∃ x1 x2 x9 x10 x11 n_x9 g_x9, spec_l1All.l0 k1 x1 x2 x9 x10 x11 = some r0 ∧ x9.length = n_x9 ∧ encL eI x9 = g_x9 ∧ s = ⟨⟨21, (upd 21 (upd 21 (upd 21 (upd 21 (upd 21 noT 11 (.val (.int .i64 x11))) 10 (.val (.int .i64 x10))) 9 (.fz 1 n_x9 g_x9)) 2 (.val (.int .i64 x2))) 1 (.val (.int .i64 x1)))⟩, []⟩, ?_, [], ?_⟩
           rotate_left
           · cbv; exact ⟨_, [1, 2, 9, 10, 11], by cbv; exact ⟨_, _, _, _, _, _, _, h, by first | assumption | rfl, by first | assumption | rfl, rfl⟩⟩
           clear h
           rintro (_ | k1) s1 ⟨x1, x2, x9, x10, x11, n_x9, g_x9, h, hn_x9, hg_x9, rfl⟩
           · cases h
           unfold spec_l1All.l0 at h
           (try rw [hn_x9] at h); skip
           cbv))
    | ((with_reducible show ∀ _ : Bool, _)
       first
        | (refine all_lt ?_ ?_ <;> (intro hd; first | exact absurd rfl hd | ((first | rw [if_pos hd] at h | rw [if_neg hd] at h | rw [if_pos (by omega)] at h | rw [if_neg (by omega)] at h | skip); (first | (rw [decide_eq_true hd] at h; (try simp only [bs, eq_self, if_true, if_false, reduceIte] at h)) | (rw [decide_eq_false hd] at h; (try simp only [bs, eq_self, if_true, if_false, reduceIte] at h)) | skip); cbv))))
    | ((with_reducible show ∀ _ : Int, _)
       first
        | (refine all_wrap ?_; intro y hy; (try rw [hy] at h); cbv)
        | (refine all_len ?_; intro y hy; (try replace hy : ((_ : Nat) : Int) = y := hy); (try rw [hy] at h); (try rw [show (NatCast.natCast _ : Int) = _ from hy] at h); cbv))
    | ((with_reducible show ∀ _ : List V, _)
       first
        | (refine @all_rd _ _ eI rd ?_ ?_ ?_ _ _ _ (fun _ _ => rfl) ?_ ?_ ?_ ?_ ?_ ?_
           rotate_left 3
           assumption
           assumption
           (first | rfl | assumption)
           (first | assumption | exact lt_ix (by assumption) (by assumption) (by assumption) | exact lt_ix2 (by assumption) (by assumption) (by assumption) (by assumption) | exact lt_y (by assumption) (by assumption) | exact le_y (by assumption) | exact ge_y (by assumption) | exact cut_le (by assumption) (by assumption) | omega)
           (first | assumption | exact lt_ix (by assumption) (by assumption) (by assumption) | exact lt_ix2 (by assumption) (by assumption) (by assumption) (by assumption) | exact lt_y (by assumption) (by assumption) | exact le_y (by assumption) | exact ge_y (by assumption) | exact cut_le (by assumption) (by assumption) | omega)
           intro z hz
           (try rw [hz] at h); cbv))
    | (obtain ⟨hc, h'⟩ := if_none h; clear h; have h := h'; clear h')
    | (simp only [Option.some.injEq, Prod.mk.injEq] at h; subst h)
    | trivial)

def spec_jrList.f (k : Nat) (l0 : List Int) : Option (Bool) := if (l0.length : Int) ≤ 200 then ((spec_l1All.f k l0 0 9999).bind fun t290 => (some t290)) else (some false)

theorem spec_jrList_ok (k : Nat) (l0 : List Int) (r0 : Bool) (h : spec_jrList.f k l0 = some r0) (n_l0 : Nat) (hn_l0 : l0.length = n_l0) (g_l0 : Nat → List V) (hg_l0 : encL eI l0 = g_l0)  : CallOK Try.prog 150 [.fz 1 n_l0 g_l0] [] (.val (.bool r0)) [] := by
  refine CallOK.of_code tabOK Try.func150 rfl rfl ⟨[], []⟩ ?_
  unfold spec_jrList.f at h
  obtain ⟨P, hP⟩ : ∃ P, Try.prog = P := ⟨_, rfl⟩
  rw [hP]
  (try rw [hn_l0] at h); skip
  cbv
  repeat' (first
    | ((with_reducible show ∃ _, _)
       first
        | (refine ⟨trivial, ?_⟩; cbv)
        | (refine side (by first | with_reducible eq_refl | assumption | (intro _ _; with_reducible eq_refl) | exact lt_ix (by assumption) (by assumption) (by assumption) | exact lt_ix2 (by assumption) (by assumption) (by assumption) (by assumption) | exact lt_y (by assumption) (by assumption) | exact le_y (by assumption) | exact ge_y (by assumption) | exact cut_le (by assumption) (by assumption) | omega) ?_; (try cbv))
        | (refine ⟨Frz.own, ?_⟩; cbv))
    | ((with_reducible show ∃ _ : List Nat, _)
       first
        | ((with_reducible (have h0 : Option.bind (spec_l1All.f _ _ _ _) _ = some _ := h; clear h0))
           refine ⟨[], ?_⟩; cbv
           repeat (first | (refine all_show (by first | omega | decide) ?_; cbv) | (refine all_showT (by assumption) (by assumption) (by assumption) (by first | assumption | exact lt_ix (by assumption) (by assumption) (by assumption) | exact lt_ix2 (by assumption) (by assumption) (by assumption) (by assumption) | exact lt_y (by assumption) (by assumption) | exact le_y (by assumption) | exact ge_y (by assumption) | exact cut_le (by assumption) (by assumption) | omega) (by first | assumption | exact cut_hi (by assumption) | exact cut_hi2 (by assumption) (by assumption) | omega) ?_; intro D hD hnD g hgD; (try rw [hD] at h); cbv))
           obtain ⟨t, ht, h'⟩ := bind_some h
           clear h; have h := h'; clear h'; (try dsimp only at h)
           refine ⟨_, _, (hP ▸ spec_l1All_ok _ _ _ _ _ ht _ (by first | assumption | rfl) _ (by assumption)  : CallOK P 119 _ _ _ _), ?_⟩
           rcases t with _ | _ <;> (try simp only [bs, eq_self, if_true, if_false, reduceIte] at h) <;> (try (cases h; done)) <;> cbv))
    | ((with_reducible show ∀ _ : Bool, _)
       first
        | (refine all_le ?_ ?_ <;> (intro hd; first | exact absurd rfl hd | ((first | rw [if_pos hd] at h | rw [if_neg hd] at h | rw [if_pos (by omega)] at h | rw [if_neg (by omega)] at h | skip); (first | (rw [decide_eq_true hd] at h; (try simp only [bs, eq_self, if_true, if_false, reduceIte] at h)) | (rw [decide_eq_false hd] at h; (try simp only [bs, eq_self, if_true, if_false, reduceIte] at h)) | skip); cbv))))
    | ((with_reducible show ∀ _ : Int, _)
       first
        | (refine all_len ?_; intro y hy; (try replace hy : ((_ : Nat) : Int) = y := hy); (try rw [hy] at h); (try rw [show (NatCast.natCast _ : Int) = _ from hy] at h); cbv))
    | (simp only [Option.some.injEq, Prod.mk.injEq] at h; subst h)
    | trivial)

def spec_jrRecord.f (a0_0 : Int) (a0_1 : Int) (a0_2 : Int) : Option (Bool) := if a0_0 = 2 then (if a0_1 = 0 then (some (a0_2 == 0)) else (some false)) else (if a0_0 = 1 then ((spec_l1In.f a0_1 0 7).bind fun t154 => (if t154 = true then ((spec_l1In.f a0_2 0 999).bind fun t155 => (some t155)) else (some false))) else (some false))

theorem spec_jrRecord_ok  (a0_0 : Int) (a0_1 : Int) (a0_2 : Int) (r0 : Bool) (h : spec_jrRecord.f a0_0 a0_1 a0_2 = some r0)   : CallOK Try.prog 165 [.agg [.val (.int .i64 a0_0), .val (.int .i64 a0_1), .val (.int .i64 a0_2)]] [] (.val (.bool r0)) [] := by
  refine CallOK.of_code tabOK Try.func165 rfl rfl ⟨[(3, [1])], []⟩ ?_
  unfold spec_jrRecord.f at h
  obtain ⟨P, hP⟩ : ∃ P, Try.prog = P := ⟨_, rfl⟩
  rw [hP]
  skip
  cbv
  repeat' (first
    | ((with_reducible show ∃ _, _)
       first
        | (refine ⟨trivial, ?_⟩; cbv)
        | (refine side (by first | with_reducible eq_refl | assumption | (intro _ _; with_reducible eq_refl) | exact lt_ix (by assumption) (by assumption) (by assumption) | exact lt_ix2 (by assumption) (by assumption) (by assumption) (by assumption) | exact lt_y (by assumption) (by assumption) | exact le_y (by assumption) | exact ge_y (by assumption) | exact cut_le (by assumption) (by assumption) | omega) ?_; (try cbv))
        | (refine ⟨Frz.own, ?_⟩; cbv))
    | ((with_reducible show ∃ _ : List Nat, _)
       first
        | ((with_reducible (have h0 : Option.bind (spec_l1In.f _ _ _) _ = some _ := h; clear h0))
           refine ⟨[], ?_⟩; cbv
           repeat (first | (refine all_show (by first | omega | decide) ?_; cbv) | (refine all_showT (by assumption) (by assumption) (by assumption) (by first | assumption | exact lt_ix (by assumption) (by assumption) (by assumption) | exact lt_ix2 (by assumption) (by assumption) (by assumption) (by assumption) | exact lt_y (by assumption) (by assumption) | exact le_y (by assumption) | exact ge_y (by assumption) | exact cut_le (by assumption) (by assumption) | omega) (by first | assumption | exact cut_hi (by assumption) | exact cut_hi2 (by assumption) (by assumption) | omega) ?_; intro D hD hnD g hgD; (try rw [hD] at h); cbv))
           obtain ⟨t, ht, h'⟩ := bind_some h
           clear h; have h := h'; clear h'; (try dsimp only at h)
           refine ⟨_, _, (hP ▸ spec_l1In_ok _ _ _ _ ht   : CallOK P 155 _ _ _ _), ?_⟩
           rcases t with _ | _ <;> (try simp only [bs, eq_self, if_true, if_false, reduceIte] at h) <;> (try (cases h; done)) <;> cbv))
    | ((with_reducible show ∀ _ : Bool, _)
       first
        | (refine all_beq ?_ ?_ <;> (intro hd; first | exact absurd rfl hd | ((first | rw [if_pos hd] at h | rw [if_neg hd] at h | rw [if_pos (by omega)] at h | rw [if_neg (by omega)] at h | skip); (first | (rw [beq_pos hd] at h; (try simp only [bs, eq_self, if_true, if_false, reduceIte] at h)) | (rw [beq_neg hd] at h; (try simp only [bs, eq_self, if_true, if_false, reduceIte] at h)) | skip); cbv))))
    | (simp only [Option.some.injEq, Prod.mk.injEq] at h; subst h)
    | trivial)

def spec_jrOf.f (a0_0 : Int) (a0_1 : Int) (a0_2 : Int) (a1 : Int) : Option (List Int) := some (([a0_0, a0_1, a0_2, a1, Int.tmod (wrap64 ((wrap64 ((wrap64 ((wrap64 ((wrap64 (3 * a0_0)) + (wrap64 (5 * a0_1)))) + (wrap64 (7 * a0_2)))) + (wrap64 (11 * a1)))) + 13)) 997] : List Int))

theorem spec_jrOf_ok  (a0_0 : Int) (a0_1 : Int) (a0_2 : Int) (a1 : Int) (r0 : List Int) (h : spec_jrOf.f a0_0 a0_1 a0_2 a1 = some r0)  (n_r0 : Nat) (hn_r0 : r0.length = n_r0) (g_r0 : Nat → List V) (hg_r0 : encL eI r0 = g_r0) : CallOK Try.prog 166 [.agg [.val (.int .i64 a0_0), .val (.int .i64 a0_1), .val (.int .i64 a0_2)], .val (.int .i64 a1)] [] (.row 0 0 n_r0) [.row 3 1 n_r0 g_r0] := by
  refine CallOK.of_code tabOK Try.func166 rfl rfl ⟨[], []⟩ ?_
  unfold spec_jrOf.f at h
  obtain ⟨P, hP⟩ : ∃ P, Try.prog = P := ⟨_, rfl⟩
  rw [hP]
  skip
  cbv
  repeat' (first
    | ((with_reducible show ∃ _, _)
       first
        | (refine ⟨trivial, ?_⟩; cbv)
        | (refine side (by first | with_reducible eq_refl | assumption | (intro _ _; with_reducible eq_refl) | exact lt_ix (by assumption) (by assumption) (by assumption) | exact lt_ix2 (by assumption) (by assumption) (by assumption) (by assumption) | exact lt_y (by assumption) (by assumption) | exact le_y (by assumption) | exact ge_y (by assumption) | exact cut_le (by assumption) (by assumption) | omega) ?_; (try cbv))
        | (refine bind_side (Eq.refl _) ?_; (try cbv))
        | (refine ⟨.row, ?_⟩; cbv))
    | ((with_reducible show ∃ _ : Nat → List V, _)
       first
        | (refine all_buildI5 ?_; intro g_b hg_b; cbv))
    | ((with_reducible show ∀ _ : Int, _)
       first
        | (refine all_wrap ?_; intro y hy; (try rw [hy] at h); cbv)
        | (refine all_eq (α := Int) ?_; intro y hy; (try replace hy : ((_ : Nat) : Int) = y := hy); (try rw [hy] at h); cbv))
    | (simp only [Option.some.injEq, Prod.mk.injEq] at h; subst h)
    | ((with_reducible show ∃ _, _)
       refine side (by first | exact enc_same (by assumption) (by assumption) _ | exact take_s1 (by assumption) (by assumption) (by assumption) | exact take_s2 (by assumption) (by assumption) (by assumption) (by assumption) (by assumption) | exact take_s3 (by assumption) (by assumption) (by assumption) | exact take_s4 (by assumption) (by assumption) (by assumption) | (intro k hk; subst_vars; first | eq_refl | exact enc_drop | exact enc_take hk | exact absurd hk (Nat.not_lt_zero k)) | (subst_vars; first | eq_refl | (simp; done) | (simp; omega)) | (have h1 : Int.toNat 1 = 1 := rfl; have h2 := one_le (by assumption) (by assumption); simp only [List.length_append, List.length_nil, List.length_drop, h1] at *; omega) | (simp only [Nat.cast] at *; omega)) ?_; (try cbv)))

def spec_l1Same.l0 : Nat → List Int → List Int → Int → Int → Option (Bool)
  | 0, _, _, _, _ => none
  | k + 1, x0, x1, x12, x13 => if x13 < x12 then (if 0 ≤ x13 then (if x13 < (x0.length : Int) then (if x13 < (x1.length : Int) then (if (rd x0 x13) = (rd x1 x13) then (spec_l1Same.l0 k x0 x1 x12 (wrap64 (x13 + 1))) else (some false)) else (none)) else (none)) else (none)) else (some true)
def spec_l1Same.f (k : Nat) (l0 : List Int) (l1 : List Int) : Option (Bool) := if (l0.length : Int) = (l1.length : Int) then (spec_l1Same.l0 k l0 l1 (l0.length : Int) 0) else (some false)

theorem spec_l1Same_ok (k : Nat) (l0 : List Int) (l1 : List Int) (r0 : Bool) (h : spec_l1Same.f k l0 l1 = some r0) (n_l0 : Nat) (hn_l0 : l0.length = n_l0) (g_l0 : Nat → List V) (hg_l0 : encL eI l0 = g_l0) (n_l1 : Nat) (hn_l1 : l1.length = n_l1) (g_l1 : Nat → List V) (hg_l1 : encL eI l1 = g_l1)  : CallOK Try.prog 203 [.fz 1 n_l0 g_l0, .fz 1 n_l1 g_l1] [] (.val (.bool r0)) [] := by
  refine CallOK.of_code tabOK Try.func203 rfl rfl ⟨[(7, []), (8, [0, 1, 12, 13]), (9, [])], []⟩ ?_
  unfold spec_l1Same.f at h
  obtain ⟨P, hP⟩ : ∃ P, Try.prog = P := ⟨_, rfl⟩
  rw [hP]
  (try rw [hn_l0] at h); (try rw [hn_l1] at h); skip
  cbv
  repeat' (first
    | ((with_reducible show ∃ _, _)
       first
        | (refine ⟨trivial, ?_⟩; cbv)
        | (refine side (by first | with_reducible eq_refl | assumption | (intro _ _; with_reducible eq_refl) | exact lt_ix (by assumption) (by assumption) (by assumption) | exact lt_ix2 (by assumption) (by assumption) (by assumption) (by assumption) | exact lt_y (by assumption) (by assumption) | exact le_y (by assumption) | exact ge_y (by assumption) | exact cut_le (by assumption) (by assumption) | omega) ?_; (try cbv))
        | (refine ⟨.still 9, side (by decide +kernel) ?_⟩; cbv))
    | ((with_reducible show ∃ _ : Nat, _)
       first
        | (refine ⟨_, [0, 1, 12, 13], Nat.lt_succ_self _, ?_⟩; cbv; exact ⟨_, _, _, _, _, _, _, _, h, by first | assumption | rfl, by first | assumption | rfl, by first | assumption | rfl, by first | assumption | rfl, rfl⟩))
    | ((with_reducible show ∃ _ : Nat → St → Prop, _)
       first
        | (refine ⟨fun k1 s => ∃ x0 x1 x12 x13 n_x0 g_x0 n_x1 g_x1, spec_l1Same.l0 k1 x0 x1 x12 x13 = some r0 ∧ x0.length = n_x0 ∧ encL eI x0 = g_x0 ∧ x1.length = n_x1 ∧ encL eI x1 = g_x1 ∧ s = ⟨⟨26, (upd 26 (upd 26 (upd 26 (upd 26 noT 13 (.val (.int .i64 x13))) 12 (.val (.int .i64 x12))) 1 (.fz 1 n_x1 g_x1)) 0 (.fz 1 n_x0 g_x0))⟩, []⟩, ?_, [], ?_⟩
           rotate_left
           · cbv; exact ⟨_, [0, 1, 12, 13], by cbv; exact ⟨_, _, _, _, _, _, _, _, h, by first | assumption | rfl, by first | assumption | rfl, by first | assumption | rfl, by first | assumption | rfl, rfl⟩⟩
           clear h
           rintro (_ | k1) s1 ⟨x0, x1, x12, x13, n_x0, g_x0, n_x1, g_x1, h, hn_x0, hg_x0, hn_x1, hg_x1, rfl⟩
           · cases h
           unfold spec_l1Same.l0 at h
           (try rw [hn_x0] at h); (try rw [hn_x1] at h); skip
           cbv))
    | ((with_reducible show ∀ _ : Bool, _)
       first
        | (refine all_lt ?_ ?_ <;> (intro hd; first | exact absurd rfl hd | ((first | rw [if_pos hd] at h | rw [if_neg hd] at h | rw [if_pos (by omega)] at h | rw [if_neg (by omega)] at h | skip); (first | (rw [decide_eq_true hd] at h; (try simp only [bs, eq_self, if_true, if_false, reduceIte] at h)) | (rw [decide_eq_false hd] at h; (try simp only [bs, eq_self, if_true, if_false, reduceIte] at h)) | skip); cbv)))
        | (refine all_bne ?_ ?_ <;> (intro hd; first | exact absurd rfl hd | ((first | rw [if_pos hd] at h | rw [if_neg hd] at h | rw [if_pos (by omega)] at h | rw [if_neg (by omega)] at h | skip); (first | (rw [bne_pos hd] at h; (try simp only [bs, eq_self, if_true, if_false, reduceIte] at h)) | (rw [bne_neg hd] at h; (try simp only [bs, eq_self, if_true, if_false, reduceIte] at h)) | skip); cbv))))
    | ((with_reducible show ∀ _ : Int, _)
       first
        | (refine all_wrap ?_; intro y hy; (try rw [hy] at h); cbv)
        | (refine all_len_old (by assumption) ?_; cbv)
        | (refine all_len ?_; intro y hy; (try replace hy : ((_ : Nat) : Int) = y := hy); (try rw [hy] at h); (try rw [show (NatCast.natCast _ : Int) = _ from hy] at h); cbv))
    | ((with_reducible show ∀ _ : List V, _)
       first
        | (refine @all_rd _ _ eI rd ?_ ?_ ?_ _ _ _ (fun _ _ => rfl) ?_ ?_ ?_ ?_ ?_ ?_
           rotate_left 3
           assumption
           assumption
           (first | rfl | assumption)
           (first | assumption | exact lt_ix (by assumption) (by assumption) (by assumption) | exact lt_ix2 (by assumption) (by assumption) (by assumption) (by assumption) | exact lt_y (by assumption) (by assumption) | exact le_y (by assumption) | exact ge_y (by assumption) | exact cut_le (by assumption) (by assumption) | omega)
           (first | assumption | exact lt_ix (by assumption) (by assumption) (by assumption) | exact lt_ix2 (by assumption) (by assumption) (by assumption) (by assumption) | exact lt_y (by assumption) (by assumption) | exact le_y (by assumption) | exact ge_y (by assumption) | exact cut_le (by assumption) (by assumption) | omega)
           intro z hz
           (try rw [hz] at h); cbv))
    | (obtain ⟨hc, h'⟩ := if_none h; clear h; have h := h'; clear h')
    | (simp only [Option.some.injEq, Prod.mk.injEq] at h; subst h)
    | trivial)

mutual
def spec_jrRecover.l0 : Nat → List Int → List (S72) → Int → Option ((List (S72)))
  | 0, _, _, _ => none
  | k + 1, x0, x3, x4 => if (wrap64 (x4 + 5)) ≤ (x0.length : Int) then (spec_jrRecover.j1 k x0 x3 x4 (decide ((x3.length : Int) < 40))) else (spec_jrRecover.j1 k x0 x3 x4 false)
def spec_jrRecover.j1 : Nat → List Int → List (S72) → Int → Bool → Option ((List (S72)))
  | 0, _, _, _, _ => none
  | k + 1, x0, x3, x4, x15 => if x15 = true then (if 0 ≤ x4 then (if x4 < (x0.length : Int) then (if 0 ≤ (wrap64 (x4 + 1)) then (if (wrap64 (x4 + 1)) < (x0.length : Int) then (if 0 ≤ (wrap64 (x4 + 2)) then (if (wrap64 (x4 + 2)) < (x0.length : Int) then ((spec_jrRecord.f (rd x0 x4) (rd x0 (wrap64 (x4 + 1))) (rd x0 (wrap64 (x4 + 2)))).bind fun t340 => (if t340 = true then ((spec_jrOf.f (rd x0 x4) (rd x0 (wrap64 (x4 + 1))) (rd x0 (wrap64 (x4 + 2))) (x3.length : Int)).bind fun t341 => (if x4 ≤ (wrap64 (x4 + 5)) then (if (wrap64 (x4 + 5)) ≤ (x0.length : Int) then ((spec_l1Same.f k t341 ((x0.take ((wrap64 (x4 + 5)) : Int).toNat).drop (x4 : Int).toNat)).bind fun t345 => (if t345 = true then (if x3.length < 5864062014805 then (spec_jrRecover.l0 k x0 (x3 ++ [(⟨rd x0 x4, rd x0 (wrap64 (x4 + 1)), rd x0 (wrap64 (x4 + 2))⟩ : S72)]) (wrap64 (x4 + 5))) else (none)) else (some x3))) else (none)) else (none))) else (some x3))) else (none)) else (none)) else (none)) else (none)) else (none)) else (none)) else (some x3)
end
def spec_jrRecover.f (k : Nat) (l0 : List Int) : Option ((List (S72))) := spec_jrRecover.l0 k l0 ([] : List (S72)) 0

theorem spec_jrRecover_ok (k : Nat) (l0 : List Int) (r0 : List (S72)) (h : spec_jrRecover.f k l0 = some r0) (n_l0 : Nat) (hn_l0 : l0.length = n_l0) (g_l0 : Nat → List V) (hg_l0 : encL eI l0 = g_l0) (n_r0 : Nat) (hn_r0 : r0.length = n_r0) (g_r0 : Nat → List V) (hg_r0 : encL e72 r0 = g_r0) : CallOK Try.prog 154 [.fz 1 n_l0 g_l0] [] (.row 0 0 n_r0) [.row 72 3 n_r0 g_r0] := by
  refine CallOK.of_code tabOK Try.func154 rfl rfl ⟨[(5, [0, 3, 4]), (6, [0, 3, 4, 5]), (7, [3]), (8, [0, 3, 4, 5]), (9, [3])], []⟩ ?_
  unfold spec_jrRecover.f at h
  obtain ⟨P, hP⟩ : ∃ P, Try.prog = P := ⟨_, rfl⟩
  rw [hP]
  (try rw [hn_l0] at h); skip
  cbv
  repeat' (first
    | ((with_reducible show ∃ _, _)
       first
        | (refine ⟨trivial, ?_⟩; cbv)
        | (refine side (by first | with_reducible eq_refl | assumption | (intro _ _; with_reducible eq_refl) | exact lt_ix (by assumption) (by assumption) (by assumption) | exact lt_ix2 (by assumption) (by assumption) (by assumption) (by assumption) | exact lt_y (by assumption) (by assumption) | exact le_y (by assumption) | exact ge_y (by assumption) | exact cut_le (by assumption) (by assumption) | omega) ?_; (try cbv))
        | (refine bind_side (Eq.refl _) ?_; (try cbv))
        | (refine ⟨.kept, side (Eq.refl _) (side (by first | trivial | exact ⟨clean_enc (by assumption) (by assumption) (fun _ => rfl), trivial⟩) ?_)⟩; cbv)
        | (refine ⟨Frz.own, ?_⟩; cbv)
        | (refine ⟨.row, ?_⟩; cbv)
        | (refine ⟨.chain [(0, 16), (1, 16), (2, 16), (3, 16), (4, 16), (5, 16), (6, 16), (7, 16), (8, 16), (9, 16), (10, 16), (11, 16), (12, 16), (13, 16), (14, 16)], side (by decide +kernel) ?_⟩; cbv)
        | (refine ⟨.chain [(8, 2), (9, 2), (10, 2), (11, 2), (12, 2)], side (by decide +kernel) ?_⟩; cbv))
    | ((with_reducible show ∃ _ : Nat, _)
       first
        | (refine ⟨k1, [0, 3, 4], (by omega), ?_⟩; cbv; exact ⟨_, _, _, _, _, _, _, h, by first | assumption | rfl, by first | assumption | rfl, by first | assumption | rfl, by first | assumption | rfl, rfl⟩))
    | ((with_reducible show ∃ _ : List Nat, _)
       first
        | ((with_reducible (have h0 : Option.bind (spec_jrRecord.f _ _ _) _ = some _ := h; clear h0))
           refine ⟨[], ?_⟩; cbv
           repeat (first | (refine all_show (by first | omega | decide) ?_; cbv) | (refine all_showT (by assumption) (by assumption) (by assumption) (by first | assumption | exact lt_ix (by assumption) (by assumption) (by assumption) | exact lt_ix2 (by assumption) (by assumption) (by assumption) (by assumption) | exact lt_y (by assumption) (by assumption) | exact le_y (by assumption) | exact ge_y (by assumption) | exact cut_le (by assumption) (by assumption) | omega) (by first | assumption | exact cut_hi (by assumption) | exact cut_hi2 (by assumption) (by assumption) | omega) ?_; intro D hD hnD g hgD; (try rw [hD] at h); cbv))
           obtain ⟨t, ht, h'⟩ := bind_some h
           clear h; have h := h'; clear h'; (try dsimp only at h)
           refine ⟨_, _, (hP ▸ spec_jrRecord_ok _ _ _ _ ht   : CallOK P 165 _ _ _ _), ?_⟩
           rcases t with _ | _ <;> (try simp only [bs, eq_self, if_true, if_false, reduceIte] at h) <;> (try (cases h; done)) <;> cbv)
        | ((with_reducible (have h0 : Option.bind (spec_jrOf.f _ _ _ _) _ = some _ := h; clear h0))
           refine ⟨[], ?_⟩; cbv
           repeat (first | (refine all_show (by first | omega | decide) ?_; cbv) | (refine all_showT (by assumption) (by assumption) (by assumption) (by first | assumption | exact lt_ix (by assumption) (by assumption) (by assumption) | exact lt_ix2 (by assumption) (by assumption) (by assumption) (by assumption) | exact lt_y (by assumption) (by assumption) | exact le_y (by assumption) | exact ge_y (by assumption) | exact cut_le (by assumption) (by assumption) | omega) (by first | assumption | exact cut_hi (by assumption) | exact cut_hi2 (by assumption) (by assumption) | omega) ?_; intro D hD hnD g hgD; (try rw [hD] at h); cbv))
           obtain ⟨t, ht, h'⟩ := bind_some h
           clear h; have h := h'; clear h'; (try dsimp only at h)
           obtain ⟨n_c166_0, hn_c166_0⟩ : ∃ n, t.length = n := ⟨_, rfl⟩; obtain ⟨g_t, hg_c166_0⟩ : ∃ g, encL eI t = g := ⟨_, rfl⟩; (try rw [hn_c166_0] at h)
           refine ⟨_, _, (hP ▸ spec_jrOf_ok _ _ _ _ _ ht  _ hn_c166_0 _ hg_c166_0 : CallOK P 166 _ _ _ _), ?_⟩; cbv)
        | ((with_reducible (have h0 : Option.bind (spec_l1Same.f _ _ _) _ = some _ := h; clear h0))
           refine ⟨[], ?_⟩; cbv
           repeat (first | (refine all_show (by first | omega | decide) ?_; cbv) | (refine all_showT (by assumption) (by assumption) (by assumption) (by first | assumption | exact lt_ix (by assumption) (by assumption) (by assumption) | exact lt_ix2 (by assumption) (by assumption) (by assumption) (by assumption) | exact lt_y (by assumption) (by assumption) | exact le_y (by assumption) | exact ge_y (by assumption) | exact cut_le (by assumption) (by assumption) | omega) (by first | assumption | exact cut_hi (by assumption) | exact cut_hi2 (by assumption) (by assumption) | omega) ?_; intro D hD hnD g hgD; (try rw [hD] at h); cbv))
           obtain ⟨t, ht, h'⟩ := bind_some h
           clear h; have h := h'; clear h'; (try dsimp only at h)
           refine ⟨_, _, (hP ▸ spec_l1Same_ok _ _ _ _ ht _ (by first | assumption | rfl) _ (by assumption) _ (by first | assumption | rfl) _ (by assumption)  : CallOK P 203 _ _ _ _), ?_⟩
           rcases t with _ | _ <;> (try simp only [bs, eq_self, if_true, if_false, reduceIte] at h) <;> (try (cases h; done)) <;> cbv))
    | ((with_reducible show ∃ _ : Nat → List V, _)
       first
        | (refine all_build1 e72 (x := ⟨_, _, _⟩) rfl ?_; intro g_b hg_b; cbv))
    | ((with_reducible show ∃ _ : Nat → St → Prop, _)
       first
        | (refine ⟨fun k1 s => ∃ x0 x3 x4 n_x0 g_x0 n_x3 g_x3, spec_jrRecover.l0 k1 x0 x3 x4 = some r0 ∧ x0.length = n_x0 ∧ encL eI x0 = g_x0 ∧ x3.length = n_x3 ∧ encL e72 x3 = g_x3 ∧ s = ⟨⟨55, (upd 55 (upd 55 (upd 55 noT 4 (.val (.int .i64 x4))) 3 (.row 0 0 n_x3)) 0 (.fz 1 n_x0 g_x0))⟩, [.row 72 3 n_x3 g_x3]⟩, ?_, [], ?_⟩
           rotate_left
           · cbv; exact ⟨_, [0, 3, 4], by cbv; exact ⟨_, _, _, _, _, _, _, h, by first | assumption | rfl, by first | assumption | rfl, by first | assumption | rfl, by first | assumption | rfl, rfl⟩⟩
           clear h
           rintro (_ | k1) s1 ⟨x0, x3, x4, n_x0, g_x0, n_x3, g_x3, h, hn_x0, hg_x0, hn_x3, hg_x3, rfl⟩
           · cases h
           unfold spec_jrRecover.l0 at h
           (try rw [hn_x0] at h); (try rw [hn_x3] at h); skip
           cbv))
    | ((with_reducible (have h0 : spec_jrRecover.j1 _ _ _ _ _ = some _ := h; clear h0))
       first
        | (unfold spec_jrRecover.j1 at h
           rcases k1 with _ | k1
           · cases h
           (try dsimp only at h); (try simp only [bs, eq_self, if_true, if_false, reduceIte] at h); (try rw [hn_l0] at h); (try rw [show (Nat.cast n_l0 : Int) = _ from (by assumption)] at h); (try rw [show (NatCast.natCast n_l0 : Int) = _ from (by assumption)] at h); (try (simp only [Nat.cast] at h; rw [show (NatCast.natCast n_l0 : Int) = _ from (by assumption)] at h)); (try rw [hn_c166_0] at h); (try rw [show (Nat.cast n_c166_0 : Int) = _ from (by assumption)] at h); (try rw [show (NatCast.natCast n_c166_0 : Int) = _ from (by assumption)] at h); (try (simp only [Nat.cast] at h; rw [show (NatCast.natCast n_c166_0 : Int) = _ from (by assumption)] at h)); (try rw [hn_x0] at h); (try rw [show (Nat.cast n_x0 : Int) = _ from (by assumption)] at h); (try rw [show (NatCast.natCast n_x0 : Int) = _ from (by assumption)] at h); (try (simp only [Nat.cast] at h; rw [show (NatCast.natCast n_x0 : Int) = _ from (by assumption)] at h)); (try rw [hn_x3] at h); (try rw [show (Nat.cast n_x3 : Int) = _ from (by assumption)] at h); (try rw [show (NatCast.natCast n_x3 : Int) = _ from (by assumption)] at h); (try (simp only [Nat.cast] at h; rw [show (NatCast.natCast n_x3 : Int) = _ from (by assumption)] at h)); (try simp only [*] at h)))
    | ((with_reducible show ∀ _ : Bool, _)
       first
        | (refine all_lt ?_ ?_ <;> (intro hd; first | exact absurd rfl hd | ((first | rw [if_pos hd] at h | rw [if_neg hd] at h | rw [if_pos (by omega)] at h | rw [if_neg (by omega)] at h | skip); (first | (rw [decide_eq_true hd] at h; (try simp only [bs, eq_self, if_true, if_false, reduceIte] at h)) | (rw [decide_eq_false hd] at h; (try simp only [bs, eq_self, if_true, if_false, reduceIte] at h)) | skip); cbv)))
        | (refine all_le ?_ ?_ <;> (intro hd; first | exact absurd rfl hd | ((first | rw [if_pos hd] at h | rw [if_neg hd] at h | rw [if_pos (by omega)] at h | rw [if_neg (by omega)] at h | skip); (first | (rw [decide_eq_true hd] at h; (try simp only [bs, eq_self, if_true, if_false, reduceIte] at h)) | (rw [decide_eq_false hd] at h; (try simp only [bs, eq_self, if_true, if_false, reduceIte] at h)) | skip); cbv))))
    | ((with_reducible show ∀ _ : Int, _)
       first
        | (refine all_wrap_old (by assumption) ?_; cbv)
        | (refine all_wrap ?_; intro y hy; (try rw [hy] at h); cbv)
        | (refine all_len_old (by assumption) ?_; cbv)
        | (refine all_len ?_; intro y hy; (try replace hy : ((_ : Nat) : Int) = y := hy); (try rw [hy] at h); (try rw [show (NatCast.natCast _ : Int) = _ from hy] at h); cbv))
    | ((with_reducible show ∀ _ : Nat, _)
       first
        | (refine @all_cut ?_ ?_ ?_ ?_ _ _ _ _ ?_ ?_ ?_ ?_ ?_ ?_
           rotate_left 4
           assumption
           assumption
           (first | assumption | exact lt_ix (by assumption) (by assumption) (by assumption) | exact lt_ix2 (by assumption) (by assumption) (by assumption) (by assumption) | exact lt_y (by assumption) (by assumption) | exact le_y (by assumption) | exact ge_y (by assumption) | exact cut_le (by assumption) (by assumption) | omega)
           (first | assumption | exact lt_ix (by assumption) (by assumption) (by assumption) | exact lt_ix2 (by assumption) (by assumption) (by assumption) (by assumption) | exact lt_y (by assumption) (by assumption) | exact le_y (by assumption) | exact ge_y (by assumption) | exact cut_le (by assumption) (by assumption) | omega)
           (first | assumption | exact cut_hi (by assumption) | exact cut_hi2 (by assumption) (by assumption) | omega)
           intro D hD n_D hnD g hgD; (try rw [hD] at h); (try rw [hnD] at h); cbv)
        | (refine all_app (by first | assumption | exact (rfl : encL _ ([] : List _) = _)) (by first | assumption | rfl) (by assumption) (by first | assumption | rfl) ?_; intro L hL n_L hnL g hgL; (try rw [hL] at h); (try rw [Option.bind_some] at h); (try rw [hnL] at h); cbv))
    | ((with_reducible show ∀ _ : List V, _)
       first
        | (refine @all_rd _ _ eI rd ?_ ?_ ?_ _ _ _ (fun _ _ => rfl) ?_ ?_ ?_ ?_ ?_ ?_
           rotate_left 3
           assumption
           assumption
           (first | rfl | assumption)
           (first | assumption | exact lt_ix (by assumption) (by assumption) (by assumption) | exact lt_ix2 (by assumption) (by assumption) (by assumption) (by assumption) | exact lt_y (by assumption) (by assumption) | exact le_y (by assumption) | exact ge_y (by assumption) | exact cut_le (by assumption) (by assumption) | omega)
           (first | assumption | exact lt_ix (by assumption) (by assumption) (by assumption) | exact lt_ix2 (by assumption) (by assumption) (by assumption) (by assumption) | exact lt_y (by assumption) (by assumption) | exact le_y (by assumption) | exact ge_y (by assumption) | exact cut_le (by assumption) (by assumption) | omega)
           intro z hz
           (try rw [hz] at h); cbv))
    | (obtain ⟨hc, h'⟩ := if_none h; clear h; have h := h'; clear h')
    | (simp only [Option.some.injEq, Prod.mk.injEq] at h; subst h)
    | ((with_reducible show ∃ _, _)
       refine side (by first | exact enc_same (by assumption) (by assumption) _ | exact take_s1 (by assumption) (by assumption) (by assumption) | exact take_s2 (by assumption) (by assumption) (by assumption) (by assumption) (by assumption) | exact take_s3 (by assumption) (by assumption) (by assumption) | exact take_s4 (by assumption) (by assumption) (by assumption) | (intro k hk; subst_vars; first | eq_refl | exact enc_drop | exact enc_take hk | exact absurd hk (Nat.not_lt_zero k)) | (subst_vars; first | eq_refl | (simp; done) | (simp; omega)) | (have h1 : Int.toNat 1 = 1 := rfl; have h2 := one_le (by assumption) (by assumption); simp only [List.length_append, List.length_nil, List.length_drop, h1] at *; omega) | (simp only [Nat.cast] at *; omega)) ?_; (try cbv)))

def spec_RecoverRecords.f (k : Nat) (l0 : List Int) : Option ((List (S72)) × Int × Bool) := (spec_jrList.f k l0).bind fun t349 => (if t349 = true then ((spec_jrRecover.f k l0).bind fun t350 => (some (t350, wrap64 (5 * (t350.length : Int)), true))) else (some (([] : List (S72)), 0, false)))

theorem spec_RecoverRecords_ok (k : Nat) (l0 : List Int) (r0 : (List (S72))) (r1 : Int) (r2 : Bool) (h : spec_RecoverRecords.f k l0 = some (r0, r1, r2)) (n_l0 : Nat) (hn_l0 : l0.length = n_l0) (g_l0 : Nat → List V) (hg_l0 : encL eI l0 = g_l0) (n_r0 : Nat) (hn_r0 : r0.length = n_r0) (g_r0 : Nat → List V) (hg_r0 : encL e72 r0 = g_r0) : CallOK Try.prog 44 [.fz 1 n_l0 g_l0] [] (.tup [.row 0 0 n_r0, .val (.int .i64 r1), .val (.bool r2)]) [.row 72 3 n_r0 g_r0] := by
  refine CallOK.of_code tabOK Try.func44 rfl rfl ⟨[(4, [5])], []⟩ ?_
  unfold spec_RecoverRecords.f at h
  obtain ⟨P, hP⟩ : ∃ P, Try.prog = P := ⟨_, rfl⟩
  rw [hP]
  (try rw [hn_l0] at h); skip
  cbv
  repeat' (first
    | ((with_reducible show ∃ _, _)
       first
        | (refine ⟨trivial, ?_⟩; cbv)
        | (refine side (by first | with_reducible eq_refl | assumption | (intro _ _; with_reducible eq_refl) | exact lt_ix (by assumption) (by assumption) (by assumption) | exact lt_ix2 (by assumption) (by assumption) (by assumption) (by assumption) | exact lt_y (by assumption) (by assumption) | exact le_y (by assumption) | exact ge_y (by assumption) | exact cut_le (by assumption) (by assumption) | omega) ?_; (try cbv))
        | (refine bind_side (Eq.refl _) ?_; (try cbv))
        | (refine ⟨.kept, side (Eq.refl _) (side (by first | trivial | exact ⟨clean_enc (by assumption) (by assumption) (fun _ => rfl), trivial⟩) ?_)⟩; cbv)
        | (refine ⟨Frz.own, ?_⟩; cbv)
        | (refine ⟨.row, ?_⟩; cbv))
    | ((with_reducible show ∃ _ : List Nat, _)
       first
        | ((with_reducible (have h0 : Option.bind (spec_jrList.f _ _) _ = some _ := h; clear h0))
           refine ⟨[], ?_⟩; cbv
           repeat (first | (refine all_show (by first | omega | decide) ?_; cbv) | (refine all_showT (by assumption) (by assumption) (by assumption) (by first | assumption | exact lt_ix (by assumption) (by assumption) (by assumption) | exact lt_ix2 (by assumption) (by assumption) (by assumption) (by assumption) | exact lt_y (by assumption) (by assumption) | exact le_y (by assumption) | exact ge_y (by assumption) | exact cut_le (by assumption) (by assumption) | omega) (by first | assumption | exact cut_hi (by assumption) | exact cut_hi2 (by assumption) (by assumption) | omega) ?_; intro D hD hnD g hgD; (try rw [hD] at h); cbv))
           obtain ⟨t, ht, h'⟩ := bind_some h
           clear h; have h := h'; clear h'; (try dsimp only at h)
           refine ⟨_, _, (hP ▸ spec_jrList_ok _ _ _ ht _ (by first | assumption | rfl) _ (by assumption)  : CallOK P 150 _ _ _ _), ?_⟩
           rcases t with _ | _ <;> (try simp only [bs, eq_self, if_true, if_false, reduceIte] at h) <;> (try (cases h; done)) <;> cbv)
        | ((with_reducible (have h0 : Option.bind (spec_jrRecover.f _ _) _ = some _ := h; clear h0))
           refine ⟨[], ?_⟩; cbv
           repeat (first | (refine all_show (by first | omega | decide) ?_; cbv) | (refine all_showT (by assumption) (by assumption) (by assumption) (by first | assumption | exact lt_ix (by assumption) (by assumption) (by assumption) | exact lt_ix2 (by assumption) (by assumption) (by assumption) (by assumption) | exact lt_y (by assumption) (by assumption) | exact le_y (by assumption) | exact ge_y (by assumption) | exact cut_le (by assumption) (by assumption) | omega) (by first | assumption | exact cut_hi (by assumption) | exact cut_hi2 (by assumption) (by assumption) | omega) ?_; intro D hD hnD g hgD; (try rw [hD] at h); cbv))
           obtain ⟨t, ht, h'⟩ := bind_some h
           clear h; have h := h'; clear h'; (try dsimp only at h)
           obtain ⟨n_c154_0, hn_c154_0⟩ : ∃ n, t.length = n := ⟨_, rfl⟩; obtain ⟨g_t, hg_c154_0⟩ : ∃ g, encL e72 t = g := ⟨_, rfl⟩; (try rw [hn_c154_0] at h)
           refine ⟨_, _, (hP ▸ spec_jrRecover_ok _ _ _ ht _ (by first | assumption | rfl) _ (by assumption) _ hn_c154_0 _ hg_c154_0 : CallOK P 154 _ _ _ _), ?_⟩; cbv))
    | ((with_reducible show ∀ _ : Int, _)
       first
        | (refine all_wrap ?_; intro y hy; (try rw [hy] at h); cbv)
        | (refine all_len ?_; intro y hy; (try replace hy : ((_ : Nat) : Int) = y := hy); (try rw [hy] at h); (try rw [show (NatCast.natCast _ : Int) = _ from hy] at h); cbv))
    | (simp only [Option.some.injEq, Prod.mk.injEq] at h; obtain ⟨rfl, rfl, rfl⟩ := h)
    | ((with_reducible show ∃ _, _)
       refine side (by first | exact enc_same (by assumption) (by assumption) _ | exact take_s1 (by assumption) (by assumption) (by assumption) | exact take_s2 (by assumption) (by assumption) (by assumption) (by assumption) (by assumption) | exact take_s3 (by assumption) (by assumption) (by assumption) | exact take_s4 (by assumption) (by assumption) (by assumption) | (intro k hk; subst_vars; first | eq_refl | exact enc_drop | exact enc_take hk | exact absurd hk (Nat.not_lt_zero k)) | (subst_vars; first | eq_refl | (simp; done) | (simp; omega)) | (have h1 : Int.toNat 1 = 1 := rfl; have h2 := one_le (by assumption) (by assumption); simp only [List.length_append, List.length_nil, List.length_drop, h1] at *; omega) | (simp only [Nat.cast] at *; omega)) ?_; (try cbv)))

def laws_pSameRecords.l0 : Nat → List (S72) → List (S72) → Int → Int → Option (Bool)
  | 0, _, _, _, _ => none
  | k + 1, x0, x1, x12, x13 => if x13 < x12 then (if 0 ≤ x13 then (if x13 < (x0.length : Int) then (if x13 < (x1.length : Int) then (if (!(((rd_T72 x0 x13).f0) == ((rd_T72 x1 x13).f0)) || (!(((rd_T72 x0 x13).f1) == ((rd_T72 x1 x13).f1)) || (!(((rd_T72 x0 x13).f2) == ((rd_T72 x1 x13).f2))))) = true then (some false) else (laws_pSameRecords.l0 k x0 x1 x12 (wrap64 (x13 + 1)))) else (none)) else (none)) else (none)) else (some true)
def laws_pSameRecords.f (k : Nat) (l0 : List (S72)) (l1 : List (S72)) : Option (Bool) := if (l0.length : Int) = (l1.length : Int) then (laws_pSameRecords.l0 k l0 l1 (l0.length : Int) 0) else (some false)

theorem laws_pSameRecords_ok (k : Nat) (l0 : List (S72)) (l1 : List (S72)) (r0 : Bool) (h : laws_pSameRecords.f k l0 l1 = some r0) (n_l0 : Nat) (hn_l0 : l0.length = n_l0) (g_l0 : Nat → List V) (hg_l0 : encL e72 l0 = g_l0) (n_l1 : Nat) (hn_l1 : l1.length = n_l1) (g_l1 : Nat → List V) (hg_l1 : encL e72 l1 = g_l1)  : CallOK Try.prog 45 [.fz 3 n_l0 g_l0, .fz 3 n_l1 g_l1] [] (.val (.bool r0)) [] := by
  refine CallOK.of_code tabOK Try.func45 rfl rfl ⟨[(7, []), (8, [0, 1, 12, 13]), (9, [])], []⟩ ?_
  unfold laws_pSameRecords.f at h
  obtain ⟨P, hP⟩ : ∃ P, Try.prog = P := ⟨_, rfl⟩
  rw [hP]
  (try rw [hn_l0] at h); (try rw [hn_l1] at h); skip
  cbv
  repeat' (first
    | ((with_reducible show ∃ _, _)
       first
        | (refine ⟨trivial, ?_⟩; cbv)
        | (refine side (by first | with_reducible eq_refl | assumption | (intro _ _; with_reducible eq_refl) | exact lt_ix (by assumption) (by assumption) (by assumption) | exact lt_ix2 (by assumption) (by assumption) (by assumption) (by assumption) | exact lt_y (by assumption) (by assumption) | exact le_y (by assumption) | exact ge_y (by assumption) | exact cut_le (by assumption) (by assumption) | omega) ?_; (try cbv))
        | (refine ⟨.still 9, side (by decide +kernel) ?_⟩; cbv))
    | ((with_reducible show ∃ _ : Nat, _)
       first
        | (refine ⟨_, [0, 1, 12, 13], Nat.lt_succ_self _, ?_⟩; cbv; exact ⟨_, _, _, _, _, _, _, _, h, by first | assumption | rfl, by first | assumption | rfl, by first | assumption | rfl, by first | assumption | rfl, rfl⟩))
    | ((with_reducible show ∃ _ : Nat → St → Prop, _)
       first
        | (refine ⟨fun k1 s => ∃ x0 x1 x12 x13 n_x0 g_x0 n_x1 g_x1, laws_pSameRecords.l0 k1 x0 x1 x12 x13 = some r0 ∧ x0.length = n_x0 ∧ encL e72 x0 = g_x0 ∧ x1.length = n_x1 ∧ encL e72 x1 = g_x1 ∧ s = ⟨⟨26, (upd 26 (upd 26 (upd 26 (upd 26 noT 13 (.val (.int .i64 x13))) 12 (.val (.int .i64 x12))) 1 (.fz 3 n_x1 g_x1)) 0 (.fz 3 n_x0 g_x0))⟩, []⟩, ?_, [], ?_⟩
           rotate_left
           · cbv; exact ⟨_, [0, 1, 12, 13], by cbv; exact ⟨_, _, _, _, _, _, _, _, h, by first | assumption | rfl, by first | assumption | rfl, by first | assumption | rfl, by first | assumption | rfl, rfl⟩⟩
           clear h
           rintro (_ | k1) s1 ⟨x0, x1, x12, x13, n_x0, g_x0, n_x1, g_x1, h, hn_x0, hg_x0, hn_x1, hg_x1, rfl⟩
           · cases h
           unfold laws_pSameRecords.l0 at h
           (try rw [hn_x0] at h); (try rw [hn_x1] at h); skip
           cbv))
    | ((with_reducible show ∀ _ : Bool, _)
       first
        | (refine all_lt ?_ ?_ <;> (intro hd; first | exact absurd rfl hd | ((first | rw [if_pos hd] at h | rw [if_neg hd] at h | rw [if_pos (by omega)] at h | rw [if_neg (by omega)] at h | skip); (first | (rw [decide_eq_true hd] at h; (try simp only [bs, eq_self, if_true, if_false, reduceIte] at h)) | (rw [decide_eq_false hd] at h; (try simp only [bs, eq_self, if_true, if_false, reduceIte] at h)) | skip); cbv)))
        | (refine all_bne ?_ ?_ <;> (intro hd; first | exact absurd rfl hd | ((first | rw [if_pos hd] at h | rw [if_neg hd] at h | rw [if_pos (by omega)] at h | rw [if_neg (by omega)] at h | skip); (first | (rw [bne_pos hd] at h; (try simp only [bs, eq_self, if_true, if_false, reduceIte] at h)) | (rw [bne_neg hd] at h; (try simp only [bs, eq_self, if_true, if_false, reduceIte] at h)) | skip); cbv)))
        | (refine all_cellsN rfl ?_ ?_ <;> (intro hd; (first | (rw [hd] at h; (try simp only [bs, eq_self, if_true, if_false, reduceIte] at h)) | skip); cbv)))
    | ((with_reducible show ∀ _ : Int, _)
       first
        | (refine all_wrap ?_; intro y hy; (try rw [hy] at h); cbv)
        | (refine all_len_old (by assumption) ?_; cbv)
        | (refine all_len ?_; intro y hy; (try replace hy : ((_ : Nat) : Int) = y := hy); (try rw [hy] at h); (try rw [show (NatCast.natCast _ : Int) = _ from hy] at h); cbv))
    | ((with_reducible show ∀ _ : List V, _)
       first
        | (refine @all_rd _ _ e72 rd_T72 ?_ ?_ ?_ _ _ _ (fun _ _ => rfl) ?_ ?_ ?_ ?_ ?_ ?_
           rotate_left 3
           assumption
           assumption
           (first | rfl | assumption)
           (first | assumption | exact lt_ix (by assumption) (by assumption) (by assumption) | exact lt_ix2 (by assumption) (by assumption) (by assumption) (by assumption) | exact lt_y (by assumption) (by assumption) | exact le_y (by assumption) | exact ge_y (by assumption) | exact cut_le (by assumption) (by assumption) | omega)
           (first | assumption | exact lt_ix (by assumption) (by assumption) (by assumption) | exact lt_ix2 (by assumption) (by assumption) (by assumption) (by assumption) | exact lt_y (by assumption) (by assumption) | exact le_y (by assumption) | exact ge_y (by assumption) | exact cut_le (by assumption) (by assumption) | omega)
           intro z hz
           (try rw [hz] at h); cbv))
    | (obtain ⟨hc, h'⟩ := if_none h; clear h; have h := h'; clear h')
    | (simp only [Option.some.injEq, Prod.mk.injEq] at h; subst h)
    | trivial)

def impl_areRecords.l0 : Nat → List (S72) → Int → Int → Option (Bool)
  | 0, _, _, _ => none
  | k + 1, x8, x9, x10 => if x10 < x9 then (if 0 ≤ x10 then (if x10 < (x8.length : Int) then ((impl_IsJournalRecord.f ((rd_T72 x8 x10).f0) ((rd_T72 x8 x10).f1) ((rd_T72 x8 x10).f2)).bind fun t408 => (if t408 = true then (impl_areRecords.l0 k x8 x9 (wrap64 (x10 + 1))) else (some false))) else (none)) else (none)) else (some true)
def impl_areRecords.f (k : Nat) (l0 : List (S72)) : Option (Bool) := if (l0.length : Int) > 40 then (some false) else (impl_areRecords.l0 k l0 (l0.length : Int) 0)

theorem impl_areRecords_ok (k : Nat) (l0 : List (S72)) (r0 : Bool) (h : impl_areRecords.f k l0 = some r0) (n_l0 : Nat) (hn_l0 : l0.length = n_l0) (g_l0 : Nat → List V) (hg_l0 : encL e72 l0 = g_l0)  : CallOK Try.prog 157 [.fz 3 n_l0 g_l0] [] (.val (.bool r0)) [] := by
  refine CallOK.of_code tabOK Try.func157 rfl rfl ⟨[(9, [])], []⟩ ?_
  unfold impl_areRecords.f at h
  obtain ⟨P, hP⟩ : ∃ P, Try.prog = P := ⟨_, rfl⟩
  rw [hP]
  (try rw [hn_l0] at h); skip
  cbv
  repeat' (first
    | ((with_reducible show ∃ _, _)
       first
        | (refine ⟨trivial, ?_⟩; cbv)
        | (refine side (by first | with_reducible eq_refl | assumption | (intro _ _; with_reducible eq_refl) | exact lt_ix (by assumption) (by assumption) (by assumption) | exact lt_ix2 (by assumption) (by assumption) (by assumption) (by assumption) | exact lt_y (by assumption) (by assumption) | exact le_y (by assumption) | exact ge_y (by assumption) | exact cut_le (by assumption) (by assumption) | omega) ?_; (try cbv))
        | (refine ⟨Frz.own, ?_⟩; cbv))
    | ((with_reducible show ∃ _ : Nat, _)
       first
        | (refine ⟨_, [8, 9, 10], Nat.lt_succ_self _, ?_⟩; cbv; exact ⟨_, _, _, _, _, h, by first | assumption | rfl, by first | assumption | rfl, rfl⟩))
    | ((with_reducible show ∃ _ : List Nat, _)
       first
        | ((with_reducible (have h0 : Option.bind (impl_IsJournalRecord.f _ _ _) _ = some _ := h; clear h0))
           refine ⟨[], ?_⟩; cbv
           repeat (first | (refine all_show (by first | omega | decide) ?_; cbv) | (refine all_showT (by assumption) (by assumption) (by assumption) (by first | assumption | exact lt_ix (by assumption) (by assumption) (by assumption) | exact lt_ix2 (by assumption) (by assumption) (by assumption) (by assumption) | exact lt_y (by assumption) (by assumption) | exact le_y (by assumption) | exact ge_y (by assumption) | exact cut_le (by assumption) (by assumption) | omega) (by first | assumption | exact cut_hi (by assumption) | exact cut_hi2 (by assumption) (by assumption) | omega) ?_; intro D hD hnD g hgD; (try rw [hD] at h); cbv))
           obtain ⟨t, ht, h'⟩ := bind_some h
           clear h; have h := h'; clear h'; (try dsimp only at h)
           refine ⟨_, _, (hP ▸ impl_IsJournalRecord_ok _ _ _ _ ht   : CallOK P 57 _ _ _ _), ?_⟩
           rcases t with _ | _ <;> (try simp only [bs, eq_self, if_true, if_false, reduceIte] at h) <;> (try (cases h; done)) <;> cbv))
    | ((with_reducible show ∃ _ : Nat → St → Prop, _)
       first
        | (refine ⟨fun k1 s => ∃ x8 x9 x10 n_x8 g_x8, impl_areRecords.l0 k1 x8 x9 x10 = some r0 ∧ x8.length = n_x8 ∧ encL e72 x8 = g_x8 ∧ s = ⟨⟨18, (upd 18 (upd 18 (upd 18 noT 10 (.val (.int .i64 x10))) 9 (.val (.int .i64 x9))) 8 (.fz 3 n_x8 g_x8))⟩, []⟩, ?_, [], ?_⟩
           rotate_left
           · cbv; exact ⟨_, [8, 9, 10], by cbv; exact ⟨_, _, _, _, _, h, by first | assumption | rfl, by first | assumption | rfl, rfl⟩⟩
           clear h
           rintro (_ | k1) s1 ⟨x8, x9, x10, n_x8, g_x8, h, hn_x8, hg_x8, rfl⟩
           · cases h
           unfold impl_areRecords.l0 at h
           (try rw [hn_x8] at h); skip
           cbv))
    | ((with_reducible show ∀ _ : Bool, _)
       first
        | (refine all_lt ?_ ?_ <;> (intro hd; first | exact absurd rfl hd | ((first | rw [if_pos hd] at h | rw [if_neg hd] at h | rw [if_pos (by omega)] at h | rw [if_neg (by omega)] at h | skip); (first | (rw [decide_eq_true hd] at h; (try simp only [bs, eq_self, if_true, if_false, reduceIte] at h)) | (rw [decide_eq_false hd] at h; (try simp only [bs, eq_self, if_true, if_false, reduceIte] at h)) | skip); cbv))))
    | ((with_reducible show ∀ _ : Int, _)
       first
        | (refine all_wrap ?_; intro y hy; (try rw [hy] at h); cbv)
        | (refine all_len_old (by assumption) ?_; cbv)
        | (refine all_len ?_; intro y hy; (try replace hy : ((_ : Nat) : Int) = y := hy); (try rw [hy] at h); (try rw [show (NatCast.natCast _ : Int) = _ from hy] at h); cbv))
    | ((with_reducible show ∀ _ : List V, _)
       first
        | (refine @all_rd _ _ e72 rd_T72 ?_ ?_ ?_ _ _ _ (fun _ _ => rfl) ?_ ?_ ?_ ?_ ?_ ?_
           rotate_left 3
           assumption
           assumption
           (first | rfl | assumption)
           (first | assumption | exact lt_ix (by assumption) (by assumption) (by assumption) | exact lt_ix2 (by assumption) (by assumption) (by assumption) (by assumption) | exact lt_y (by assumption) (by assumption) | exact le_y (by assumption) | exact ge_y (by assumption) | exact cut_le (by assumption) (by assumption) | omega)
           (first | assumption | exact lt_ix (by assumption) (by assumption) (by assumption) | exact lt_ix2 (by assumption) (by assumption) (by assumption) (by assumption) | exact lt_y (by assumption) (by assumption) | exact le_y (by assumption) | exact ge_y (by assumption) | exact cut_le (by assumption) (by assumption) | omega)
           intro z hz
           (try rw [hz] at h); cbv))
    | (obtain ⟨hc, h'⟩ := if_none h; clear h; have h := h'; clear h')
    | (simp only [Option.some.injEq, Prod.mk.injEq] at h; subst h)
    | trivial)

def impl_journalNumbers.l0 : Nat → List Int → List (S72) → Int → Int → Option (List Int)
  | 0, _, _, _, _ => none
  | k + 1, x3, x7, x8, x9 => if x9 < x8 then (if 0 ≤ x9 then (if x9 < (x7.length : Int) then ((impl_recordNumbers.f ((rd_T72 x7 x9).f0) ((rd_T72 x7 x9).f1) ((rd_T72 x7 x9).f2) x9).bind fun t414 => (if x3.length + t414.length < 17592186044416 then (impl_journalNumbers.l0 k (x3 ++ t414) x7 x8 (wrap64 (x9 + 1))) else (none))) else (none)) else (none)) else (some x3)
def impl_journalNumbers.f (k : Nat) (l0 : List (S72)) : Option (List Int) := impl_journalNumbers.l0 k (([] : List Int)) l0 (l0.length : Int) 0

theorem impl_journalNumbers_ok (k : Nat) (l0 : List (S72)) (r0 : List Int) (h : impl_journalNumbers.f k l0 = some r0) (n_l0 : Nat) (hn_l0 : l0.length = n_l0) (g_l0 : Nat → List V) (hg_l0 : encL e72 l0 = g_l0) (n_r0 : Nat) (hn_r0 : r0.length = n_r0) (g_r0 : Nat → List V) (hg_r0 : encL eI r0 = g_r0) : CallOK Try.prog 158 [.fz 3 n_l0 g_l0] [] (.row 0 0 n_r0) [.row 3 1 n_r0 g_r0] := by
  refine CallOK.of_code tabOK Try.func158 rfl rfl ⟨[(6, [3, 7, 8, 9]), (7, [3])], []⟩ ?_
  unfold impl_journalNumbers.f at h
  obtain ⟨P, hP⟩ : ∃ P, Try.prog = P := ⟨_, rfl⟩
  rw [hP]
  (try rw [hn_l0] at h); skip
  cbv
  repeat' (first
    | ((with_reducible show ∃ _, _)
       first
        | (refine ⟨trivial, ?_⟩; cbv)
        | (refine side (by first | with_reducible eq_refl | assumption | (intro _ _; with_reducible eq_refl) | exact lt_ix (by assumption) (by assumption) (by assumption) | exact lt_ix2 (by assumption) (by assumption) (by assumption) (by assumption) | exact lt_y (by assumption) (by assumption) | exact le_y (by assumption) | exact ge_y (by assumption) | exact cut_le (by assumption) (by assumption) | omega) ?_; (try cbv))
        | (refine bind_side (Eq.refl _) ?_; (try cbv))
        | (refine ⟨Frz.own, ?_⟩; cbv)
        | (refine ⟨.row, ?_⟩; cbv))
    | ((with_reducible show ∃ _ : Nat, _)
       first
        | (refine ⟨_, [3, 7, 8, 9], Nat.lt_succ_self _, ?_⟩; cbv; exact ⟨_, _, _, _, _, _, _, _, h, by first | assumption | rfl, by first | assumption | rfl, by first | assumption | rfl, by first | assumption | rfl, rfl⟩))
    | ((with_reducible show ∃ _ : List Nat, _)
       first
        | ((with_reducible (have h0 : Option.bind (impl_recordNumbers.f _ _ _ _) _ = some _ := h; clear h0))
           refine ⟨[], ?_⟩; cbv
           repeat (first | (refine all_show (by first | omega | decide) ?_; cbv) | (refine all_showT (by assumption) (by assumption) (by assumption) (by first | assumption | exact lt_ix (by assumption) (by assumption) (by assumption) | exact lt_ix2 (by assumption) (by assumption) (by assumption) (by assumption) | exact lt_y (by assumption) (by assumption) | exact le_y (by assumption) | exact ge_y (by assumption) | exact cut_le (by assumption) (by assumption) | omega) (by first | assumption | exact cut_hi (by assumption) | exact cut_hi2 (by assumption) (by assumption) | omega) ?_; intro D hD hnD g hgD; (try rw [hD] at h); cbv))
           obtain ⟨t, ht, h'⟩ := bind_some h
           clear h; have h := h'; clear h'; (try dsimp only at h)
           obtain ⟨n_c164_0, hn_c164_0⟩ : ∃ n, t.length = n := ⟨_, rfl⟩; obtain ⟨g_t, hg_c164_0⟩ : ∃ g, encL eI t = g := ⟨_, rfl⟩; (try rw [hn_c164_0] at h)
           refine ⟨_, _, (hP ▸ impl_recordNumbers_ok _ _ _ _ _ ht  _ hn_c164_0 _ hg_c164_0 : CallOK P 164 _ _ _ _), ?_⟩; cbv))
    | ((with_reducible show ∃ _ : Nat → List V, _)
       first
        | (refine all_build0 eI ?_; intro g_b hg_b; cbv))
    | ((with_reducible show ∃ _ : Nat → St → Prop, _)
       first
        | (refine ⟨fun k1 s => ∃ x3 x7 x8 x9 n_x3 g_x3 n_x7 g_x7, impl_journalNumbers.l0 k1 x3 x7 x8 x9 = some r0 ∧ x3.length = n_x3 ∧ encL eI x3 = g_x3 ∧ x7.length = n_x7 ∧ encL e72 x7 = g_x7 ∧ s = ⟨⟨21, (upd 21 (upd 21 (upd 21 (upd 21 noT 9 (.val (.int .i64 x9))) 8 (.val (.int .i64 x8))) 7 (.fz 3 n_x7 g_x7)) 3 (.row 0 0 n_x3))⟩, [.row 3 1 n_x3 g_x3]⟩, ?_, [], ?_⟩
           rotate_left
           · cbv; exact ⟨_, [3, 7, 8, 9], by cbv; exact ⟨_, _, _, _, _, _, _, _, h, by first | assumption | rfl, by first | assumption | rfl, by first | assumption | rfl, by first | assumption | rfl, rfl⟩⟩
           clear h
           rintro (_ | k1) s1 ⟨x3, x7, x8, x9, n_x3, g_x3, n_x7, g_x7, h, hn_x3, hg_x3, hn_x7, hg_x7, rfl⟩
           · cases h
           unfold impl_journalNumbers.l0 at h
           (try rw [hn_x3] at h); (try rw [hn_x7] at h); skip
           cbv))
    | ((with_reducible show ∀ _ : Bool, _)
       first
        | (refine all_lt ?_ ?_ <;> (intro hd; first | exact absurd rfl hd | ((first | rw [if_pos hd] at h | rw [if_neg hd] at h | rw [if_pos (by omega)] at h | rw [if_neg (by omega)] at h | skip); (first | (rw [decide_eq_true hd] at h; (try simp only [bs, eq_self, if_true, if_false, reduceIte] at h)) | (rw [decide_eq_false hd] at h; (try simp only [bs, eq_self, if_true, if_false, reduceIte] at h)) | skip); cbv))))
    | ((with_reducible show ∀ _ : Int, _)
       first
        | (refine all_wrap ?_; intro y hy; (try rw [hy] at h); cbv)
        | (refine all_len ?_; intro y hy; (try replace hy : ((_ : Nat) : Int) = y := hy); (try rw [hy] at h); (try rw [show (NatCast.natCast _ : Int) = _ from hy] at h); cbv))
    | ((with_reducible show ∀ _ : Nat, _)
       first
        | (refine all_app (by first | assumption | exact (rfl : encL _ ([] : List _) = _)) (by first | assumption | rfl) (by assumption) (by first | assumption | rfl) ?_; intro L hL n_L hnL g hgL; (try rw [hL] at h); (try rw [Option.bind_some] at h); (try rw [hnL] at h); cbv))
    | ((with_reducible show ∀ _ : List V, _)
       first
        | (refine @all_rd _ _ e72 rd_T72 ?_ ?_ ?_ _ _ _ (fun _ _ => rfl) ?_ ?_ ?_ ?_ ?_ ?_
           rotate_left 3
           assumption
           assumption
           (first | rfl | assumption)
           (first | assumption | exact lt_ix (by assumption) (by assumption) (by assumption) | exact lt_ix2 (by assumption) (by assumption) (by assumption) (by assumption) | exact lt_y (by assumption) (by assumption) | exact le_y (by assumption) | exact ge_y (by assumption) | exact cut_le (by assumption) (by assumption) | omega)
           (first | assumption | exact lt_ix (by assumption) (by assumption) (by assumption) | exact lt_ix2 (by assumption) (by assumption) (by assumption) (by assumption) | exact lt_y (by assumption) (by assumption) | exact le_y (by assumption) | exact ge_y (by assumption) | exact cut_le (by assumption) (by assumption) | omega)
           intro z hz
           (try rw [hz] at h); cbv))
    | (obtain ⟨hc, h'⟩ := if_none h; clear h; have h := h'; clear h')
    | (simp only [Option.some.injEq, Prod.mk.injEq] at h; subst h)
    | ((with_reducible show ∃ _, _)
       refine side (by first | exact enc_same (by assumption) (by assumption) _ | exact take_s1 (by assumption) (by assumption) (by assumption) | exact take_s2 (by assumption) (by assumption) (by assumption) (by assumption) (by assumption) | exact take_s3 (by assumption) (by assumption) (by assumption) | exact take_s4 (by assumption) (by assumption) (by assumption) | (intro k hk; subst_vars; first | eq_refl | exact enc_drop | exact enc_take hk | exact absurd hk (Nat.not_lt_zero k)) | (subst_vars; first | eq_refl | (simp; done) | (simp; omega)) | (have h1 : Int.toNat 1 = 1 := rfl; have h2 := one_le (by assumption) (by assumption); simp only [List.length_append, List.length_nil, List.length_drop, h1] at *; omega) | (simp only [Nat.cast] at *; omega)) ?_; (try cbv)))

def impl_committedPart.l0 : Nat → List (S72) → Int → Option ((List (S72)))
  | 0, _, _ => none
  | k + 1, x0, x3 => if x3 > 0 then (if 0 ≤ (wrap64 (x3 - 1)) then (if (wrap64 (x3 - 1)) < (x0.length : Int) then (if ((rd_T72 x0 (wrap64 (x3 - 1))).f0) = 2 then ((some (([] : List (S72)) : List (S72))).bind fun y421 => (if 0 ≤ x3 then (if x3 ≤ (x0.length : Int) then ((some (x0.take (x3 : Int).toNat : List (S72))).bind fun y424 => (if y421.length + y424.length < 5864062014805 then (some (y421 ++ y424)) else (none))) else (none)) else (none))) else (impl_committedPart.l0 k x0 (wrap64 (x3 - 1)))) else (none)) else (none)) else ((some (([] : List (S72)) : List (S72))).bind fun y431 => (if 0 ≤ x3 then (if x3 ≤ (x0.length : Int) then ((some (x0.take (x3 : Int).toNat : List (S72))).bind fun y434 => (if y431.length + y434.length < 5864062014805 then (some (y431 ++ y434)) else (none))) else (none)) else (none)))
def impl_committedPart.f (k : Nat) (l0 : List (S72)) : Option ((List (S72))) := impl_committedPart.l0 k l0 (l0.length : Int)

theorem impl_committedPart_ok (k : Nat) (l0 : List (S72)) (r0 : List (S72)) (h : impl_committedPart.f k l0 = some r0) (n_l0 : Nat) (hn_l0 : l0.length = n_l0) (g_l0 : Nat → List V) (hg_l0 : encL e72 l0 = g_l0) (n_r0 : Nat) (hn_r0 : r0.length = n_r0) (g_r0 : Nat → List V) (hg_r0 : encL e72 r0 = g_r0) : CallOK Try.prog 179 [.fz 3 n_l0 g_l0] [] (.row 0 0 n_r0) [.row 72 3 n_r0 g_r0] := by
  refine CallOK.of_code tabOK Try.func179 rfl rfl ⟨[(3, [0, 3]), (4, [0, 3])], []⟩ ?_
  unfold impl_committedPart.f at h
  obtain ⟨P, hP⟩ : ∃ P, Try.prog = P := ⟨_, rfl⟩
  rw [hP]
  (try rw [hn_l0] at h); skip
  cbv
  repeat' (first
    | ((with_reducible show ∃ _, _)
       first
        | (refine ⟨trivial, ?_⟩; cbv)
        | (refine side (by first | with_reducible eq_refl | assumption | (intro _ _; with_reducible eq_refl) | exact lt_ix (by assumption) (by assumption) (by assumption) | exact lt_ix2 (by assumption) (by assumption) (by assumption) (by assumption) | exact lt_y (by assumption) (by assumption) | exact le_y (by assumption) | exact ge_y (by assumption) | exact cut_le (by assumption) (by assumption) | omega) ?_; (try cbv))
        | (refine bind_side (Eq.refl _) ?_; (try cbv))
        | (refine ⟨.row, ?_⟩; cbv))
    | ((with_reducible show ∃ _ : Nat, _)
       first
        | (refine ⟨_, [0, 3], Nat.lt_succ_self _, ?_⟩; cbv; exact ⟨_, _, _, _, h, by first | assumption | rfl, by first | assumption | rfl, rfl⟩))
    | ((with_reducible show ∃ _ : Nat → List V, _)
       first
        | (refine all_build0 e72 ?_; intro g_b hg_b; cbv))
    | ((with_reducible show ∃ _ : Nat → St → Prop, _)
       first
        | (refine ⟨fun k1 s => ∃ x0 x3 n_x0 g_x0, impl_committedPart.l0 k1 x0 x3 = some r0 ∧ x0.length = n_x0 ∧ encL e72 x0 = g_x0 ∧ s = ⟨⟨24, (upd 24 (upd 24 noT 3 (.val (.int .i64 x3))) 0 (.fz 3 n_x0 g_x0))⟩, []⟩, ?_, [], ?_⟩
           rotate_left
           · cbv; exact ⟨_, [0, 3], by cbv; exact ⟨_, _, _, _, h, by first | assumption | rfl, by first | assumption | rfl, rfl⟩⟩
           clear h
           rintro (_ | k1) s1 ⟨x0, x3, n_x0, g_x0, h, hn_x0, hg_x0, rfl⟩
           · cases h
           unfold impl_committedPart.l0 at h
           (try rw [hn_x0] at h); skip
           cbv))
    | ((with_reducible show ∀ _ : Bool, _)
       first
        | (refine all_lt ?_ ?_ <;> (intro hd; first | exact absurd rfl hd | ((first | rw [if_pos hd] at h | rw [if_neg hd] at h | rw [if_pos (by omega)] at h | rw [if_neg (by omega)] at h | skip); (first | (rw [decide_eq_true hd] at h; (try simp only [bs, eq_self, if_true, if_false, reduceIte] at h)) | (rw [decide_eq_false hd] at h; (try simp only [bs, eq_self, if_true, if_false, reduceIte] at h)) | skip); cbv)))
        | (refine all_bne ?_ ?_ <;> (intro hd; first | exact absurd rfl hd | ((first | rw [if_pos hd] at h | rw [if_neg hd] at h | rw [if_pos (by omega)] at h | rw [if_neg (by omega)] at h | skip); (first | (rw [bne_pos hd] at h; (try simp only [bs, eq_self, if_true, if_false, reduceIte] at h)) | (rw [bne_neg hd] at h; (try simp only [bs, eq_self, if_true, if_false, reduceIte] at h)) | skip); cbv))))
    | ((with_reducible show ∀ _ : Int, _)
       first
        | (refine all_wrap_old (by assumption) ?_; cbv)
        | (refine all_wrap ?_; intro y hy; (try rw [hy] at h); cbv)
        | (refine all_len ?_; intro y hy; (try replace hy : ((_ : Nat) : Int) = y := hy); (try rw [hy] at h); (try rw [show (NatCast.natCast _ : Int) = _ from hy] at h); cbv))
    | ((with_reducible show ∀ _ : Nat, _)
       first
        | (refine @all_cut0 ?_ ?_ ?_ ?_ _ _ _ ?_ ?_ ?_ ?_ ?_
           rotate_left 4
           assumption
           assumption
           (first | assumption | exact lt_ix (by assumption) (by assumption) (by assumption) | exact lt_ix2 (by assumption) (by assumption) (by assumption) (by assumption) | exact lt_y (by assumption) (by assumption) | exact le_y (by assumption) | exact ge_y (by assumption) | exact cut_le (by assumption) (by assumption) | omega)
           (first | assumption | exact cut_hi (by assumption) | exact cut_hi2 (by assumption) (by assumption) | omega)
           intro D hD n_D hnD g hgD; (try rw [hD] at h); (try rw [hnD] at h); cbv)
        | (refine all_app (by first | assumption | exact (rfl : encL _ ([] : List _) = _)) (by first | assumption | rfl) (by assumption) (by first | assumption | rfl) ?_; intro L hL n_L hnL g hgL; (try rw [hL] at h); (try rw [Option.bind_some] at h); (try rw [hnL] at h); cbv))
    | ((with_reducible show ∀ _ : List V, _)
       first
        | (refine @all_rd _ _ e72 rd_T72 ?_ ?_ ?_ _ _ _ (fun _ _ => rfl) ?_ ?_ ?_ ?_ ?_ ?_
           rotate_left 3
           assumption
           assumption
           (first | rfl | assumption)
           (first | assumption | exact lt_ix (by assumption) (by assumption) (by assumption) | exact lt_ix2 (by assumption) (by assumption) (by assumption) (by assumption) | exact lt_y (by assumption) (by assumption) | exact le_y (by assumption) | exact ge_y (by assumption) | exact cut_le (by assumption) (by assumption) | omega)
           (first | assumption | exact lt_ix (by assumption) (by assumption) (by assumption) | exact lt_ix2 (by assumption) (by assumption) (by assumption) (by assumption) | exact lt_y (by assumption) (by assumption) | exact le_y (by assumption) | exact ge_y (by assumption) | exact cut_le (by assumption) (by assumption) | omega)
           intro z hz
           (try rw [hz] at h); cbv))
    | (obtain ⟨hc, h'⟩ := if_none h; clear h; have h := h'; clear h')
    | (simp only [Option.some.injEq, Prod.mk.injEq] at h; subst h)
    | ((with_reducible show ∃ _, _)
       refine side (by first | exact enc_same (by assumption) (by assumption) _ | exact take_s1 (by assumption) (by assumption) (by assumption) | exact take_s2 (by assumption) (by assumption) (by assumption) (by assumption) (by assumption) | exact take_s3 (by assumption) (by assumption) (by assumption) | exact take_s4 (by assumption) (by assumption) (by assumption) | (intro k hk; subst_vars; first | eq_refl | exact enc_drop | exact enc_take hk | exact absurd hk (Nat.not_lt_zero k)) | (subst_vars; first | eq_refl | (simp; done) | (simp; omega)) | (have h1 : Int.toNat 1 = 1 := rfl; have h2 := one_le (by assumption) (by assumption); simp only [List.length_append, List.length_nil, List.length_drop, h1] at *; omega) | (simp only [Nat.cast] at *; omega)) ?_; (try cbv)))

def impl_committedValues.l1 : Nat → List Int → List (S72) → Int → Int → Option (List Int)
  | 0, _, _, _, _ => none
  | k + 1, x3, x18, x19, x20 => if x20 < x19 then (if 0 ≤ x20 then (if x20 < (x18.length : Int) then (if ((rd_T72 x18 x20).f0) = 1 then (if 0 ≤ ((rd_T72 x18 x20).f1) then (if ((rd_T72 x18 x20).f1) < (x3.length : Int) then (impl_committedValues.l1 k (x3.set (((rd_T72 x18 x20).f1) : Int).toNat ((rd_T72 x18 x20).f2)) x18 x19 (wrap64 (x20 + 1))) else (none)) else (none)) else (impl_committedValues.l1 k x3 x18 x19 (wrap64 (x20 + 1)))) else (none)) else (none)) else (some x3)
def impl_committedValues.l0 : Nat → List (S72) → List Int → Int → Int → Option (List Int)
  | 0, _, _, _, _ => none
  | k + 1, x0, x3, x9, x10 => if x10 < x9 then (if 0 ≤ x10 then (if x10 < (x3.length : Int) then (impl_committedValues.l0 k x0 (x3.set (x10 : Int).toNat (-1)) x9 (wrap64 (x10 + 1))) else (none)) else (none)) else ((impl_committedPart.f k x0).bind fun t445 => (impl_committedValues.l1 k x3 t445 (t445.length : Int) 0))
def impl_committedValues.f (k : Nat) (l0 : List (S72)) : Option (List Int) := if 8 ≤ 35184372088832 then ((some (List.replicate 8 0 : List Int)).bind fun y441 => (impl_committedValues.l0 k l0 y441 (y441.length : Int) 0)) else (none)

theorem impl_committedValues_ok (k : Nat) (l0 : List (S72)) (r0 : List Int) (h : impl_committedValues.f k l0 = some r0) (n_l0 : Nat) (hn_l0 : l0.length = n_l0) (g_l0 : Nat → List V) (hg_l0 : encL e72 l0 = g_l0) (n_r0 : Nat) (hn_r0 : r0.length = n_r0) (g_r0 : Nat → List V) (hg_r0 : encL eI r0 = g_r0) : CallOK Try.prog 159 [.fz 3 n_l0 g_l0] [] (.row 0 0 n_r0) [.row 3 1 n_r0 g_r0] := by
  refine CallOK.of_code tabOK Try.func159 rfl rfl ⟨[(7, [0, 3]), (12, [3, 18, 19, 20]), (13, [3])], []⟩ ?_
  unfold impl_committedValues.f at h
  obtain ⟨P, hP⟩ : ∃ P, Try.prog = P := ⟨_, rfl⟩
  rw [hP]
  (try rw [hn_l0] at h); skip
  cbv
  repeat' (first
    | ((with_reducible show ∃ _, _)
       first
        | (refine ⟨trivial, ?_⟩; cbv)
        | (refine side (by first | with_reducible eq_refl | assumption | (intro _ _; with_reducible eq_refl) | exact lt_ix (by assumption) (by assumption) (by assumption) | exact lt_ix2 (by assumption) (by assumption) (by assumption) (by assumption) | exact lt_y (by assumption) (by assumption) | exact le_y (by assumption) | exact ge_y (by assumption) | exact cut_le (by assumption) (by assumption) | omega) ?_; (try cbv))
        | (refine bind_side (Eq.refl _) ?_; (try cbv))
        | (refine ⟨Frz.own, ?_⟩; cbv)
        | (refine ⟨.row, ?_⟩; cbv))
    | ((with_reducible show ∃ _ : Nat, _)
       first
        | (refine ⟨_, [3, 18, 19, 20], Nat.lt_succ_self _, ?_⟩; cbv; exact ⟨_, _, _, _, _, _, _, _, h, by first | assumption | rfl, by first | assumption | rfl, by first | assumption | rfl, by first | assumption | rfl, rfl⟩)
        | (refine ⟨_, [0, 3, 9, 10], Nat.lt_succ_self _, ?_⟩; cbv; exact ⟨_, _, _, _, _, _, _, _, h, by first | assumption | rfl, by first | assumption | rfl, by first | assumption | rfl, by first | assumption | rfl, rfl⟩))
    | ((with_reducible show ∃ _ : List Nat, _)
       first
        | ((with_reducible (have h0 : Option.bind (impl_committedPart.f _ _) _ = some _ := h; clear h0))
           refine ⟨[], ?_⟩; cbv
           repeat (first | (refine all_show (by first | omega | decide) ?_; cbv) | (refine all_showT (by assumption) (by assumption) (by assumption) (by first | assumption | exact lt_ix (by assumption) (by assumption) (by assumption) | exact lt_ix2 (by assumption) (by assumption) (by assumption) (by assumption) | exact lt_y (by assumption) (by assumption) | exact le_y (by assumption) | exact ge_y (by assumption) | exact cut_le (by assumption) (by assumption) | omega) (by first | assumption | exact cut_hi (by assumption) | exact cut_hi2 (by assumption) (by assumption) | omega) ?_; intro D hD hnD g hgD; (try rw [hD] at h); cbv))
           obtain ⟨t, ht, h'⟩ := bind_some h
           clear h; have h := h'; clear h'; (try dsimp only at h)
           obtain ⟨n_c179_0, hn_c179_0⟩ : ∃ n, t.length = n := ⟨_, rfl⟩; obtain ⟨g_t, hg_c179_0⟩ : ∃ g, encL e72 t = g := ⟨_, rfl⟩; (try rw [hn_c179_0] at h)
           refine ⟨_, _, (hP ▸ impl_committedPart_ok _ _ _ ht _ (by first | assumption | rfl) _ (by assumption) _ hn_c179_0 _ hg_c179_0 : CallOK P 179 _ _ _ _), ?_⟩; cbv))
    | ((with_reducible show ∃ _ : Nat → List V, _)
       first
        | (refine all_putS eI (by assumption) (by assumption) (by (first | assumption | exact lt_ix (by assumption) (by assumption) (by assumption) | exact lt_ix2 (by assumption) (by assumption) (by assumption) (by assumption) | exact lt_y (by assumption) (by assumption) | exact le_y (by assumption) | exact ge_y (by assumption) | exact cut_le (by assumption) (by assumption) | omega)) rfl (fun _ => rfl) ?_; intro L hL hnL g hgL; (try rw [hL] at h); (try rw [Option.bind_some] at h); (try rw [hnL] at h); cbv))
    | ((with_reducible show ∃ _ : Nat → St → Prop, _)
       first
        | (refine ⟨fun k1 s => ∃ x0 x3 x9 x10 n_x0 g_x0 n_x3 g_x3, impl_committedValues.l0 k1 x0 x3 x9 x10 = some r0 ∧ x0.length = n_x0 ∧ encL e72 x0 = g_x0 ∧ x3.length = n_x3 ∧ encL eI x3 = g_x3 ∧ s = ⟨⟨35, (upd 35 (upd 35 (upd 35 (upd 35 noT 10 (.val (.int .i64 x10))) 9 (.val (.int .i64 x9))) 3 (.row 0 0 n_x3)) 0 (.fz 3 n_x0 g_x0))⟩, [.row 3 1 n_x3 g_x3]⟩, ?_, [], ?_⟩
           rotate_left
           · cbv; exact ⟨_, [0, 3, 9, 10], by cbv; exact ⟨_, _, _, _, _, _, _, _, h, by first | assumption | rfl, by first | assumption | rfl, by first | assumption | rfl, by first | assumption | rfl, rfl⟩⟩
           clear h
           rintro (_ | k1) s1 ⟨x0, x3, x9, x10, n_x0, g_x0, n_x3, g_x3, h, hn_x0, hg_x0, hn_x3, hg_x3, rfl⟩
           · cases h
           unfold impl_committedValues.l0 at h
           (try rw [hn_x0] at h); (try rw [hn_x3] at h); skip
           cbv)
        | (refine ⟨fun k1 s => ∃ x3 x18 x19 x20 n_x3 g_x3 n_x18 g_x18, impl_committedValues.l1 k1 x3 x18 x19 x20 = some r0 ∧ x3.length = n_x3 ∧ encL eI x3 = g_x3 ∧ x18.length = n_x18 ∧ encL e72 x18 = g_x18 ∧ s = ⟨⟨35, (upd 35 (upd 35 (upd 35 (upd 35 noT 20 (.val (.int .i64 x20))) 19 (.val (.int .i64 x19))) 18 (.row 1 0 n_x18)) 3 (.row 0 0 n_x3))⟩, [.row 3 1 n_x3 g_x3, .row 72 3 n_x18 g_x18]⟩, ?_, [], ?_⟩
           rotate_left
           · cbv; exact ⟨_, [3, 18, 19, 20], by cbv; exact ⟨_, _, _, _, _, _, _, _, h, by first | assumption | rfl, by first | assumption | rfl, by first | assumption | rfl, by first | assumption | rfl, rfl⟩⟩
           clear h
           rintro (_ | k1) s1 ⟨x3, x18, x19, x20, n_x3, g_x3, n_x18, g_x18, h, hn_x3, hg_x3, hn_x18, hg_x18, rfl⟩
           · cases h
           unfold impl_committedValues.l1 at h
           (try rw [hn_x3] at h); (try rw [hn_x18] at h); skip
           cbv))
    | ((with_reducible show ∀ _ : Bool, _)
       first
        | (refine all_lt ?_ ?_ <;> (intro hd; first | exact absurd rfl hd | ((first | rw [if_pos hd] at h | rw [if_neg hd] at h | rw [if_pos (by omega)] at h | rw [if_neg (by omega)] at h | skip); (first | (rw [decide_eq_true hd] at h; (try simp only [bs, eq_self, if_true, if_false, reduceIte] at h)) | (rw [decide_eq_false hd] at h; (try simp only [bs, eq_self, if_true, if_false, reduceIte] at h)) | skip); cbv)))
        | (refine all_beq ?_ ?_ <;> (intro hd; first | exact absurd rfl hd | ((first | rw [if_pos hd] at h | rw [if_neg hd] at h | rw [if_pos (by omega)] at h | rw [if_neg (by omega)] at h | skip); (first | (rw [beq_pos hd] at h; (try simp only [bs, eq_self, if_true, if_false, reduceIte] at h)) | (rw [beq_neg hd] at h; (try simp only [bs, eq_self, if_true, if_false, reduceIte] at h)) | skip); cbv))))
    | ((with_reducible show ∀ _ : Int, _)
       first
        | (refine all_wrap ?_; intro y hy; (try rw [hy] at h); cbv)
        | (refine all_len ?_; intro y hy; (try replace hy : ((_ : Nat) : Int) = y := hy); (try rw [hy] at h); (try rw [show (NatCast.natCast _ : Int) = _ from hy] at h); cbv))
    | ((with_reducible show ∀ _ : Nat, _)
       first
        | (refine all_ix0 ?_; intro q hq; (try rw [hq] at h); cbv)
        | (refine all_mk eI (0 : Int) 8 rfl rfl ?_; intro L hL hnL g hgL; (try rw [hL] at h); (try rw [Option.bind_some] at h); (try rw [hnL] at h); cbv))
    | ((with_reducible show ∀ _ : List V, _)
       first
        | (refine @all_rd _ _ e72 rd_T72 ?_ ?_ ?_ _ _ _ (fun _ _ => rfl) ?_ ?_ ?_ ?_ ?_ ?_
           rotate_left 3
           assumption
           assumption
           (first | rfl | assumption)
           (first | assumption | exact lt_ix (by assumption) (by assumption) (by assumption) | exact lt_ix2 (by assumption) (by assumption) (by assumption) (by assumption) | exact lt_y (by assumption) (by assumption) | exact le_y (by assumption) | exact ge_y (by assumption) | exact cut_le (by assumption) (by assumption) | omega)
           (first | assumption | exact lt_ix (by assumption) (by assumption) (by assumption) | exact lt_ix2 (by assumption) (by assumption) (by assumption) (by assumption) | exact lt_y (by assumption) (by assumption) | exact le_y (by assumption) | exact ge_y (by assumption) | exact cut_le (by assumption) (by assumption) | omega)
           intro z hz
           (try rw [hz] at h); cbv))
    | (obtain ⟨hc, h'⟩ := if_none h; clear h; have h := h'; clear h')
    | (simp only [Option.bind_some] at h)
    | (simp only [Option.some.injEq, Prod.mk.injEq] at h; subst h)
    | ((with_reducible show ∃ _, _)
       refine side (by first | exact enc_same (by assumption) (by assumption) _ | exact take_s1 (by assumption) (by assumption) (by assumption) | exact take_s2 (by assumption) (by assumption) (by assumption) (by assumption) (by assumption) | exact take_s3 (by assumption) (by assumption) (by assumption) | exact take_s4 (by assumption) (by assumption) (by assumption) | (intro k hk; subst_vars; first | eq_refl | exact enc_drop | exact enc_take hk | exact absurd hk (Nat.not_lt_zero k)) | (subst_vars; first | eq_refl | (simp; done) | (simp; omega)) | (have h1 : Int.toNat 1 = 1 := rfl; have h2 := one_le (by assumption) (by assumption); simp only [List.length_append, List.length_nil, List.length_drop, h1] at *; omega) | (simp only [Nat.cast] at *; omega)) ?_; (try cbv)))

def impl_LostAfterCut.l0 : Nat → List Int → Int → List Int → Int → Int → Option (Int × Bool)
  | 0, _, _, _, _, _ => none
  | k + 1, x7, x8, x33, x34, x35 => if x35 < x34 then (if 0 ≤ x35 then (if x35 < (x33.length : Int) then (if x35 < (x7.length : Int) then (if (rd x33 x35) = (rd x7 x35) then (impl_LostAfterCut.l0 k x7 x8 x33 x34 (wrap64 (x35 + 1))) else (impl_LostAfterCut.l0 k x7 (wrap64 (x8 + 1)) x33 x34 (wrap64 (x35 + 1)))) else (none)) else (none)) else (none)) else (some (x8, true))
def impl_LostAfterCut.j0 : Nat → List (S72) → Int → Bool → Option (Int × Bool)
  | 0, _, _, _ => none
  | k + 1, x0, x1, x21 => if x21 = true then (some (0, false)) else ((impl_journalNumbers.f k x0).bind fun t452 => ((impl_committedValues.f k x0).bind fun t455 => (if 0 ≤ (mn x1 (t452.length : Int)) then (if (mn x1 (t452.length : Int)) ≤ (t452.length : Int) then ((impl_recovered.f k (t452.take ((mn x1 (t452.length : Int)) : Int).toNat)).bind fun t462 => ((impl_committedValues.f k t462).bind fun t465 => (impl_LostAfterCut.l0 k t455 0 t465 (t465.length : Int) 0))) else (none)) else (none))))
def impl_LostAfterCut.f (k : Nat) (l0 : List (S72)) (a1 : Int) : Option (Int × Bool) := (impl_areRecords.f k l0).bind fun t451 => (if t451 = true then (if a1 < 0 then (impl_LostAfterCut.j0 k l0 a1 true) else (impl_LostAfterCut.j0 k l0 a1 (decide (a1 > 200)))) else (impl_LostAfterCut.j0 k l0 a1 true))

theorem impl_LostAfterCut_ok (k : Nat) (l0 : List (S72)) (a1 : Int) (r0 : Int) (r1 : Bool) (h : impl_LostAfterCut.f k l0 a1 = some (r0, r1)) (n_l0 : Nat) (hn_l0 : l0.length = n_l0) (g_l0 : Nat → List V) (hg_l0 : encL e72 l0 = g_l0)  : CallOK Try.prog 50 [.fz 3 n_l0 g_l0, .val (.int .i64 a1)] [] (.tup [.val (.int .i64 r0), .val (.bool r1)]) [] := by
  refine CallOK.of_code tabOK Try.func50 rfl rfl ⟨[(2, []), (3, [0, 1]), (10, [7, 8, 33, 34, 35]), (11, [7, 8, 33, 34, 35]), (12, [8])], []⟩ ?_
  unfold impl_LostAfterCut.f at h
  obtain ⟨P, hP⟩ : ∃ P, Try.prog = P := ⟨_, rfl⟩
  rw [hP]
  (try rw [hn_l0] at h); skip
  cbv
  repeat' (first
    | ((with_reducible show ∃ _, _)
       first
        | (refine ⟨trivial, ?_⟩; cbv)
        | (refine side (by first | with_reducible eq_refl | assumption | (intro _ _; with_reducible eq_refl) | exact lt_ix (by assumption) (by assumption) (by assumption) | exact lt_ix2 (by assumption) (by assumption) (by assumption) (by assumption) | exact lt_y (by assumption) (by assumption) | exact le_y (by assumption) | exact ge_y (by assumption) | exact cut_le (by assumption) (by assumption) | omega) ?_; (try cbv))
        | (refine ⟨.kept, side (Eq.refl _) (side (by first | trivial | exact ⟨clean_enc (by assumption) (by assumption) (fun _ => rfl), trivial⟩) ?_)⟩; cbv)
        | (refine ⟨Frz.own, ?_⟩; cbv))
    | ((with_reducible show ∃ _ : Nat, _)
       first
        | (refine ⟨_, [7, 8, 33, 34, 35], Nat.lt_succ_self _, ?_⟩; cbv; exact ⟨_, _, _, _, _, _, _, _, _, h, by first | assumption | rfl, by first | assumption | rfl, by first | assumption | rfl, by first | assumption | rfl, rfl⟩))
    | ((with_reducible show ∃ _ : List Nat, _)
       first
        | ((with_reducible (have h0 : Option.bind (impl_recovered.f _ _) _ = some _ := h; clear h0))
           refine ⟨[], ?_⟩; cbv
           repeat (first | (refine all_show (by first | omega | decide) ?_; cbv) | (refine all_showT (by assumption) (by assumption) (by assumption) (by first | assumption | exact lt_ix (by assumption) (by assumption) (by assumption) | exact lt_ix2 (by assumption) (by assumption) (by assumption) (by assumption) | exact lt_y (by assumption) (by assumption) | exact le_y (by assumption) | exact ge_y (by assumption) | exact cut_le (by assumption) (by assumption) | omega) (by first | assumption | exact cut_hi (by assumption) | exact cut_hi2 (by assumption) (by assumption) | omega) ?_; intro D hD hnD g hgD; (try rw [hD] at h); cbv))
           obtain ⟨t, ht, h'⟩ := bind_some h
           clear h; have h := h'; clear h'; (try dsimp only at h)
           obtain ⟨n_c153_0, hn_c153_0⟩ : ∃ n, t.length = n := ⟨_, rfl⟩; obtain ⟨g_t, hg_c153_0⟩ : ∃ g, encL e72 t = g := ⟨_, rfl⟩; (try rw [hn_c153_0] at h)
           refine ⟨_, _, (hP ▸ impl_recovered_ok _ _ _ ht _ (by first | assumption | rfl) _ (by assumption) _ hn_c153_0 _ hg_c153_0 : CallOK P 153 _ _ _ _), ?_⟩; cbv)
        | ((with_reducible (have h0 : Option.bind (impl_areRecords.f _ _) _ = some _ := h; clear h0))
           refine ⟨[], ?_⟩; cbv
           repeat (first | (refine all_show (by first | omega | decide) ?_; cbv) | (refine all_showT (by assumption) (by assumption) (by assumption) (by first | assumption | exact lt_ix (by assumption) (by assumption) (by assumption) | exact lt_ix2 (by assumption) (by assumption) (by assumption) (by assumption) | exact lt_y (by assumption) (by assumption) | exact le_y (by assumption) | exact ge_y (by assumption) | exact cut_le (by assumption) (by assumption) | omega) (by first | assumption | exact cut_hi (by assumption) | exact cut_hi2 (by assumption) (by assumption) | omega) ?_; intro D hD hnD g hgD; (try rw [hD] at h); cbv))
           obtain ⟨t, ht, h'⟩ := bind_some h
           clear h; have h := h'; clear h'; (try dsimp only at h)
           refine ⟨_, _, (hP ▸ impl_areRecords_ok _ _ _ ht _ (by first | assumption | rfl) _ (by assumption)  : CallOK P 157 _ _ _ _), ?_⟩
           rcases t with _ | _ <;> (try simp only [bs, eq_self, if_true, if_false, reduceIte] at h) <;> (try (cases h; done)) <;> cbv)
        | ((with_reducible (have h0 : Option.bind (impl_journalNumbers.f _ _) _ = some _ := h; clear h0))
           refine ⟨[], ?_⟩; cbv
           repeat (first | (refine all_show (by first | omega | decide) ?_; cbv) | (refine all_showT (by assumption) (by assumption) (by assumption) (by first | assumption | exact lt_ix (by assumption) (by assumption) (by assumption) | exact lt_ix2 (by assumption) (by assumption) (by assumption) (by assumption) | exact lt_y (by assumption) (by assumption) | exact le_y (by assumption) | exact ge_y (by assumption) | exact cut_le (by assumption) (by assumption) | omega) (by first | assumption | exact cut_hi (by assumption) | exact cut_hi2 (by assumption) (by assumption) | omega) ?_; intro D hD hnD g hgD; (try rw [hD] at h); cbv))
           obtain ⟨t, ht, h'⟩ := bind_some h
           clear h; have h := h'; clear h'; (try dsimp only at h)
           obtain ⟨n_c158_0, hn_c158_0⟩ : ∃ n, t.length = n := ⟨_, rfl⟩; obtain ⟨g_t, hg_c158_0⟩ : ∃ g, encL eI t = g := ⟨_, rfl⟩; (try rw [hn_c158_0] at h)
           refine ⟨_, _, (hP ▸ impl_journalNumbers_ok _ _ _ ht _ (by first | assumption | rfl) _ (by assumption) _ hn_c158_0 _ hg_c158_0 : CallOK P 158 _ _ _ _), ?_⟩; cbv)
        | ((with_reducible (have h0 : Option.bind (impl_committedValues.f _ _) _ = some _ := h; clear h0))
           refine ⟨[], ?_⟩; cbv
           repeat (first | (refine all_show (by first | omega | decide) ?_; cbv) | (refine all_showT (by assumption) (by assumption) (by assumption) (by first | assumption | exact lt_ix (by assumption) (by assumption) (by assumption) | exact lt_ix2 (by assumption) (by assumption) (by assumption) (by assumption) | exact lt_y (by assumption) (by assumption) | exact le_y (by assumption) | exact ge_y (by assumption) | exact cut_le (by assumption) (by assumption) | omega) (by first | assumption | exact cut_hi (by assumption) | exact cut_hi2 (by assumption) (by assumption) | omega) ?_; intro D hD hnD g hgD; (try rw [hD] at h); cbv))
           obtain ⟨t, ht, h'⟩ := bind_some h
           clear h; have h := h'; clear h'; (try dsimp only at h)
           obtain ⟨n_c159_0, hn_c159_0⟩ : ∃ n, t.length = n := ⟨_, rfl⟩; obtain ⟨g_t, hg_c159_0⟩ : ∃ g, encL eI t = g := ⟨_, rfl⟩; (try rw [hn_c159_0] at h)
           refine ⟨_, _, (hP ▸ impl_committedValues_ok _ _ _ ht _ (by first | assumption | rfl) _ (by assumption) _ hn_c159_0 _ hg_c159_0 : CallOK P 159 _ _ _ _), ?_⟩; cbv))
    | ((with_reducible show ∃ _ : Nat → St → Prop, _)
       first
        | (refine ⟨fun k1 s => ∃ x7 x8 x33 x34 x35 n_x7 g_x7 n_x33 g_x33, impl_LostAfterCut.l0 k1 x7 x8 x33 x34 x35 = some (r0, r1) ∧ x7.length = n_x7 ∧ encL eI x7 = g_x7 ∧ x33.length = n_x33 ∧ encL eI x33 = g_x33 ∧ s = ⟨⟨50, (upd 50 (upd 50 (upd 50 (upd 50 (upd 50 noT 35 (.val (.int .i64 x35))) 34 (.val (.int .i64 x34))) 33 (.row 1 0 n_x33)) 8 (.val (.int .i64 x8))) 7 (.row 0 0 n_x7))⟩, [.row 3 1 n_x7 g_x7, .row 3 1 n_x33 g_x33]⟩, ?_, [], ?_⟩
           rotate_left
           · cbv; exact ⟨_, [7, 8, 33, 34, 35], by cbv; exact ⟨_, _, _, _, _, _, _, _, _, h, by first | assumption | rfl, by first | assumption | rfl, by first | assumption | rfl, by first | assumption | rfl, rfl⟩⟩
           clear h
           rintro (_ | k1) s1 ⟨x7, x8, x33, x34, x35, n_x7, g_x7, n_x33, g_x33, h, hn_x7, hg_x7, hn_x33, hg_x33, rfl⟩
           · cases h
           unfold impl_LostAfterCut.l0 at h
           (try rw [hn_x7] at h); (try rw [hn_x33] at h); skip
           cbv))
    | ((with_reducible (have h0 : impl_LostAfterCut.j0 _ _ _ _ = some _ := h; clear h0))
       first
        | (unfold impl_LostAfterCut.j0 at h
           rcases k with _ | k
           · cases h
           (try dsimp only at h); (try simp only [bs, eq_self, if_true, if_false, reduceIte] at h); (try rw [hn_l0] at h); (try rw [show (Nat.cast n_l0 : Int) = _ from (by assumption)] at h); (try rw [show (NatCast.natCast n_l0 : Int) = _ from (by assumption)] at h); (try (simp only [Nat.cast] at h; rw [show (NatCast.natCast n_l0 : Int) = _ from (by assumption)] at h)); (try rw [hn_c153_0] at h); (try rw [show (Nat.cast n_c153_0 : Int) = _ from (by assumption)] at h); (try rw [show (NatCast.natCast n_c153_0 : Int) = _ from (by assumption)] at h); (try (simp only [Nat.cast] at h; rw [show (NatCast.natCast n_c153_0 : Int) = _ from (by assumption)] at h)); (try rw [hn_c158_0] at h); (try rw [show (Nat.cast n_c158_0 : Int) = _ from (by assumption)] at h); (try rw [show (NatCast.natCast n_c158_0 : Int) = _ from (by assumption)] at h); (try (simp only [Nat.cast] at h; rw [show (NatCast.natCast n_c158_0 : Int) = _ from (by assumption)] at h)); (try rw [hn_c159_0] at h); (try rw [show (Nat.cast n_c159_0 : Int) = _ from (by assumption)] at h); (try rw [show (NatCast.natCast n_c159_0 : Int) = _ from (by assumption)] at h); (try (simp only [Nat.cast] at h; rw [show (NatCast.natCast n_c159_0 : Int) = _ from (by assumption)] at h)); (try rw [hn_x7] at h); (try rw [show (Nat.cast n_x7 : Int) = _ from (by assumption)] at h); (try rw [show (NatCast.natCast n_x7 : Int) = _ from (by assumption)] at h); (try (simp only [Nat.cast] at h; rw [show (NatCast.natCast n_x7 : Int) = _ from (by assumption)] at h)); (try rw [hn_x33] at h); (try rw [show (Nat.cast n_x33 : Int) = _ from (by assumption)] at h); (try rw [show (NatCast.natCast n_x33 : Int) = _ from (by assumption)] at h); (try (simp only [Nat.cast] at h; rw [show (NatCast.natCast n_x33 : Int) = _ from (by assumption)] at h))))
    | ((with_reducible show ∀ _ : Bool, _)
       first
        | (refine all_lt ?_ ?_ <;> (intro hd; first | exact absurd rfl hd | ((first | rw [if_pos hd] at h | rw [if_neg hd] at h | rw [if_pos (by omega)] at h | rw [if_neg (by omega)] at h | skip); (first | (rw [decide_eq_true hd] at h; (try simp only [bs, eq_self, if_true, if_false, reduceIte] at h)) | (rw [decide_eq_false hd] at h; (try simp only [bs, eq_self, if_true, if_false, reduceIte] at h)) | skip); cbv)))
        | (refine all_bne ?_ ?_ <;> (intro hd; first | exact absurd rfl hd | ((first | rw [if_pos hd] at h | rw [if_neg hd] at h | rw [if_pos (by omega)] at h | rw [if_neg (by omega)] at h | skip); (first | (rw [bne_pos hd] at h; (try simp only [bs, eq_self, if_true, if_false, reduceIte] at h)) | (rw [bne_neg hd] at h; (try simp only [bs, eq_self, if_true, if_false, reduceIte] at h)) | skip); cbv))))
    | ((with_reducible show ∀ _ : Int, _)
       first
        | (refine all_mn ?_; intro y hy; (try rw [hy] at h); cbv)
        | (refine all_wrap ?_; intro y hy; (try rw [hy] at h); cbv)
        | (refine all_len ?_; intro y hy; (try replace hy : ((_ : Nat) : Int) = y := hy); (try rw [hy] at h); (try rw [show (NatCast.natCast _ : Int) = _ from hy] at h); cbv))
    | ((with_reducible show ∀ _ : Nat, _)
       first
        | (refine all_ix0_old (by assumption) ?_; cbv)
        | (refine all_ix0 ?_; intro q hq; (try rw [hq] at h); cbv)
        | (intro off' n' ho hn'; obtain rfl : off' = _ := ho; (try replace hn' := cut_len hn' (by assumption)); (try replace hn' := cut_len0 hn'); cbv))
    | ((with_reducible show ∀ _ : List V, _)
       first
        | (refine @all_rd _ _ eI rd ?_ ?_ ?_ _ _ _ (fun _ _ => rfl) ?_ ?_ ?_ ?_ ?_ ?_
           rotate_left 3
           assumption
           assumption
           (first | rfl | assumption)
           (first | assumption | exact lt_ix (by assumption) (by assumption) (by assumption) | exact lt_ix2 (by assumption) (by assumption) (by assumption) (by assumption) | exact lt_y (by assumption) (by assumption) | exact le_y (by assumption) | exact ge_y (by assumption) | exact cut_le (by assumption) (by assumption) | omega)
           (first | assumption | exact lt_ix (by assumption) (by assumption) (by assumption) | exact lt_ix2 (by assumption) (by assumption) (by assumption) (by assumption) | exact lt_y (by assumption) (by assumption) | exact le_y (by assumption) | exact ge_y (by assumption) | exact cut_le (by assumption) (by assumption) | omega)
           intro z hz
           (try rw [hz] at h); cbv))
    | (obtain ⟨hc, h'⟩ := if_none h; clear h; have h := h'; clear h')
    | (simp only [Option.some.injEq, Prod.mk.injEq] at h; obtain ⟨rfl, rfl⟩ := h)
    | trivial)

def impl_RecordNumbers.f (a0_0 : Int) (a0_1 : Int) (a0_2 : Int) (a1 : Int) : Option (List Int × Bool) := (impl_IsJournalRecord.f a0_0 a0_1 a0_2).bind fun t532 => (if t532 = true then (if a1 < 0 then (some (([] : List Int), false)) else (if a1 ≥ 40 then (some (([] : List Int), false)) else ((impl_recordNumbers.f a0_0 a0_1 a0_2 a1).bind fun t533 => (some (t533, true))))) else (some (([] : List Int), false)))

theorem impl_RecordNumbers_ok  (a0_0 : Int) (a0_1 : Int) (a0_2 : Int) (a1 : Int) (r0 : List Int) (r1 : Bool) (h : impl_RecordNumbers.f a0_0 a0_1 a0_2 a1 = some (r0, r1))  (n_r0 : Nat) (hn_r0 : r0.length = n_r0) (g_r0 : Nat → List V) (hg_r0 : encL eI r0 = g_r0) : CallOK Try.prog 53 [.agg [.val (.int .i64 a0_0), .val (.int .i64 a0_1), .val (.int .i64 a0_2)], .val (.int .i64 a1)] [] (.tup [.row 0 0 n_r0, .val (.bool r1)]) [.row 3 1 n_r0 g_r0] := by
  refine CallOK.of_code tabOK Try.func53 rfl rfl ⟨[(2, []), (3, [1, 2])], []⟩ ?_
  unfold impl_RecordNumbers.f at h
  obtain ⟨P, hP⟩ : ∃ P, Try.prog = P := ⟨_, rfl⟩
  rw [hP]
  skip
  cbv
  repeat' (first
    | ((with_reducible show ∃ _, _)
       first
        | (refine ⟨trivial, ?_⟩; cbv)
        | (refine side (by first | with_reducible eq_refl | assumption | (intro _ _; with_reducible eq_refl) | exact lt_ix (by assumption) (by assumption) (by assumption) | exact lt_ix2 (by assumption) (by assumption) (by assumption) (by assumption) | exact lt_y (by assumption) (by assumption) | exact le_y (by assumption) | exact ge_y (by assumption) | exact cut_le (by assumption) (by assumption) | omega) ?_; (try cbv))
        | (refine bind_side (Eq.refl _) ?_; (try cbv))
        | (refine ⟨.kept, side (Eq.refl _) (side (by first | trivial | exact ⟨clean_enc (by assumption) (by assumption) (fun _ => rfl), trivial⟩) ?_)⟩; cbv)
        | (refine ⟨Frz.own, ?_⟩; cbv)
        | (refine ⟨.row, ?_⟩; cbv))
    | ((with_reducible show ∃ _ : List Nat, _)
       first
        | ((with_reducible (have h0 : Option.bind (impl_IsJournalRecord.f _ _ _) _ = some _ := h; clear h0))
           refine ⟨[], ?_⟩; cbv
           repeat (first | (refine all_show (by first | omega | decide) ?_; cbv) | (refine all_showT (by assumption) (by assumption) (by assumption) (by first | assumption | exact lt_ix (by assumption) (by assumption) (by assumption) | exact lt_ix2 (by assumption) (by assumption) (by assumption) (by assumption) | exact lt_y (by assumption) (by assumption) | exact le_y (by assumption) | exact ge_y (by assumption) | exact cut_le (by assumption) (by assumption) | omega) (by first | assumption | exact cut_hi (by assumption) | exact cut_hi2 (by assumption) (by assumption) | omega) ?_; intro D hD hnD g hgD; (try rw [hD] at h); cbv))
           obtain ⟨t, ht, h'⟩ := bind_some h
           clear h; have h := h'; clear h'; (try dsimp only at h)
           refine ⟨_, _, (hP ▸ impl_IsJournalRecord_ok _ _ _ _ ht   : CallOK P 57 _ _ _ _), ?_⟩
           rcases t with _ | _ <;> (try simp only [bs, eq_self, if_true, if_false, reduceIte] at h) <;> (try (cases h; done)) <;> cbv)
        | ((with_reducible (have h0 : Option.bind (impl_recordNumbers.f _ _ _ _) _ = some _ := h; clear h0))
           refine ⟨[], ?_⟩; cbv
           repeat (first | (refine all_show (by first | omega | decide) ?_; cbv) | (refine all_showT (by assumption) (by assumption) (by assumption) (by first | assumption | exact lt_ix (by assumption) (by assumption) (by assumption) | exact lt_ix2 (by assumption) (by assumption) (by assumption) (by assumption) | exact lt_y (by assumption) (by assumption) | exact le_y (by assumption) | exact ge_y (by assumption) | exact cut_le (by assumption) (by assumption) | omega) (by first | assumption | exact cut_hi (by assumption) | exact cut_hi2 (by assumption) (by assumption) | omega) ?_; intro D hD hnD g hgD; (try rw [hD] at h); cbv))
           obtain ⟨t, ht, h'⟩ := bind_some h
           clear h; have h := h'; clear h'; (try dsimp only at h)
           obtain ⟨n_c164_0, hn_c164_0⟩ : ∃ n, t.length = n := ⟨_, rfl⟩; obtain ⟨g_t, hg_c164_0⟩ : ∃ g, encL eI t = g := ⟨_, rfl⟩; (try rw [hn_c164_0] at h)
           refine ⟨_, _, (hP ▸ impl_recordNumbers_ok _ _ _ _ _ ht  _ hn_c164_0 _ hg_c164_0 : CallOK P 164 _ _ _ _), ?_⟩; cbv))
    | ((with_reducible show ∀ _ : Bool, _)
       first
        | (refine all_lt ?_ ?_ <;> (intro hd; first | exact absurd rfl hd | ((first | rw [if_pos hd] at h | rw [if_neg hd] at h | rw [if_pos (by omega)] at h | rw [if_neg (by omega)] at h | skip); (first | (rw [decide_eq_true hd] at h; (try simp only [bs, eq_self, if_true, if_false, reduceIte] at h)) | (rw [decide_eq_false hd] at h; (try simp only [bs, eq_self, if_true, if_false, reduceIte] at h)) | skip); cbv)))
        | (refine all_le ?_ ?_ <;> (intro hd; first | exact absurd rfl hd | ((first | rw [if_pos hd] at h | rw [if_neg hd] at h | rw [if_pos (by omega)] at h | rw [if_neg (by omega)] at h | skip); (first | (rw [decide_eq_true hd] at h; (try simp only [bs, eq_self, if_true, if_false, reduceIte] at h)) | (rw [decide_eq_false hd] at h; (try simp only [bs, eq_self, if_true, if_false, reduceIte] at h)) | skip); cbv))))
    | (simp only [Option.some.injEq, Prod.mk.injEq] at h; obtain ⟨rfl, rfl⟩ := h)
    | ((with_reducible show ∃ _, _)
       refine side (by first | exact enc_same (by assumption) (by assumption) _ | exact take_s1 (by assumption) (by assumption) (by assumption) | exact take_s2 (by assumption) (by assumption) (by assumption) (by assumption) (by assumption) | exact take_s3 (by assumption) (by assumption) (by assumption) | exact take_s4 (by assumption) (by assumption) (by assumption) | (intro k hk; subst_vars; first | eq_refl | exact enc_drop | exact enc_take hk | exact absurd hk (Nat.not_lt_zero k)) | (subst_vars; first | eq_refl | (simp; done) | (simp; omega)) | (have h1 : Int.toNat 1 = 1 := rfl; have h2 := one_le (by assumption) (by assumption); simp only [List.length_append, List.length_nil, List.length_drop, h1] at *; omega) | (simp only [Nat.cast] at *; omega)) ?_; (try cbv)))

def spec_l1Cur_next.f (s0_0 : List Int) (s0_1 : Int) (s0_2 : Int) : Option (Int × Int × Int) := if s0_1 < (s0_0.length : Int) then (if 0 ≤ s0_1 then (if (wrap64 (s0_1 + 1)) ≤ (s0_0.length : Int) then (some (wrap64 (rd s0_0 s0_1), wrap64 (s0_1 + 1), IntKind.u64.wrap ((IntKind.u64.wrap ((IntKind.u64.wrap (s0_2 * 6364136223846793005)) + (IntKind.u64.wrap (wrap64 (rd s0_0 s0_1))))) + 1442695040888963407))) else (some (wrap64 (Go.bits .and .u64 ((IntKind.u64.wrap ((IntKind.u64.wrap ((IntKind.u64.wrap (s0_2 * 6364136223846793005)) + (IntKind.u64.wrap (wrap64 (rd s0_0 s0_1))))) + 1442695040888963407)) / 1099511627776) 255), wrap64 (s0_1 + 1), IntKind.u64.wrap ((IntKind.u64.wrap ((IntKind.u64.wrap (s0_2 * 6364136223846793005)) + (IntKind.u64.wrap (wrap64 (rd s0_0 s0_1))))) + 1442695040888963407)))) else (none)) else (if (wrap64 (s0_1 + 1)) ≤ (s0_0.length : Int) then (some (0, wrap64 (s0_1 + 1), IntKind.u64.wrap ((IntKind.u64.wrap ((IntKind.u64.wrap (s0_2 * 6364136223846793005)) + 0)) + 1442695040888963407))) else (some (wrap64 (Go.bits .and .u64 ((IntKind.u64.wrap ((IntKind.u64.wrap ((IntKind.u64.wrap (s0_2 * 6364136223846793005)) + 0)) + 1442695040888963407)) / 1099511627776) 255), wrap64 (s0_1 + 1), IntKind.u64.wrap ((IntKind.u64.wrap ((IntKind.u64.wrap (s0_2 * 6364136223846793005)) + 0)) + 1442695040888963407))))

theorem spec_l1Cur_next_ok  (s0_0 : List Int) (s0_1 : Int) (s0_2 : Int) (r0 : Int) (r1 : Int) (r2 : Int) (h : spec_l1Cur_next.f s0_0 s0_1 s0_2 = some (r0, r1, r2)) (n_s0_0 : Nat) (hn_s0_0 : s0_0.length = n_s0_0) (g_s0_0 : Nat → List V) (hg_s0_0 : encL eU s0_0 = g_s0_0)  : CallOK Try.prog 199 [.ptr 0 0] [.box 139 [.fz 1 n_s0_0 g_s0_0, .val (.int .i64 s0_1), .val (.int .u64 s0_2)]] (.val (.int .i64 r0)) [.box 139 [.fz 1 n_s0_0 g_s0_0, .val (.int .i64 r1), .val (.int .u64 r2)]] := by
  refine CallOK.of_code tabOK Try.func199 rfl rfl ⟨[(3, [0]), (4, [0, 3]), (6, [0, 3]), (7, [3]), (8, [0])], []⟩ ?_
  unfold spec_l1Cur_next.f at h
  obtain ⟨P, hP⟩ : ∃ P, Try.prog = P := ⟨_, rfl⟩
  rw [hP]
  (try rw [hn_s0_0] at h); skip
  cbv
  repeat' (first
    | ((with_reducible show ∃ _, _)
       first
        | (refine ⟨trivial, ?_⟩; cbv)
        | (refine side (by first | with_reducible eq_refl | assumption | (intro _ _; with_reducible eq_refl) | exact lt_ix (by assumption) (by assumption) (by assumption) | exact lt_ix2 (by assumption) (by assumption) (by assumption) (by assumption) | exact lt_y (by assumption) (by assumption) | exact le_y (by assumption) | exact ge_y (by assumption) | exact cut_le (by assumption) (by assumption) | omega) ?_; (try cbv))
        | (refine ⟨.still 10, side (by decide +kernel) ?_⟩; cbv))
    | ((with_reducible show ∀ _ : Bool, _)
       first
        | (refine all_lt ?_ ?_ <;> (intro hd; first | exact absurd rfl hd | ((first | rw [if_pos hd] at h | rw [if_neg hd] at h | rw [if_pos (by omega)] at h | rw [if_neg (by omega)] at h | skip); (first | (rw [decide_eq_true hd] at h; (try simp only [bs, eq_self, if_true, if_false, reduceIte] at h)) | (rw [decide_eq_false hd] at h; (try simp only [bs, eq_self, if_true, if_false, reduceIte] at h)) | skip); cbv)))
        | (refine all_le ?_ ?_ <;> (intro hd; first | exact absurd rfl hd | ((first | rw [if_pos hd] at h | rw [if_neg hd] at h | rw [if_pos (by omega)] at h | rw [if_neg (by omega)] at h | skip); (first | (rw [decide_eq_true hd] at h; (try simp only [bs, eq_self, if_true, if_false, reduceIte] at h)) | (rw [decide_eq_false hd] at h; (try simp only [bs, eq_self, if_true, if_false, reduceIte] at h)) | skip); cbv))))
    | ((with_reducible show ∀ _ : Int, _)
       first
        | (refine all_u0 ?_; cbv)
        | (refine all_shr40 ?_; intro y hy; (try rw [hy] at h); cbv)
        | (refine all_and ?_; intro y hy; (try rw [hy] at h); cbv)
        | (refine all_wrap ?_; intro y hy; (try rw [hy] at h); cbv)
        | (refine all_len_old (by assumption) ?_; cbv)
        | (refine all_len ?_; intro y hy; (try replace hy : ((_ : Nat) : Int) = y := hy); (try rw [hy] at h); (try rw [show (NatCast.natCast _ : Int) = _ from hy] at h); cbv)
        | (refine all_eq (α := Int) ?_; intro y hy; (try replace hy : ((_ : Nat) : Int) = y := hy); (try rw [hy] at h); cbv))
    | ((with_reducible show ∀ _ : List V, _)
       first
        | (refine @all_rd _ _ eU rd ?_ ?_ ?_ _ _ _ (fun _ _ => rfl) ?_ ?_ ?_ ?_ ?_ ?_
           rotate_left 3
           assumption
           assumption
           (first | rfl | assumption)
           (first | assumption | exact lt_ix (by assumption) (by assumption) (by assumption) | exact lt_ix2 (by assumption) (by assumption) (by assumption) (by assumption) | exact lt_y (by assumption) (by assumption) | exact le_y (by assumption) | exact ge_y (by assumption) | exact cut_le (by assumption) (by assumption) | omega)
           (first | assumption | exact lt_ix (by assumption) (by assumption) (by assumption) | exact lt_ix2 (by assumption) (by assumption) (by assumption) (by assumption) | exact lt_y (by assumption) (by assumption) | exact le_y (by assumption) | exact ge_y (by assumption) | exact cut_le (by assumption) (by assumption) | omega)
           intro z hz
           (try rw [hz] at h); cbv))
    | (obtain ⟨hc, h'⟩ := if_none h; clear h; have h := h'; clear h')
    | (simp only [Option.some.injEq, Prod.mk.injEq] at h; obtain ⟨rfl, rfl, rfl⟩ := h)
    | trivial)

def spec_l1Cur_pick.f (s0_0 : List Int) (s0_1 : Int) (s0_2 : Int) (a1 : Int) : Option (Int × Int × Int) := if a1 ≤ 1 then (some (0, s0_1, s0_2)) else ((spec_l1Cur_next.f s0_0 s0_1 s0_2).bind fun bt102 => (if a1 > 200 then ((spec_l1Cur_next.f s0_0 bt102.2.1 bt102.2.2).bind fun bt105 => (if a1 = 0 then (none) else (some (Int.tmod (wrap64 ((wrap64 (bt102.1 * 256)) + bt105.1)) a1, bt105.2.1, bt105.2.2)))) else (if a1 = 0 then (none) else (some (Int.tmod bt102.1 a1, bt102.2.1, bt102.2.2)))))

theorem spec_l1Cur_pick_ok  (s0_0 : List Int) (s0_1 : Int) (s0_2 : Int) (a1 : Int) (r0 : Int) (r1 : Int) (r2 : Int) (h : spec_l1Cur_pick.f s0_0 s0_1 s0_2 a1 = some (r0, r1, r2)) (n_s0_0 : Nat) (hn_s0_0 : s0_0.length = n_s0_0) (g_s0_0 : Nat → List V) (hg_s0_0 : encL eU s0_0 = g_s0_0)  : CallOK Try.prog 122 [.ptr 0 0, .val (.int .i64 a1)] [.box 139 [.fz 1 n_s0_0 g_s0_0, .val (.int .i64 s0_1), .val (.int .u64 s0_2)]] (.val (.int .i64 r0)) [.box 139 [.fz 1 n_s0_0 g_s0_0, .val (.int .i64 r1), .val (.int .u64 r2)]] := by
  refine CallOK.of_code tabOK Try.func122 rfl rfl ⟨[(6, [1, 5])], []⟩ ?_
  unfold spec_l1Cur_pick.f at h
  obtain ⟨P, hP⟩ : ∃ P, Try.prog = P := ⟨_, rfl⟩
  rw [hP]
  (try rw [hn_s0_0] at h); skip
  cbv
  repeat' (first
    | ((with_reducible show ∃ _, _)
       first
        | (refine ⟨trivial, ?_⟩; cbv)
        | (refine side (by first | with_reducible eq_refl | assumption | (intro _ _; with_reducible eq_refl) | exact lt_ix (by assumption) (by assumption) (by assumption) | exact lt_ix2 (by assumption) (by assumption) (by assumption) (by assumption) | exact lt_y (by assumption) (by assumption) | exact le_y (by assumption) | exact ge_y (by assumption) | exact cut_le (by assumption) (by assumption) | omega) ?_; (try cbv))
        | (refine ⟨Frz.own, ?_⟩; cbv))
    | ((with_reducible show ∃ _ : List Nat, _)
       first
        | ((with_reducible (have h0 : Option.bind (spec_l1Cur_next.f _ _ _) _ = some _ := h; clear h0))
           refine ⟨[0], ?_⟩; cbv
           repeat (first | (refine all_show (by first | omega | decide) ?_; cbv) | (refine all_showT (by assumption) (by assumption) (by assumption) (by first | assumption | exact lt_ix (by assumption) (by assumption) (by assumption) | exact lt_ix2 (by assumption) (by assumption) (by assumption) (by assumption) | exact lt_y (by assumption) (by assumption) | exact le_y (by assumption) | exact ge_y (by assumption) | exact cut_le (by assumption) (by assumption) | omega) (by first | assumption | exact cut_hi (by assumption) | exact cut_hi2 (by assumption) (by assumption) | omega) ?_; intro D hD hnD g hgD; (try rw [hD] at h); cbv))
           obtain ⟨⟨t0, t1, t2⟩, ht, h'⟩ := bind_some h
           clear h; have h := h'; clear h'; (try dsimp only at h)
           refine ⟨_, _, (hP ▸ spec_l1Cur_next_ok _ _ _ _ _ _ ht _ (by first | assumption | rfl) _ (by assumption)  : CallOK P 199 _ _ _ _), ?_⟩; cbv))
    | ((with_reducible show ∀ _ : Bool, _)
       first
        | (refine all_lt ?_ ?_ <;> (intro hd; first | exact absurd rfl hd | ((first | rw [if_pos hd] at h | rw [if_neg hd] at h | rw [if_pos (by omega)] at h | rw [if_neg (by omega)] at h | skip); (first | (rw [decide_eq_true hd] at h; (try simp only [bs, eq_self, if_true, if_false, reduceIte] at h)) | (rw [decide_eq_false hd] at h; (try simp only [bs, eq_self, if_true, if_false, reduceIte] at h)) | skip); cbv)))
        | (refine all_le ?_ ?_ <;> (intro hd; first | exact absurd rfl hd | ((first | rw [if_pos hd] at h | rw [if_neg hd] at h | rw [if_pos (by omega)] at h | rw [if_neg (by omega)] at h | skip); (first | (rw [decide_eq_true hd] at h; (try simp only [bs, eq_self, if_true, if_false, reduceIte] at h)) | (rw [decide_eq_false hd] at h; (try simp only [bs, eq_self, if_true, if_false, reduceIte] at h)) | skip); cbv))))
    | ((with_reducible show ∀ _ : Int, _)
       first
        | (refine all_wrap ?_; intro y hy; (try rw [hy] at h); cbv)
        | (refine all_eq (α := Int) ?_; intro y hy; (try replace hy : ((_ : Nat) : Int) = y := hy); (try rw [hy] at h); cbv))
    | (obtain ⟨hc, h'⟩ := if_none' h; clear h; have h := h'; clear h')
    | (simp only [Option.some.injEq, Prod.mk.injEq] at h; obtain ⟨rfl, rfl, rfl⟩ := h)
    | trivial)

def spec_l1Cur_one.f (s0_0 : List Int) (s0_1 : Int) (s0_2 : Int) (a1 : Int) : Option (Bool × Int × Int) := (spec_l1Cur_pick.f s0_0 s0_1 s0_2 a1).bind fun bt112 => (some ((bt112.1 == 0), bt112.2.1, bt112.2.2))

theorem spec_l1Cur_one_ok  (s0_0 : List Int) (s0_1 : Int) (s0_2 : Int) (a1 : Int) (r0 : Bool) (r1 : Int) (r2 : Int) (h : spec_l1Cur_one.f s0_0 s0_1 s0_2 a1 = some (r0, r1, r2)) (n_s0_0 : Nat) (hn_s0_0 : s0_0.length = n_s0_0) (g_s0_0 : Nat → List V) (hg_s0_0 : encL eU s0_0 = g_s0_0)  : CallOK Try.prog 121 [.ptr 0 0, .val (.int .i64 a1)] [.box 139 [.fz 1 n_s0_0 g_s0_0, .val (.int .i64 s0_1), .val (.int .u64 s0_2)]] (.val (.bool r0)) [.box 139 [.fz 1 n_s0_0 g_s0_0, .val (.int .i64 r1), .val (.int .u64 r2)]] := by
  refine CallOK.of_code tabOK Try.func121 rfl rfl ⟨[], []⟩ ?_
  unfold spec_l1Cur_one.f at h
  obtain ⟨P, hP⟩ : ∃ P, Try.prog = P := ⟨_, rfl⟩
  rw [hP]
  (try rw [hn_s0_0] at h); skip
  cbv
  repeat' (first
    | ((with_reducible show ∃ _, _)
       first
        | (refine ⟨trivial, ?_⟩; cbv)
        | (refine side (by first | with_reducible eq_refl | assumption | (intro _ _; with_reducible eq_refl) | exact lt_ix (by assumption) (by assumption) (by assumption) | exact lt_ix2 (by assumption) (by assumption) (by assumption) (by assumption) | exact lt_y (by assumption) (by assumption) | exact le_y (by assumption) | exact ge_y (by assumption) | exact cut_le (by assumption) (by assumption) | omega) ?_; (try cbv))
        | (refine ⟨Frz.own, ?_⟩; cbv))
    | ((with_reducible show ∃ _ : List Nat, _)
       first
        | ((with_reducible (have h0 : Option.bind (spec_l1Cur_pick.f _ _ _ _) _ = some _ := h; clear h0))
           refine ⟨[0], ?_⟩; cbv
           repeat (first | (refine all_show (by first | omega | decide) ?_; cbv) | (refine all_showT (by assumption) (by assumption) (by assumption) (by first | assumption | exact lt_ix (by assumption) (by assumption) (by assumption) | exact lt_ix2 (by assumption) (by assumption) (by assumption) (by assumption) | exact lt_y (by assumption) (by assumption) | exact le_y (by assumption) | exact ge_y (by assumption) | exact cut_le (by assumption) (by assumption) | omega) (by first | assumption | exact cut_hi (by assumption) | exact cut_hi2 (by assumption) (by assumption) | omega) ?_; intro D hD hnD g hgD; (try rw [hD] at h); cbv))
           obtain ⟨⟨t0, t1, t2⟩, ht, h'⟩ := bind_some h
           clear h; have h := h'; clear h'; (try dsimp only at h)
           refine ⟨_, _, (hP ▸ spec_l1Cur_pick_ok _ _ _ _ _ _ _ ht _ (by first | assumption | rfl) _ (by assumption)  : CallOK P 122 _ _ _ _), ?_⟩; cbv))
    | ((with_reducible show ∀ _ : Bool, _)
       first
        | (refine all_beq ?_ ?_ <;> (intro hd; first | exact absurd rfl hd | ((first | rw [if_pos hd] at h | rw [if_neg hd] at h | rw [if_pos (by omega)] at h | rw [if_neg (by omega)] at h | skip); (first | (rw [beq_pos hd] at h; (try simp only [bs, eq_self, if_true, if_false, reduceIte] at h)) | (rw [beq_neg hd] at h; (try simp only [bs, eq_self, if_true, if_false, reduceIte] at h)) | skip); cbv))))
    | (simp only [Option.some.injEq, Prod.mk.injEq] at h; obtain ⟨rfl, rfl, rfl⟩ := h)
    | trivial)

def spec_l1Cur_among.f (s0_0 : List Int) (s0_1 : Int) (s0_2 : Int) (l1 : List Int) : Option (Int × Int × Int) := (spec_l1Cur_pick.f s0_0 s0_1 s0_2 (l1.length : Int)).bind fun bt108 => (if 0 ≤ bt108.1 then (if bt108.1 < (l1.length : Int) then (some (rd l1 bt108.1, bt108.2.1, bt108.2.2)) else (none)) else (none))

theorem spec_l1Cur_among_ok  (s0_0 : List Int) (s0_1 : Int) (s0_2 : Int) (l1 : List Int) (r0 : Int) (r1 : Int) (r2 : Int) (h : spec_l1Cur_among.f s0_0 s0_1 s0_2 l1 = some (r0, r1, r2)) (n_s0_0 : Nat) (hn_s0_0 : s0_0.length = n_s0_0) (g_s0_0 : Nat → List V) (hg_s0_0 : encL eU s0_0 = g_s0_0) (n_l1 : Nat) (hn_l1 : l1.length = n_l1) (g_l1 : Nat → List V) (hg_l1 : encL eI l1 = g_l1)  : CallOK Try.prog 136 [.ptr 0 0, .fz 1 n_l1 g_l1] [.box 139 [.fz 1 n_s0_0 g_s0_0, .val (.int .i64 s0_1), .val (.int .u64 s0_2)]] (.val (.int .i64 r0)) [.box 139 [.fz 1 n_s0_0 g_s0_0, .val (.int .i64 r1), .val (.int .u64 r2)]] := by
  refine CallOK.of_code tabOK Try.func136 rfl rfl ⟨[], []⟩ ?_
  unfold spec_l1Cur_among.f at h
  obtain ⟨P, hP⟩ : ∃ P, Try.prog = P := ⟨_, rfl⟩
  rw [hP]
  (try rw [hn_s0_0] at h); (try rw [hn_l1] at h); skip
  cbv
  repeat' (first
    | ((with_reducible show ∃ _, _)
       first
        | (refine ⟨trivial, ?_⟩; cbv)
        | (refine side (by first | with_reducible eq_refl | assumption | (intro _ _; with_reducible eq_refl) | exact lt_ix (by assumption) (by assumption) (by assumption) | exact lt_ix2 (by assumption) (by assumption) (by assumption) (by assumption) | exact lt_y (by assumption) (by assumption) | exact le_y (by assumption) | exact ge_y (by assumption) | exact cut_le (by assumption) (by assumption) | omega) ?_; (try cbv))
        | (refine ⟨Frz.own, ?_⟩; cbv))
    | ((with_reducible show ∃ _ : List Nat, _)
       first
        | ((with_reducible (have h0 : Option.bind (spec_l1Cur_pick.f _ _ _ _) _ = some _ := h; clear h0))
           refine ⟨[0], ?_⟩; cbv
           repeat (first | (refine all_show (by first | omega | decide) ?_; cbv) | (refine all_showT (by assumption) (by assumption) (by assumption) (by first | assumption | exact lt_ix (by assumption) (by assumption) (by assumption) | exact lt_ix2 (by assumption) (by assumption) (by assumption) (by assumption) | exact lt_y (by assumption) (by assumption) | exact le_y (by assumption) | exact ge_y (by assumption) | exact cut_le (by assumption) (by assumption) | omega) (by first | assumption | exact cut_hi (by assumption) | exact cut_hi2 (by assumption) (by assumption) | omega) ?_; intro D hD hnD g hgD; (try rw [hD] at h); cbv))
           obtain ⟨⟨t0, t1, t2⟩, ht, h'⟩ := bind_some h
           clear h; have h := h'; clear h'; (try dsimp only at h)
           refine ⟨_, _, (hP ▸ spec_l1Cur_pick_ok _ _ _ _ _ _ _ ht _ (by first | assumption | rfl) _ (by assumption)  : CallOK P 122 _ _ _ _), ?_⟩; cbv))
    | ((with_reducible show ∀ _ : Int, _)
       first
        | (refine all_len ?_; intro y hy; (try replace hy : ((_ : Nat) : Int) = y := hy); (try rw [hy] at h); (try rw [show (NatCast.natCast _ : Int) = _ from hy] at h); cbv))
    | ((with_reducible show ∀ _ : List V, _)
       first
        | (refine @all_rd _ _ eI rd ?_ ?_ ?_ _ _ _ (fun _ _ => rfl) ?_ ?_ ?_ ?_ ?_ ?_
           rotate_left 3
           assumption
           assumption
           (first | rfl | assumption)
           (first | assumption | exact lt_ix (by assumption) (by assumption) (by assumption) | exact lt_ix2 (by assumption) (by assumption) (by assumption) (by assumption) | exact lt_y (by assumption) (by assumption) | exact le_y (by assumption) | exact ge_y (by assumption) | exact cut_le (by assumption) (by assumption) | omega)
           (first | assumption | exact lt_ix (by assumption) (by assumption) (by assumption) | exact lt_ix2 (by assumption) (by assumption) (by assumption) (by assumption) | exact lt_y (by assumption) (by assumption) | exact le_y (by assumption) | exact ge_y (by assumption) | exact cut_le (by assumption) (by assumption) | omega)
           intro z hz
           (try rw [hz] at h); cbv))
    | (obtain ⟨hc, h'⟩ := if_none h; clear h; have h := h'; clear h')
    | (simp only [Option.some.injEq, Prod.mk.injEq] at h; obtain ⟨rfl, rfl, rfl⟩ := h)
    | trivial)

def spec_l1Cur_journalRecord.j0 : Nat → List Int → Int → Int → Int → Int → Int → Option (Int × Int × Int × Int × Int)
  | 0, _, _, _, _, _, _ => none
  | k + 1, x1000, x1001, x1002, x129000, x129001, x129002 => (spec_l1Cur_pick.f x1000 x1001 x1002 40).bind fun bt132 => (if bt132.1 = 0 then ((spec_l1Cur_among.f x1000 bt132.2.1 bt132.2.2 (([0, 3] : List Int))).bind fun bt138 => (some (bt138.1, x129001, x129002, bt138.2.1, bt138.2.2))) else (if bt132.1 = 1 then ((spec_l1Cur_among.f x1000 bt132.2.1 bt132.2.2 (([(-1), 1, 8] : List Int))).bind fun bt144 => (some (x129000, bt144.1, x129002, bt144.2.1, bt144.2.2))) else (if bt132.1 = 2 then ((spec_l1Cur_among.f x1000 bt132.2.1 bt132.2.2 (([(-1), 1, 1000] : List Int))).bind fun bt150 => (some (x129000, x129001, bt150.1, bt150.2.1, bt150.2.2))) else (some (x129000, x129001, x129002, bt132.2.1, bt132.2.2)))))
def spec_l1Cur_journalRecord.f (k : Nat) (s0_0 : List Int) (s0_1 : Int) (s0_2 : Int) : Option (Int × Int × Int × Int × Int) := (spec_l1Cur_pick.f s0_0 s0_1 s0_2 8).bind fun bt116 => ((spec_l1Cur_pick.f s0_0 bt116.2.1 bt116.2.2 1000).bind fun bt119 => ((spec_l1Cur_among.f s0_0 bt119.2.1 bt119.2.2 (([0, 5, 999, bt119.1] : List Int))).bind fun bt125 => ((spec_l1Cur_one.f s0_0 bt125.2.1 bt125.2.2 3).bind fun bt129 => (if bt129.1 = true then (spec_l1Cur_journalRecord.j0 k s0_0 bt129.2.1 bt129.2.2 2 0 0) else (spec_l1Cur_journalRecord.j0 k s0_0 bt129.2.1 bt129.2.2 1 bt116.1 bt125.1)))))

theorem spec_l1Cur_journalRecord_ok (k : Nat) (s0_0 : List Int) (s0_1 : Int) (s0_2 : Int) (r0 : Int) (r1 : Int) (r2 : Int) (r3 : Int) (r4 : Int) (h : spec_l1Cur_journalRecord.f k s0_0 s0_1 s0_2 = some (r0, r1, r2, r3, r4)) (n_s0_0 : Nat) (hn_s0_0 : s0_0.length = n_s0_0) (g_s0_0 : Nat → List V) (hg_s0_0 : encL eU s0_0 = g_s0_0)  : CallOK Try.prog 163 [.ptr 0 0] [.box 139 [.fz 1 n_s0_0 g_s0_0, .val (.int .i64 s0_1), .val (.int .u64 s0_2)]] (.agg [.val (.int .i64 r0), .val (.int .i64 r1), .val (.int .i64 r2)]) [.box 139 [.fz 1 n_s0_0 g_s0_0, .val (.int .i64 r3), .val (.int .u64 r4)]] := by
  refine CallOK.of_code tabOK Try.func163 rfl rfl ⟨[(3, [0, 2, 3]), (4, [0, 2, 3]), (11, [2, 3])], []⟩ ?_
  unfold spec_l1Cur_journalRecord.f at h
  obtain ⟨P, hP⟩ : ∃ P, Try.prog = P := ⟨_, rfl⟩
  rw [hP]
  (try rw [hn_s0_0] at h); skip
  cbv
  repeat' (first
    | ((with_reducible show ∃ _, _)
       first
        | (refine ⟨trivial, ?_⟩; cbv)
        | (refine side (by first | with_reducible eq_refl | assumption | (intro _ _; with_reducible eq_refl) | exact lt_ix (by assumption) (by assumption) (by assumption) | exact lt_ix2 (by assumption) (by assumption) (by assumption) (by assumption) | exact lt_y (by assumption) (by assumption) | exact le_y (by assumption) | exact ge_y (by assumption) | exact cut_le (by assumption) (by assumption) | omega) ?_; (try cbv))
        | (refine ⟨.dead, ?_⟩; cbv)
        | (refine ⟨Frz.own, ?_⟩; cbv))
    | ((with_reducible show ∃ _ : List Nat, _)
       first
        | ((with_reducible (have h0 : Option.bind (spec_l1Cur_one.f _ _ _ _) _ = some _ := h; clear h0))
           refine ⟨[0], ?_⟩; cbv
           repeat (first | (refine all_show (by first | omega | decide) ?_; cbv) | (refine all_showT (by assumption) (by assumption) (by assumption) (by first | assumption | exact lt_ix (by assumption) (by assumption) (by assumption) | exact lt_ix2 (by assumption) (by assumption) (by assumption) (by assumption) | exact lt_y (by assumption) (by assumption) | exact le_y (by assumption) | exact ge_y (by assumption) | exact cut_le (by assumption) (by assumption) | omega) (by first | assumption | exact cut_hi (by assumption) | exact cut_hi2 (by assumption) (by assumption) | omega) ?_; intro D hD hnD g hgD; (try rw [hD] at h); cbv))
           obtain ⟨⟨t0, t1, t2⟩, ht, h'⟩ := bind_some h
           clear h; have h := h'; clear h'; (try dsimp only at h)
           refine ⟨_, _, (hP ▸ spec_l1Cur_one_ok _ _ _ _ _ _ _ ht _ (by first | assumption | rfl) _ (by assumption)  : CallOK P 121 _ _ _ _), ?_⟩
           rcases t0 with _ | _ <;> (try simp only [bs, eq_self, if_true, if_false, reduceIte] at h) <;> (try (cases h; done)) <;> cbv)
        | ((with_reducible (have h0 : Option.bind (spec_l1Cur_pick.f _ _ _ _) _ = some _ := h; clear h0))
           refine ⟨[0], ?_⟩; cbv
           repeat (first | (refine all_show (by first | omega | decide) ?_; cbv) | (refine all_showT (by assumption) (by assumption) (by assumption) (by first | assumption | exact lt_ix (by assumption) (by assumption) (by assumption) | exact lt_ix2 (by assumption) (by assumption) (by assumption) (by assumption) | exact lt_y (by assumption) (by assumption) | exact le_y (by assumption) | exact ge_y (by assumption) | exact cut_le (by assumption) (by assumption) | omega) (by first | assumption | exact cut_hi (by assumption) | exact cut_hi2 (by assumption) (by assumption) | omega) ?_; intro D hD hnD g hgD; (try rw [hD] at h); cbv))
           obtain ⟨⟨t0, t1, t2⟩, ht, h'⟩ := bind_some h
           clear h; have h := h'; clear h'; (try dsimp only at h)
           refine ⟨_, _, (hP ▸ spec_l1Cur_pick_ok _ _ _ _ _ _ _ ht _ (by first | assumption | rfl) _ (by assumption)  : CallOK P 122 _ _ _ _), ?_⟩; cbv)
        | ((with_reducible (have h0 : Option.bind (spec_l1Cur_among.f _ _ _ _) _ = some _ := h; clear h0))
           refine ⟨[0], ?_⟩; cbv
           repeat (first | (refine all_show (by first | omega | decide) ?_; cbv) | (refine all_showT (by assumption) (by assumption) (by assumption) (by first | assumption | exact lt_ix (by assumption) (by assumption) (by assumption) | exact lt_ix2 (by assumption) (by assumption) (by assumption) (by assumption) | exact lt_y (by assumption) (by assumption) | exact le_y (by assumption) | exact ge_y (by assumption) | exact cut_le (by assumption) (by assumption) | omega) (by first | assumption | exact cut_hi (by assumption) | exact cut_hi2 (by assumption) (by assumption) | omega) ?_; intro D hD hnD g hgD; (try rw [hD] at h); cbv))
           obtain ⟨⟨t0, t1, t2⟩, ht, h'⟩ := bind_some h
           clear h; have h := h'; clear h'; (try dsimp only at h)
           refine ⟨_, _, (hP ▸ spec_l1Cur_among_ok _ _ _ _ _ _ _ ht _ (by first | assumption | rfl) _ (by assumption) _ (by first | assumption | rfl) _ (by assumption)  : CallOK P 136 _ _ _ _), ?_⟩; cbv))
    | ((with_reducible show ∃ _ : Nat → List V, _)
       first
        | (refine all_buildI2 ?_; intro g_b hg_b; cbv)
        | (refine all_buildI3 ?_; intro g_b hg_b; cbv)
        | (refine all_buildI4 ?_; intro g_b hg_b; cbv))
    | ((with_reducible (have h0 : spec_l1Cur_journalRecord.j0 _ _ _ _ _ _ _ = some _ := h; clear h0))
       first
        | (unfold spec_l1Cur_journalRecord.j0 at h
           rcases k with _ | k
           · cases h
           (try dsimp only at h); (try simp only [bs, eq_self, if_true, if_false, reduceIte] at h); (try rw [hn_s0_0] at h); (try rw [show (Nat.cast n_s0_0 : Int) = _ from (by assumption)] at h); (try rw [show (NatCast.natCast n_s0_0 : Int) = _ from (by assumption)] at h); (try (simp only [Nat.cast] at h; rw [show (NatCast.natCast n_s0_0 : Int) = _ from (by assumption)] at h))))
    | ((with_reducible show ∀ _ : Bool, _)
       first
        | (refine all_beq ?_ ?_ <;> (intro hd; first | exact absurd rfl hd | ((first | rw [if_pos hd] at h | rw [if_neg hd] at h | rw [if_pos (by omega)] at h | rw [if_neg (by omega)] at h | skip); (first | (rw [beq_pos hd] at h; (try simp only [bs, eq_self, if_true, if_false, reduceIte] at h)) | (rw [beq_neg hd] at h; (try simp only [bs, eq_self, if_true, if_false, reduceIte] at h)) | skip); cbv))))
    | (simp only [Option.some.injEq, Prod.mk.injEq] at h; obtain ⟨rfl, rfl, rfl, rfl, rfl⟩ := h)
    | trivial)

mutual
def spec_l1Cur_journalRecords.l0 : Nat → List (S72) → Int → List Int → Int → Int → Option ((List (S72)) × Int × Int)
  | 0, _, _, _, _, _ => none
  | k + 1, x3, x4, x1000, x1001, x1002 => if (x3.length : Int) < x4 then ((spec_l1Cur_journalRecord.f k x1000 x1001 x1002).bind fun bt165 => ((spec_jrRecord.f bt165.1 bt165.2.1 bt165.2.2.1).bind fun t171 => (if t171 = true then (spec_l1Cur_journalRecords.j2 k x3 x4 true x1000 bt165.2.2.2.1 bt165.2.2.2.2 bt165.1 bt165.2.1 bt165.2.2.1) else ((spec_l1Cur_one.f x1000 bt165.2.2.2.1 bt165.2.2.2.2 4).bind fun bt172 => (spec_l1Cur_journalRecords.j2 k x3 x4 bt172.1 x1000 bt172.2.1 bt172.2.2 bt165.1 bt165.2.1 bt165.2.2.1))))) else (some (x3, x1001, x1002))
def spec_l1Cur_journalRecords.j2 : Nat → List (S72) → Int → Bool → List Int → Int → Int → Int → Int → Int → Option ((List (S72)) × Int × Int)
  | 0, _, _, _, _, _, _, _, _, _ => none
  | k + 1, x3, x4, x24, x1000, x1001, x1002, x171000, x171001, x171002 => if x24 = true then (if x3.length < 5864062014805 then (spec_l1Cur_journalRecords.j3 k (x3 ++ [(⟨x171000, x171001, x171002⟩ : S72)]) x4 x1000 x1001 x1002 x171000 x171001 x171002) else (none)) else (spec_l1Cur_journalRecords.j3 k x3 x4 x1000 x1001 x1002 x171000 x171001 x171002)
def spec_l1Cur_journalRecords.j3 : Nat → List (S72) → Int → List Int → Int → Int → Int → Int → Int → Option ((List (S72)) × Int × Int)
  | 0, _, _, _, _, _, _, _, _ => none
  | k + 1, x3, x4, x1000, x1001, x1002, x171000, x171001, x171002 => (spec_jrRecord.f x171000 x171001 x171002).bind fun t178 => (if t178 = true then (spec_l1Cur_journalRecords.l0 k x3 x4 x1000 x1001 x1002) else ((spec_l1Cur_one.f x1000 x1001 x1002 8).bind fun bt179 => (if bt179.1 = true then (some (x3, bt179.2.1, bt179.2.2)) else (spec_l1Cur_journalRecords.l0 k x3 x4 x1000 bt179.2.1 bt179.2.2))))
end
def spec_l1Cur_journalRecords.j0 : Nat → List (S72) → Int → List Int → Int → Int → Option ((List (S72)) × Int × Int)
  | 0, _, _, _, _, _ => none
  | k + 1, x3, x4, x1000, x1001, x1002 => spec_l1Cur_journalRecords.l0 k x3 x4 x1000 x1001 x1002
def spec_l1Cur_journalRecords.f (k : Nat) (s0_0 : List Int) (s0_1 : Int) (s0_2 : Int) : Option ((List (S72)) × Int × Int) := (spec_l1Cur_pick.f s0_0 s0_1 s0_2 9).bind fun bt156 => ((spec_l1Cur_one.f s0_0 bt156.2.1 bt156.2.2 16).bind fun bt159 => (if bt159.1 = true then ((spec_l1Cur_pick.f s0_0 bt159.2.1 bt159.2.2 2).bind fun bt162 => (spec_l1Cur_journalRecords.j0 k ([] : List (S72)) (wrap64 (40 + bt162.1)) s0_0 bt162.2.1 bt162.2.2)) else (spec_l1Cur_journalRecords.j0 k ([] : List (S72)) bt156.1 s0_0 bt159.2.1 bt159.2.2)))

theorem spec_l1Cur_journalRecords_ok (k : Nat) (s0_0 : List Int) (s0_1 : Int) (s0_2 : Int) (r0 : (List (S72))) (r1 : Int) (r2 : Int) (h : spec_l1Cur_journalRecords.f k s0_0 s0_1 s0_2 = some (r0, r1, r2)) (n_s0_0 : Nat) (hn_s0_0 : s0_0.length = n_s0_0) (g_s0_0 : Nat → List V) (hg_s0_0 : encL eU s0_0 = g_s0_0) (n_r0 : Nat) (hn_r0 : r0.length = n_r0) (g_r0 : Nat → List V) (hg_r0 : encL e72 r0 = g_r0) : CallOK Try.prog 156 [.ptr 0 0] [.box 139 [.fz 1 n_s0_0 g_s0_0, .val (.int .i64 s0_1), .val (.int .u64 s0_2)]] (.row 1 0 n_r0) [.box 139 [.fz 1 n_s0_0 g_s0_0, .val (.int .i64 r1), .val (.int .u64 r2)], .row 72 3 n_r0 g_r0] := by
  refine CallOK.of_code tabOK Try.func156 rfl rfl ⟨[(8, [0, 3, 4, 5]), (9, [0, 3, 4, 5]), (10, [3])], []⟩ ?_
  unfold spec_l1Cur_journalRecords.f at h
  obtain ⟨P, hP⟩ : ∃ P, Try.prog = P := ⟨_, rfl⟩
  rw [hP]
  (try rw [hn_s0_0] at h); skip
  cbv
  repeat' (first
    | ((with_reducible show ∃ _, _)
       first
        | (refine ⟨trivial, ?_⟩; cbv)
        | (refine side (by first | with_reducible eq_refl | assumption | (intro _ _; with_reducible eq_refl) | exact lt_ix (by assumption) (by assumption) (by assumption) | exact lt_ix2 (by assumption) (by assumption) (by assumption) (by assumption) | exact lt_y (by assumption) (by assumption) | exact le_y (by assumption) | exact ge_y (by assumption) | exact cut_le (by assumption) (by assumption) | omega) ?_; (try cbv))
        | (refine bind_side (Eq.refl _) ?_; (try cbv))
        | (refine ⟨Frz.own, ?_⟩; cbv)
        | (refine ⟨.row, ?_⟩; cbv))
    | ((with_reducible show ∃ _ : Nat, _)
       first
        | (refine ⟨k1, [0, 3, 4], (by omega), ?_⟩; cbv; exact ⟨_, _, _, _, _, _, h, by first | assumption | rfl, by first | assumption | rfl, rfl⟩))
    | ((with_reducible show ∃ _ : List Nat, _)
       first
        | ((with_reducible (have h0 : Option.bind (spec_l1Cur_one.f _ _ _ _) _ = some _ := h; clear h0))
           refine ⟨[0], ?_⟩; cbv
           repeat (first | (refine all_show (by first | omega | decide) ?_; cbv) | (refine all_showT (by assumption) (by assumption) (by assumption) (by first | assumption | exact lt_ix (by assumption) (by assumption) (by assumption) | exact lt_ix2 (by assumption) (by assumption) (by assumption) (by assumption) | exact lt_y (by assumption) (by assumption) | exact le_y (by assumption) | exact ge_y (by assumption) | exact cut_le (by assumption) (by assumption) | omega) (by first | assumption | exact cut_hi (by assumption) | exact cut_hi2 (by assumption) (by assumption) | omega) ?_; intro D hD hnD g hgD; (try rw [hD] at h); cbv))
           obtain ⟨⟨t0, t1, t2⟩, ht, h'⟩ := bind_some h
           clear h; have h := h'; clear h'; (try dsimp only at h)
           refine ⟨_, _, (hP ▸ spec_l1Cur_one_ok _ _ _ _ _ _ _ ht _ (by first | assumption | rfl) _ (by assumption)  : CallOK P 121 _ _ _ _), ?_⟩
           rcases t0 with _ | _ <;> (try simp only [bs, eq_self, if_true, if_false, reduceIte] at h) <;> (try (cases h; done)) <;> cbv)
        | ((with_reducible (have h0 : Option.bind (spec_l1Cur_pick.f _ _ _ _) _ = some _ := h; clear h0))
           refine ⟨[0], ?_⟩; cbv
           repeat (first | (refine all_show (by first | omega | decide) ?_; cbv) | (refine all_showT (by assumption) (by assumption) (by assumption) (by first | assumption | exact lt_ix (by assumption) (by assumption) (by assumption) | exact lt_ix2 (by assumption) (by assumption) (by assumption) (by assumption) | exact lt_y (by assumption) (by assumption) | exact le_y (by assumption) | exact ge_y (by assumption) | exact cut_le (by assumption) (by assumption) | omega) (by first | assumption | exact cut_hi (by assumption) | exact cut_hi2 (by assumption) (by assumption) | omega) ?_; intro D hD hnD g hgD; (try rw [hD] at h); cbv))
           obtain ⟨⟨t0, t1, t2⟩, ht, h'⟩ := bind_some h
           clear h; have h := h'; clear h'; (try dsimp only at h)
           refine ⟨_, _, (hP ▸ spec_l1Cur_pick_ok _ _ _ _ _ _ _ ht _ (by first | assumption | rfl) _ (by assumption)  : CallOK P 122 _ _ _ _), ?_⟩; cbv)
        | ((with_reducible (have h0 : Option.bind (spec_l1Cur_journalRecord.f _ _ _ _) _ = some _ := h; clear h0))
           refine ⟨[0], ?_⟩; cbv
           repeat (first | (refine all_show (by first | omega | decide) ?_; cbv) | (refine all_showT (by assumption) (by assumption) (by assumption) (by first | assumption | exact lt_ix (by assumption) (by assumption) (by assumption) | exact lt_ix2 (by assumption) (by assumption) (by assumption) (by assumption) | exact lt_y (by assumption) (by assumption) | exact le_y (by assumption) | exact ge_y (by assumption) | exact cut_le (by assumption) (by assumption) | omega) (by first | assumption | exact cut_hi (by assumption) | exact cut_hi2 (by assumption) (by assumption) | omega) ?_; intro D hD hnD g hgD; (try rw [hD] at h); cbv))
           obtain ⟨⟨t0, t1, t2, t3, t4⟩, ht, h'⟩ := bind_some h
           clear h; have h := h'; clear h'; (try dsimp only at h)
           refine ⟨_, _, (hP ▸ spec_l1Cur_journalRecord_ok _ _ _ _ _ _ _ _ _ ht _ (by first | assumption | rfl) _ (by assumption)  : CallOK P 163 _ _ _ _), ?_⟩; cbv)
        | ((with_reducible (have h0 : Option.bind (spec_jrRecord.f _ _ _) _ = some _ := h; clear h0))
           refine ⟨[], ?_⟩; cbv
           repeat (first | (refine all_show (by first | omega | decide) ?_; cbv) | (refine all_showT (by assumption) (by assumption) (by assumption) (by first | assumption | exact lt_ix (by assumption) (by assumption) (by assumption) | exact lt_ix2 (by assumption) (by assumption) (by assumption) (by assumption) | exact lt_y (by assumption) (by assumption) | exact le_y (by assumption) | exact ge_y (by assumption) | exact cut_le (by assumption) (by assumption) | omega) (by first | assumption | exact cut_hi (by assumption) | exact cut_hi2 (by assumption) (by assumption) | omega) ?_; intro D hD hnD g hgD; (try rw [hD] at h); cbv))
           obtain ⟨t, ht, h'⟩ := bind_some h
           clear h; have h := h'; clear h'; (try dsimp only at h)
           refine ⟨_, _, (hP ▸ spec_jrRecord_ok _ _ _ _ ht   : CallOK P 165 _ _ _ _), ?_⟩
           rcases t with _ | _ <;> (try simp only [bs, eq_self, if_true, if_false, reduceIte] at h) <;> (try (cases h; done)) <;> cbv))
    | ((with_reducible show ∃ _ : Nat → List V, _)
       first
        | (refine all_build1 e72 (x := ⟨_, _, _⟩) rfl ?_; intro g_b hg_b; cbv))
    | ((with_reducible show ∃ _ : Nat → St → Prop, _)
       first
        | (refine ⟨fun k1 s => ∃ x3 x4 x1001 x1002 n_x3 g_x3, spec_l1Cur_journalRecords.l0 k1 x3 x4 s0_0 x1001 x1002 = some (r0, r1, r2) ∧ x3.length = n_x3 ∧ encL e72 x3 = g_x3 ∧ s = ⟨⟨37, (upd 37 (upd 37 (upd 37 noT 4 (.val (.int .i64 x4))) 3 (.row 1 0 n_x3)) 0 (.ptr 0 0))⟩, [.box 139 [.fz 1 n_s0_0 g_s0_0, .val (.int .i64 x1001), .val (.int .u64 x1002)], .row 72 3 n_x3 g_x3]⟩, ?_, [], ?_⟩
           rotate_left
           · cbv; exact ⟨_, [0, 3, 4], by cbv; exact ⟨_, _, _, _, _, _, h, by first | assumption | rfl, by first | assumption | rfl, rfl⟩⟩
           clear h
           rintro (_ | k1) s1 ⟨x3, x4, x1001, x1002, n_x3, g_x3, h, hn_x3, hg_x3, rfl⟩
           · cases h
           unfold spec_l1Cur_journalRecords.l0 at h
           (try rw [hn_x3] at h); skip
           cbv))
    | ((with_reducible (have h0 : spec_l1Cur_journalRecords.j0 _ _ _ _ _ _ = some _ := h; clear h0))
       first
        | (unfold spec_l1Cur_journalRecords.j0 at h
           rcases k with _ | k
           · cases h
           (try dsimp only at h); (try simp only [bs, eq_self, if_true, if_false, reduceIte] at h); (try rw [hn_s0_0] at h); (try rw [show (Nat.cast n_s0_0 : Int) = _ from (by assumption)] at h); (try rw [show (NatCast.natCast n_s0_0 : Int) = _ from (by assumption)] at h); (try (simp only [Nat.cast] at h; rw [show (NatCast.natCast n_s0_0 : Int) = _ from (by assumption)] at h)); (try rw [hn_x3] at h); (try rw [show (Nat.cast n_x3 : Int) = _ from (by assumption)] at h); (try rw [show (NatCast.natCast n_x3 : Int) = _ from (by assumption)] at h); (try (simp only [Nat.cast] at h; rw [show (NatCast.natCast n_x3 : Int) = _ from (by assumption)] at h)); (try rw [hn_x1000] at h); (try rw [show (Nat.cast n_x1000 : Int) = _ from (by assumption)] at h); (try rw [show (NatCast.natCast n_x1000 : Int) = _ from (by assumption)] at h); (try (simp only [Nat.cast] at h; rw [show (NatCast.natCast n_x1000 : Int) = _ from (by assumption)] at h))))
    | ((with_reducible (have h0 : spec_l1Cur_journalRecords.j2 _ _ _ _ _ _ _ _ _ _ = some _ := h; clear h0))
       first
        | (unfold spec_l1Cur_journalRecords.j2 at h
           rcases k1 with _ | k1
           · cases h
           (try dsimp only at h); (try simp only [bs, eq_self, if_true, if_false, reduceIte] at h); (try rw [hn_s0_0] at h); (try rw [show (Nat.cast n_s0_0 : Int) = _ from (by assumption)] at h); (try rw [show (NatCast.natCast n_s0_0 : Int) = _ from (by assumption)] at h); (try (simp only [Nat.cast] at h; rw [show (NatCast.natCast n_s0_0 : Int) = _ from (by assumption)] at h)); (try rw [hn_x3] at h); (try rw [show (Nat.cast n_x3 : Int) = _ from (by assumption)] at h); (try rw [show (NatCast.natCast n_x3 : Int) = _ from (by assumption)] at h); (try (simp only [Nat.cast] at h; rw [show (NatCast.natCast n_x3 : Int) = _ from (by assumption)] at h)); (try rw [hn_x1000] at h); (try rw [show (Nat.cast n_x1000 : Int) = _ from (by assumption)] at h); (try rw [show (NatCast.natCast n_x1000 : Int) = _ from (by assumption)] at h); (try (simp only [Nat.cast] at h; rw [show (NatCast.natCast n_x1000 : Int) = _ from (by assumption)] at h))))
    | ((with_reducible (have h0 : spec_l1Cur_journalRecords.j3 _ _ _ _ _ _ _ _ _ = some _ := h; clear h0))
       first
        | (unfold spec_l1Cur_journalRecords.j3 at h
           rcases k1 with _ | k1
           · cases h
           (try dsimp only at h); (try simp only [bs, eq_self, if_true, if_false, reduceIte] at h); (try rw [hn_s0_0] at h); (try rw [show (Nat.cast n_s0_0 : Int) = _ from (by assumption)] at h); (try rw [show (NatCast.natCast n_s0_0 : Int) = _ from (by assumption)] at h); (try (simp only [Nat.cast] at h; rw [show (NatCast.natCast n_s0_0 : Int) = _ from (by assumption)] at h)); (try rw [hn_x3] at h); (try rw [show (Nat.cast n_x3 : Int) = _ from (by assumption)] at h); (try rw [show (NatCast.natCast n_x3 : Int) = _ from (by assumption)] at h); (try (simp only [Nat.cast] at h; rw [show (NatCast.natCast n_x3 : Int) = _ from (by assumption)] at h)); (try rw [hn_x1000] at h); (try rw [show (Nat.cast n_x1000 : Int) = _ from (by assumption)] at h); (try rw [show (NatCast.natCast n_x1000 : Int) = _ from (by assumption)] at h); (try (simp only [Nat.cast] at h; rw [show (NatCast.natCast n_x1000 : Int) = _ from (by assumption)] at h))))
    | ((with_reducible show ∀ _ : Bool, _)
       first
        | (refine all_lt ?_ ?_ <;> (intro hd; first | exact absurd rfl hd | ((first | rw [if_pos hd] at h | rw [if_neg hd] at h | rw [if_pos (by omega)] at h | rw [if_neg (by omega)] at h | skip); (first | (rw [decide_eq_true hd] at h; (try simp only [bs, eq_self, if_true, if_false, reduceIte] at h)) | (rw [decide_eq_false hd] at h; (try simp only [bs, eq_self, if_true, if_false, reduceIte] at h)) | skip); cbv))))
    | ((with_reducible show ∀ _ : Int, _)
       first
        | (refine all_wrap ?_; intro y hy; (try rw [hy] at h); cbv)
        | (refine all_len ?_; intro y hy; (try replace hy : ((_ : Nat) : Int) = y := hy); (try rw [hy] at h); (try rw [show (NatCast.natCast _ : Int) = _ from hy] at h); cbv))
    | ((with_reducible show ∀ _ : Nat, _)
       first
        | (refine all_app (by first | assumption | exact (rfl : encL _ ([] : List _) = _)) (by first | assumption | rfl) (by assumption) (by first | assumption | rfl) ?_; intro L hL n_L hnL g hgL; (try rw [hL] at h); (try rw [Option.bind_some] at h); (try rw [hnL] at h); cbv))
    | (obtain ⟨hc, h'⟩ := if_none h; clear h; have h := h'; clear h')
    | (simp only [Option.some.injEq, Prod.mk.injEq] at h; obtain ⟨rfl, rfl, rfl⟩ := h)
    | ((with_reducible show ∃ _, _)
       refine side (by first | exact enc_same (by assumption) (by assumption) _ | exact take_s1 (by assumption) (by assumption) (by assumption) | exact take_s2 (by assumption) (by assumption) (by assumption) (by assumption) (by assumption) | exact take_s3 (by assumption) (by assumption) (by assumption) | exact take_s4 (by assumption) (by assumption) (by assumption) | (intro k hk; subst_vars; first | eq_refl | exact enc_drop | exact enc_take hk | exact absurd hk (Nat.not_lt_zero k)) | (subst_vars; first | eq_refl | (simp; done) | (simp; omega)) | (have h1 : Int.toNat 1 = 1 := rfl; have h2 := one_le (by assumption) (by assumption); simp only [List.length_append, List.length_nil, List.length_drop, h1] at *; omega) | (simp only [Nat.cast] at *; omega)) ?_; (try cbv)))

def spec_DrawJournalNumbers.f (k : Nat) (l0 : List Int) : Option ((List (S72))) := (spec_l1Cur_journalRecords.f k l0 0 0).bind fun bt820 => (some bt820.1)

theorem spec_DrawJournalNumbers_ok (k : Nat) (l0 : List Int) (r0 : List (S72)) (h : spec_DrawJournalNumbers.f k l0 = some r0) (n_l0 : Nat) (hn_l0 : l0.length = n_l0) (g_l0 : Nat → List V) (hg_l0 : encL eU l0 = g_l0) (n_r0 : Nat) (hn_r0 : r0.length = n_r0) (g_r0 : Nat → List V) (hg_r0 : encL e72 r0 = g_r0) : CallOK Try.prog 178 [.fz 1 n_l0 g_l0] [] (.row 0 0 n_r0) [.row 72 3 n_r0 g_r0] := by
  refine CallOK.of_code tabOK Try.func178 rfl rfl ⟨[], []⟩ ?_
  unfold spec_DrawJournalNumbers.f at h
  obtain ⟨P, hP⟩ : ∃ P, Try.prog = P := ⟨_, rfl⟩
  rw [hP]
  (try rw [hn_l0] at h); skip
  cbv
  repeat' (first
    | ((with_reducible show ∃ _, _)
       first
        | (refine ⟨trivial, ?_⟩; cbv)
        | (refine all_show (by first | omega | decide) ?_; cbv)
        | (refine side (by first | with_reducible eq_refl | assumption | (intro _ _; with_reducible eq_refl) | exact lt_ix (by assumption) (by assumption) (by assumption) | exact lt_ix2 (by assumption) (by assumption) (by assumption) (by assumption) | exact lt_y (by assumption) (by assumption) | exact le_y (by assumption) | exact ge_y (by assumption) | exact cut_le (by assumption) (by assumption) | omega | (dsimp only; omega)) ?_; (try cbv))
        | (refine bind_side (Eq.refl _) ?_; (try cbv))
        | (refine agree_side (Eq.refl _) ?_; (try cbv))
        | (refine agree_weak (Eq.refl _) ?_; (try cbv))
        | (refine ⟨.kept, side (Eq.refl _) (side (by first | trivial | exact ⟨clean_enc (by assumption) (by assumption) (fun _ => rfl), trivial⟩) ?_)⟩; cbv)
        | (refine ⟨.dead, ?_⟩; cbv)
        | (refine ⟨Frz.own, ?_⟩; cbv)
        | (refine ⟨.row, ?_⟩; cbv))
    | ((with_reducible show ∃ _ : List Nat, _)
       first
        | ((with_reducible (have h0 : Option.bind (spec_l1Cur_journalRecords.f _ _ _ _) _ = some _ := h; clear h0))
           refine ⟨[0], ?_⟩; cbv
           repeat (first | (refine all_show (by first | omega | decide) ?_; cbv) | (refine all_showT (by assumption) (by assumption) (by assumption) (by first | assumption | exact lt_ix (by assumption) (by assumption) (by assumption) | exact lt_ix2 (by assumption) (by assumption) (by assumption) (by assumption) | exact lt_y (by assumption) (by assumption) | exact le_y (by assumption) | exact ge_y (by assumption) | exact cut_le (by assumption) (by assumption) | omega) (by first | assumption | exact cut_hi (by assumption) | exact cut_hi2 (by assumption) (by assumption) | exact cut_hi3 (by assumption) | exact cut_hi4 (by assumption) (by assumption) | omega) ?_; intro D hD hnD g hgD; (try rw [hD] at h); cbv))
           obtain ⟨⟨t0, t1, t2⟩, ht, h'⟩ := bind_some h
           clear h; have h := h'; clear h'; (try dsimp only at h)
           obtain ⟨n_c156_0, hn_c156_0⟩ : ∃ n, t0.length = n := ⟨_, rfl⟩; obtain ⟨g_t, hg_c156_0⟩ : ∃ g, encL e72 t0 = g := ⟨_, rfl⟩; (try rw [hn_c156_0] at h)
           refine ⟨_, _, (hP ▸ spec_l1Cur_journalRecords_ok _ _ _ _ _ _ _ ht _ (by first | assumption | rfl) _ (by assumption) _ hn_c156_0 _ hg_c156_0 : CallOK P 156 _ _ _ _), ?_⟩; cbv)
        | ((with_reducible (have h0 : Option.bind (spec_l1Cur_journalRecords.f _ _ _ _) _ = some _ := h; clear h0))
           refine ⟨[1], ?_⟩; cbv
           repeat (first | (refine all_show (by first | omega | decide) ?_; cbv) | (refine all_showT (by assumption) (by assumption) (by assumption) (by first | assumption | exact lt_ix (by assumption) (by assumption) (by assumption) | exact lt_ix2 (by assumption) (by assumption) (by assumption) (by assumption) | exact lt_y (by assumption) (by assumption) | exact le_y (by assumption) | exact ge_y (by assumption) | exact cut_le (by assumption) (by assumption) | omega) (by first | assumption | exact cut_hi (by assumption) | exact cut_hi2 (by assumption) (by assumption) | exact cut_hi3 (by assumption) | exact cut_hi4 (by assumption) (by assumption) | omega) ?_; intro D hD hnD g hgD; (try rw [hD] at h); cbv))
           obtain ⟨⟨t0, t1, t2⟩, ht, h'⟩ := bind_some h
           clear h; have h := h'; clear h'; (try dsimp only at h)
           obtain ⟨n_c156_0, hn_c156_0⟩ : ∃ n, t0.length = n := ⟨_, rfl⟩; obtain ⟨g_t, hg_c156_0⟩ : ∃ g, encL e72 t0 = g := ⟨_, rfl⟩; (try rw [hn_c156_0] at h)
           refine ⟨_, _, (hP ▸ spec_l1Cur_journalRecords_ok _ _ _ _ _ _ _ ht _ (by first | assumption | rfl) _ (by assumption) _ hn_c156_0 _ hg_c156_0 : CallOK P 156 _ _ _ _), ?_⟩; cbv)
        | ((with_reducible (have h0 : Option.bind (spec_l1Cur_journalRecords.f _ _ _ _) _ = some _ := h; clear h0))
           refine ⟨[2], ?_⟩; cbv
           repeat (first | (refine all_show (by first | omega | decide) ?_; cbv) | (refine all_showT (by assumption) (by assumption) (by assumption) (by first | assumption | exact lt_ix (by assumption) (by assumption) (by assumption) | exact lt_ix2 (by assumption) (by assumption) (by assumption) (by assumption) | exact lt_y (by assumption) (by assumption) | exact le_y (by assumption) | exact ge_y (by assumption) | exact cut_le (by assumption) (by assumption) | omega) (by first | assumption | exact cut_hi (by assumption) | exact cut_hi2 (by assumption) (by assumption) | exact cut_hi3 (by assumption) | exact cut_hi4 (by assumption) (by assumption) | omega) ?_; intro D hD hnD g hgD; (try rw [hD] at h); cbv))
           obtain ⟨⟨t0, t1, t2⟩, ht, h'⟩ := bind_some h
           clear h; have h := h'; clear h'; (try dsimp only at h)
           obtain ⟨n_c156_0, hn_c156_0⟩ : ∃ n, t0.length = n := ⟨_, rfl⟩; obtain ⟨g_t, hg_c156_0⟩ : ∃ g, encL e72 t0 = g := ⟨_, rfl⟩; (try rw [hn_c156_0] at h)
           refine ⟨_, _, (hP ▸ spec_l1Cur_journalRecords_ok _ _ _ _ _ _ _ ht _ (by first | assumption | rfl) _ (by assumption) _ hn_c156_0 _ hg_c156_0 : CallOK P 156 _ _ _ _), ?_⟩; cbv))
    | ((with_reducible show ∃ _ : Nat → List V, _)
       first
        | (refine all_g0 ?_; cbv)
        | (refine all_putS eU (by assumption) (by assumption) (by (first | assumption | exact lt_ix (by assumption) (by assumption) (by assumption) | exact lt_ix2 (by assumption) (by assumption) (by assumption) (by assumption) | exact lt_y (by assumption) (by assumption) | exact le_y (by assumption) | exact ge_y (by assumption) | exact cut_le (by assumption) (by assumption) | omega)) rfl (fun _ => rfl) ?_; intro L hL hnL g hgL; (try rw [hL] at h); (try rw [Option.bind_some] at h); (try rw [hnL] at h); cbv)
        | (refine all_putS e72 (x := ⟨_, _, _⟩) (by assumption) (by assumption) (by (first | assumption | exact lt_ix (by assumption) (by assumption) (by assumption) | exact lt_ix2 (by assumption) (by assumption) (by assumption) (by assumption) | exact lt_y (by assumption) (by assumption) | exact le_y (by assumption) | exact ge_y (by assumption) | exact cut_le (by assumption) (by assumption) | omega)) rfl (fun _ => rfl) ?_; intro L hL hnL g hgL; (try rw [hL] at h); (try rw [Option.bind_some] at h); (try rw [hnL] at h); cbv)
        | (refine all_build1 e72 (x := ⟨_, _, _⟩) rfl ?_; intro g_b hg_b; cbv))
    | ((with_reducible show ∀ _ : Bool, _)
       first
        | (refine all_lt ?_ ?_ <;> (intro hd; first | exact absurd rfl hd | ((first | rw [if_pos hd] at h | rw [if_neg hd] at h | rw [if_pos (by omega)] at h | rw [if_neg (by omega)] at h | skip); (first | (rw [decide_eq_true hd] at h; (try simp only [bs, eq_self, if_true, if_false, reduceIte] at h)) | (rw [decide_eq_false hd] at h; (try simp only [bs, eq_self, if_true, if_false, reduceIte] at h)) | skip); cbv)))
        | (refine all_le ?_ ?_ <;> (intro hd; first | exact absurd rfl hd | ((first | rw [if_pos hd] at h | rw [if_neg hd] at h | rw [if_pos (by omega)] at h | rw [if_neg (by omega)] at h | skip); (first | (rw [decide_eq_true hd] at h; (try simp only [bs, eq_self, if_true, if_false, reduceIte] at h)) | (rw [decide_eq_false hd] at h; (try simp only [bs, eq_self, if_true, if_false, reduceIte] at h)) | skip); cbv)))
        | (refine all_beq ?_ ?_ <;> (intro hd; first | exact absurd rfl hd | ((first | rw [if_pos hd] at h | rw [if_neg hd] at h | rw [if_pos (by omega)] at h | rw [if_neg (by omega)] at h | skip); (first | (rw [beq_pos hd] at h; (try simp only [bs, eq_self, if_true, if_false, reduceIte] at h)) | (rw [beq_neg hd] at h; (try simp only [bs, eq_self, if_true, if_false, reduceIte] at h)) | skip); cbv)))
        | (refine all_bne ?_ ?_ <;> (intro hd; first | exact absurd rfl hd | ((first | rw [if_pos hd] at h | rw [if_neg hd] at h | rw [if_pos (by omega)] at h | rw [if_neg (by omega)] at h | skip); (first | (rw [bne_pos hd] at h; (try simp only [bs, eq_self, if_true, if_false, reduceIte] at h)) | (rw [bne_neg hd] at h; (try simp only [bs, eq_self, if_true, if_false, reduceIte] at h)) | skip); cbv)))
        | (refine all_cells rfl ?_ ?_ <;> (intro hd; (first | (rw [hd] at h; (try simp only [bs, eq_self, if_true, if_false, reduceIte] at h)) | skip); cbv))
        | (refine all_cellsN rfl ?_ ?_ <;> (intro hd; (first | (rw [hd] at h; (try simp only [bs, eq_self, if_true, if_false, reduceIte] at h)) | skip); cbv))
        | (refine all_not_true ?_; cbv)
        | (refine all_not_false ?_; cbv)
        | (refine all_not ?_ ?_ <;> (intro hd; subst hd; (try simp only [bs, eq_self, if_true, if_false, reduceIte] at h); cbv))
        | (refine all_bool ?_ ?_ <;> (intro hd; (try simp only [hd, bs, eq_self, if_true, if_false, reduceIte] at h); cbv)))
    | ((with_reducible show ∀ _ : Int, _)
       first
        | (refine all_u0 ?_; cbv)
        | (refine all_mn ?_; intro y hy; (try rw [hy] at h); cbv)
        | (refine all_mx ?_; intro y hy; (try rw [hy] at h); cbv)
        | (refine all_neg ?_; intro y hy; (try rw [hy] at h); cbv)
        | (refine all_shr40 ?_; intro y hy; (try rw [hy] at h); cbv)
        | (refine all_and ?_; intro y hy; (try rw [hy] at h); cbv)
        | (refine all_wrap_old (by assumption) ?_; cbv)
        | (refine all_wrap ?_; intro y hy; (try rw [hy] at h); cbv)
        | (refine all_len_old (by assumption) ?_; cbv)
        | (refine all_len ?_; intro y hy; (try replace hy : ((_ : Nat) : Int) = y := hy); (try rw [hy] at h); (try rw [show (NatCast.natCast _ : Int) = _ from hy] at h); cbv)
        | (refine all_old (α := Int) (by assumption) ?_; cbv)
        | (refine all_eq (α := Int) ?_; intro y hy; (try replace hy : ((_ : Nat) : Int) = y := hy); (try rw [hy] at h); cbv))
    | ((with_reducible show ∀ _ : Nat, _)
       first
        | (refine @all_cut0 ?_ ?_ ?_ ?_ _ _ _ ?_ ?_ ?_ ?_ ?_
           rotate_left 4
           assumption
           assumption
           (first | assumption | exact lt_ix (by assumption) (by assumption) (by assumption) | exact lt_ix2 (by assumption) (by assumption) (by assumption) (by assumption) | exact lt_y (by assumption) (by assumption) | exact le_y (by assumption) | exact ge_y (by assumption) | exact cut_le (by assumption) (by assumption) | omega)
           (first | assumption | exact cut_hi (by assumption) | exact cut_hi2 (by assumption) (by assumption) | exact cut_hi3 (by assumption) | exact cut_hi4 (by assumption) (by assumption) | omega)
           intro D hD n_D hnD g hgD; (try rw [hD] at h); (try rw [hnD] at h); cbv)
        | (refine @all_cutD ?_ ?_ ?_ ?_ _ _ _ _ ?_ ?_ ?_ ?_ ?_ ?_
           rotate_left 4
           assumption
           assumption
           (first | assumption | exact lt_ix (by assumption) (by assumption) (by assumption) | exact lt_ix2 (by assumption) (by assumption) (by assumption) (by assumption) | exact lt_y (by assumption) (by assumption) | exact le_y (by assumption) | exact ge_y (by assumption) | exact cut_le (by assumption) (by assumption) | omega)
           (first | assumption | exact lt_ix (by assumption) (by assumption) (by assumption) | exact lt_ix2 (by assumption) (by assumption) (by assumption) (by assumption) | exact lt_y (by assumption) (by assumption) | exact le_y (by assumption) | exact ge_y (by assumption) | exact cut_le (by assumption) (by assumption) | omega)
           assumption
           intro D hD n_D hnD g hgD; (try rw [hD] at h); (try rw [hnD] at h); cbv)
        | (refine @all_cut ?_ ?_ ?_ ?_ _ _ _ _ ?_ ?_ ?_ ?_ ?_ ?_
           rotate_left 4
           assumption
           assumption
           (first | assumption | exact lt_ix (by assumption) (by assumption) (by assumption) | exact lt_ix2 (by assumption) (by assumption) (by assumption) (by assumption) | exact lt_y (by assumption) (by assumption) | exact le_y (by assumption) | exact ge_y (by assumption) | exact cut_le (by assumption) (by assumption) | omega)
           (first | assumption | exact lt_ix (by assumption) (by assumption) (by assumption) | exact lt_ix2 (by assumption) (by assumption) (by assumption) (by assumption) | exact lt_y (by assumption) (by assumption) | exact le_y (by assumption) | exact ge_y (by assumption) | exact cut_le (by assumption) (by assumption) | omega)
           (first | assumption | exact cut_hi (by assumption) | exact cut_hi2 (by assumption) (by assumption) | exact cut_hi3 (by assumption) | exact cut_hi4 (by assumption) (by assumption) | omega)
           intro D hD n_D hnD g hgD; (try rw [hD] at h); (try rw [hnD] at h); cbv)
        | (refine all_ix0_old (by assumption) ?_; cbv)
        | (refine all_ix0 ?_; intro q hq; (try rw [hq] at h); cbv)
        | (refine all_app (by first | assumption | exact (rfl : encL _ ([] : List _) = _)) (by first | assumption | rfl) (by assumption) (by first | assumption | rfl) ?_; intro L hL n_L hnL g hgL; (try rw [hL] at h); (try rw [Option.bind_some] at h); (try rw [hnL] at h); cbv)
        | (refine all_appF (by first | assumption | exact (rfl : encL _ ([] : List _) = _)) (by first | assumption | rfl) (by assumption) (by first | assumption | rfl) ?_; intro L hL n_L hnL g hgL; (try rw [hL] at h); (try rw [Option.bind_some] at h); (try rw [hnL] at h); cbv)
        | (refine all_appD (by first | assumption | exact (rfl : encL _ ([] : List _) = _)) (by first | assumption | rfl) (by assumption) (by first | assumption | (simp only [List.length_drop]; omega)) ?_; intro L hL n_L hnL g hgL; (try rw [hL] at h); (try rw [Option.bind_some] at h); (try rw [hnL] at h); cbv)
        | (intro off' n' ho hn'; obtain rfl : off' = _ := ho; (try replace hn' := cut_len hn' (by assumption)); (try replace hn' := cut_len0 hn'); cbv)
        | (refine all_eq (α := Nat) ?_; intro y hy; (try rw [hy] at h); cbv))
    | ((with_reducible show ∀ _ : List V, _)
       first
        | (refine @all_rd_old _ _ eU rd ?_ ?_ ?_ ?_ _ _ _ (fun _ _ => rfl) ?_ ?_ ?_ ?_ ?_ ?_ ?_
           rotate_left 4
           assumption
           assumption
           (first | rfl | assumption)
           (first | assumption | exact lt_ix (by assumption) (by assumption) (by assumption) | exact lt_ix2 (by assumption) (by assumption) (by assumption) (by assumption) | exact lt_y (by assumption) (by assumption) | exact le_y (by assumption) | exact ge_y (by assumption) | exact cut_le (by assumption) (by assumption) | omega)
           (first | assumption | exact lt_ix (by assumption) (by assumption) (by assumption) | exact lt_ix2 (by assumption) (by assumption) (by assumption) (by assumption) | exact lt_y (by assumption) (by assumption) | exact le_y (by assumption) | exact ge_y (by assumption) | exact cut_le (by assumption) (by assumption) | omega)
           assumption
           cbv)
        | (refine @all_rd _ _ eU rd ?_ ?_ ?_ _ _ _ (fun _ _ => rfl) ?_ ?_ ?_ ?_ ?_ ?_
           rotate_left 3
           assumption
           assumption
           (first | rfl | assumption)
           (first | assumption | exact lt_ix (by assumption) (by assumption) (by assumption) | exact lt_ix2 (by assumption) (by assumption) (by assumption) (by assumption) | exact lt_y (by assumption) (by assumption) | exact le_y (by assumption) | exact ge_y (by assumption) | exact cut_le (by assumption) (by assumption) | omega)
           (first | assumption | exact lt_ix (by assumption) (by assumption) (by assumption) | exact lt_ix2 (by assumption) (by assumption) (by assumption) (by assumption) | exact lt_y (by assumption) (by assumption) | exact le_y (by assumption) | exact ge_y (by assumption) | exact cut_le (by assumption) (by assumption) | omega)
           intro z hz
           (try rw [hz] at h); cbv)
        | (refine @all_rd_old _ _ e72 rd_T72 ?_ ?_ ?_ ?_ _ _ _ (fun _ _ => rfl) ?_ ?_ ?_ ?_ ?_ ?_ ?_
           rotate_left 4
           assumption
           assumption
           (first | rfl | assumption)
           (first | assumption | exact lt_ix (by assumption) (by assumption) (by assumption) | exact lt_ix2 (by assumption) (by assumption) (by assumption) (by assumption) | exact lt_y (by assumption) (by assumption) | exact le_y (by assumption) | exact ge_y (by assumption) | exact cut_le (by assumption) (by assumption) | omega)
           (first | assumption | exact lt_ix (by assumption) (by assumption) (by assumption) | exact lt_ix2 (by assumption) (by assumption) (by assumption) (by assumption) | exact lt_y (by assumption) (by assumption) | exact le_y (by assumption) | exact ge_y (by assumption) | exact cut_le (by assumption) (by assumption) | omega)
           assumption
           cbv)
        | (refine @all_rd _ _ e72 rd_T72 ?_ ?_ ?_ _ _ _ (fun _ _ => rfl) ?_ ?_ ?_ ?_ ?_ ?_
           rotate_left 3
           assumption
           assumption
           (first | rfl | assumption)
           (first | assumption | exact lt_ix (by assumption) (by assumption) (by assumption) | exact lt_ix2 (by assumption) (by assumption) (by assumption) (by assumption) | exact lt_y (by assumption) (by assumption) | exact le_y (by assumption) | exact ge_y (by assumption) | exact cut_le (by assumption) (by assumption) | omega)
           (first | assumption | exact lt_ix (by assumption) (by assumption) (by assumption) | exact lt_ix2 (by assumption) (by assumption) (by assumption) (by assumption) | exact lt_y (by assumption) (by assumption) | exact le_y (by assumption) | exact ge_y (by assumption) | exact cut_le (by assumption) (by assumption) | omega)
           intro z hz
           (try rw [hz] at h); cbv))
    | (obtain ⟨hc, h'⟩ := if_none h; clear h; have h := h'; clear h'; (try simp only [List.length_nil, Nat.zero_add] at hc))
    | (obtain ⟨hc, h'⟩ := if_none' h; clear h; have h := h'; clear h')
    | (cases h; done)
    | (simp only [Option.bind_some] at h)
    | (simp only [Option.some.injEq, Prod.mk.injEq] at h; subst h)
    | ((with_reducible show ∃ _, _)
       refine side (by first | exact enc_same (by assumption) (by assumption) _ | exact take_s1 (by assumption) (by assumption) (by assumption) | exact take_s2 (by assumption) (by assumption) (by assumption) (by assumption) (by assumption) | exact take_s3 (by assumption) (by assumption) (by assumption) | exact take_s4 (by assumption) (by assumption) (by assumption) | (intro k hk; subst_vars; first | eq_refl | exact enc_drop | exact enc_take hk | exact absurd hk (Nat.not_lt_zero k)) | (subst_vars; first | eq_refl | (simp; done) | (simp; omega)) | (have h1 : Int.toNat 1 = 1 := rfl; have h2 := one_le (by assumption) (by assumption); simp only [List.length_append, List.length_nil, List.length_drop, h1] at *; omega) | (simp only [Nat.cast] at *; omega)) ?_; (try cbv))
    | trivial
    | (exfalso; omega)
    | (simp only [beq_iff_eq] at h; first | rw [if_pos (by assumption)] at h | rw [if_neg (by assumption)] at h))

def spec_DrawCompactJournal.f (k : Nat) (l0 : List Int) : Option ((List (S72))) := (spec_DrawJournalNumbers.f k l0).bind fun t825 => (some t825)

theorem spec_DrawCompactJournal_ok (k : Nat) (l0 : List Int) (r0 : List (S72)) (h : spec_DrawCompactJournal.f k l0 = some r0) (n_l0 : Nat) (hn_l0 : l0.length = n_l0) (g_l0 : Nat → List V) (hg_l0 : encL eU l0 = g_l0) (n_r0 : Nat) (hn_r0 : r0.length = n_r0) (g_r0 : Nat → List V) (hg_r0 : encL e72 r0 = g_r0) : CallOK Try.prog 76 [.fz 1 n_l0 g_l0] [] (.row 0 0 n_r0) [.row 72 3 n_r0 g_r0] := by
  refine CallOK.of_code tabOK Try.func76 rfl rfl ⟨[], []⟩ ?_
  unfold spec_DrawCompactJournal.f at h
  obtain ⟨P, hP⟩ : ∃ P, Try.prog = P := ⟨_, rfl⟩
  rw [hP]
  (try rw [hn_l0] at h); skip
  cbv
  repeat' (first
    | ((with_reducible show ∃ _, _)
       first
        | (refine ⟨trivial, ?_⟩; cbv)
        | (refine all_show (by first | omega | decide) ?_; cbv)
        | (refine side (by first | with_reducible eq_refl | assumption | (intro _ _; with_reducible eq_refl) | exact lt_ix (by assumption) (by assumption) (by assumption) | exact lt_ix2 (by assumption) (by assumption) (by assumption) (by assumption) | exact lt_y (by assumption) (by assumption) | exact le_y (by assumption) | exact ge_y (by assumption) | exact cut_le (by assumption) (by assumption) | omega | (dsimp only; omega)) ?_; (try cbv))
        | (refine bind_side (Eq.refl _) ?_; (try cbv))
        | (refine agree_side (Eq.refl _) ?_; (try cbv))
        | (refine agree_weak (Eq.refl _) ?_; (try cbv))
        | (refine ⟨.kept, side (Eq.refl _) (side (by first | trivial | exact ⟨clean_enc (by assumption) (by assumption) (fun _ => rfl), trivial⟩) ?_)⟩; cbv)
        | (refine ⟨.dead, ?_⟩; cbv)
        | (refine ⟨Frz.own, ?_⟩; cbv)
        | (refine ⟨.row, ?_⟩; cbv))
    | ((with_reducible show ∃ _ : List Nat, _)
       first
        | ((with_reducible (have h0 : Option.bind (spec_DrawJournalNumbers.f _ _) _ = some _ := h; clear h0))
           refine ⟨[], ?_⟩; cbv
           repeat (first | (refine all_show (by first | omega | decide) ?_; cbv) | (refine all_showT (by assumption) (by assumption) (by assumption) (by first | assumption | exact lt_ix (by assumption) (by assumption) (by assumption) | exact lt_ix2 (by assumption) (by assumption) (by assumption) (by assumption) | exact lt_y (by assumption) (by assumption) | exact le_y (by assumption) | exact ge_y (by assumption) | exact cut_le (by assumption) (by assumption) | omega) (by first | assumption | exact cut_hi (by assumption) | exact cut_hi2 (by assumption) (by assumption) | exact cut_hi3 (by assumption) | exact cut_hi4 (by assumption) (by assumption) | omega) ?_; intro D hD hnD g hgD; (try rw [hD] at h); cbv))
           obtain ⟨t, ht, h'⟩ := bind_some h
           clear h; have h := h'; clear h'; (try dsimp only at h)
           obtain ⟨n_c178_0, hn_c178_0⟩ : ∃ n, t.length = n := ⟨_, rfl⟩; obtain ⟨g_t, hg_c178_0⟩ : ∃ g, encL e72 t = g := ⟨_, rfl⟩; (try rw [hn_c178_0] at h)
           refine ⟨_, _, (hP ▸ spec_DrawJournalNumbers_ok _ _ _ ht _ (by first | assumption | rfl) _ (by assumption) _ hn_c178_0 _ hg_c178_0 : CallOK P 178 _ _ _ _), ?_⟩; cbv))
    | ((with_reducible show ∃ _ : Nat → List V, _)
       first
        | (refine all_g0 ?_; cbv)
        | (refine all_putS eU (by assumption) (by assumption) (by (first | assumption | exact lt_ix (by assumption) (by assumption) (by assumption) | exact lt_ix2 (by assumption) (by assumption) (by assumption) (by assumption) | exact lt_y (by assumption) (by assumption) | exact le_y (by assumption) | exact ge_y (by assumption) | exact cut_le (by assumption) (by assumption) | omega)) rfl (fun _ => rfl) ?_; intro L hL hnL g hgL; (try rw [hL] at h); (try rw [Option.bind_some] at h); (try rw [hnL] at h); cbv)
        | (refine all_putS e72 (x := ⟨_, _, _⟩) (by assumption) (by assumption) (by (first | assumption | exact lt_ix (by assumption) (by assumption) (by assumption) | exact lt_ix2 (by assumption) (by assumption) (by assumption) (by assumption) | exact lt_y (by assumption) (by assumption) | exact le_y (by assumption) | exact ge_y (by assumption) | exact cut_le (by assumption) (by assumption) | omega)) rfl (fun _ => rfl) ?_; intro L hL hnL g hgL; (try rw [hL] at h); (try rw [Option.bind_some] at h); (try rw [hnL] at h); cbv)
        | (refine all_build1 e72 (x := ⟨_, _, _⟩) rfl ?_; intro g_b hg_b; cbv))
    | ((with_reducible show ∀ _ : Bool, _)
       first
        | (refine all_lt ?_ ?_ <;> (intro hd; first | exact absurd rfl hd | ((first | rw [if_pos hd] at h | rw [if_neg hd] at h | rw [if_pos (by omega)] at h | rw [if_neg (by omega)] at h | skip); (first | (rw [decide_eq_true hd] at h; (try simp only [bs, eq_self, if_true, if_false, reduceIte] at h)) | (rw [decide_eq_false hd] at h; (try simp only [bs, eq_self, if_true, if_false, reduceIte] at h)) | skip); cbv)))
        | (refine all_le ?_ ?_ <;> (intro hd; first | exact absurd rfl hd | ((first | rw [if_pos hd] at h | rw [if_neg hd] at h | rw [if_pos (by omega)] at h | rw [if_neg (by omega)] at h | skip); (first | (rw [decide_eq_true hd] at h; (try simp only [bs, eq_self, if_true, if_false, reduceIte] at h)) | (rw [decide_eq_false hd] at h; (try simp only [bs, eq_self, if_true, if_false, reduceIte] at h)) | skip); cbv)))
        | (refine all_beq ?_ ?_ <;> (intro hd; first | exact absurd rfl hd | ((first | rw [if_pos hd] at h | rw [if_neg hd] at h | rw [if_pos (by omega)] at h | rw [if_neg (by omega)] at h | skip); (first | (rw [beq_pos hd] at h; (try simp only [bs, eq_self, if_true, if_false, reduceIte] at h)) | (rw [beq_neg hd] at h; (try simp only [bs, eq_self, if_true, if_false, reduceIte] at h)) | skip); cbv)))
        | (refine all_bne ?_ ?_ <;> (intro hd; first | exact absurd rfl hd | ((first | rw [if_pos hd] at h | rw [if_neg hd] at h | rw [if_pos (by omega)] at h | rw [if_neg (by omega)] at h | skip); (first | (rw [bne_pos hd] at h; (try simp only [bs, eq_self, if_true, if_false, reduceIte] at h)) | (rw [bne_neg hd] at h; (try simp only [bs, eq_self, if_true, if_false, reduceIte] at h)) | skip); cbv)))
        | (refine all_cells rfl ?_ ?_ <;> (intro hd; (first | (rw [hd] at h; (try simp only [bs, eq_self, if_true, if_false, reduceIte] at h)) | skip); cbv))
        | (refine all_cellsN rfl ?_ ?_ <;> (intro hd; (first | (rw [hd] at h; (try simp only [bs, eq_self, if_true, if_false, reduceIte] at h)) | skip); cbv))
        | (refine all_not_true ?_; cbv)
        | (refine all_not_false ?_; cbv)
        | (refine all_not ?_ ?_ <;> (intro hd; subst hd; (try simp only [bs, eq_self, if_true, if_false, reduceIte] at h); cbv))
        | (refine all_bool ?_ ?_ <;> (intro hd; (try simp only [hd, bs, eq_self, if_true, if_false, reduceIte] at h); cbv)))
    | ((with_reducible show ∀ _ : Int, _)
       first
        | (refine all_u0 ?_; cbv)
        | (refine all_mn ?_; intro y hy; (try rw [hy] at h); cbv)
        | (refine all_mx ?_; intro y hy; (try rw [hy] at h); cbv)
        | (refine all_neg ?_; intro y hy; (try rw [hy] at h); cbv)
        | (refine all_shr40 ?_; intro y hy; (try rw [hy] at h); cbv)
        | (refine all_and ?_; intro y hy; (try rw [hy] at h); cbv)
        | (refine all_wrap_old (by assumption) ?_; cbv)
        | (refine all_wrap ?_; intro y hy; (try rw [hy] at h); cbv)
        | (refine all_len_old (by assumption) ?_; cbv)
        | (refine all_len ?_; intro y hy; (try replace hy : ((_ : Nat) : Int) = y := hy); (try rw [hy] at h); (try rw [show (NatCast.natCast _ : Int) = _ from hy] at h); cbv)
        | (refine all_old (α := Int) (by assumption) ?_; cbv)
        | (refine all_eq (α := Int) ?_; intro y hy; (try replace hy : ((_ : Nat) : Int) = y := hy); (try rw [hy] at h); cbv))
    | ((with_reducible show ∀ _ : Nat, _)
       first
        | (refine @all_cut0 ?_ ?_ ?_ ?_ _ _ _ ?_ ?_ ?_ ?_ ?_
           rotate_left 4
           assumption
           assumption
           (first | assumption | exact lt_ix (by assumption) (by assumption) (by assumption) | exact lt_ix2 (by assumption) (by assumption) (by assumption) (by assumption) | exact lt_y (by assumption) (by assumption) | exact le_y (by assumption) | exact ge_y (by assumption) | exact cut_le (by assumption) (by assumption) | omega)
           (first | assumption | exact cut_hi (by assumption) | exact cut_hi2 (by assumption) (by assumption) | exact cut_hi3 (by assumption) | exact cut_hi4 (by assumption) (by assumption) | omega)
           intro D hD n_D hnD g hgD; (try rw [hD] at h); (try rw [hnD] at h); cbv)
        | (refine @all_cutD ?_ ?_ ?_ ?_ _ _ _ _ ?_ ?_ ?_ ?_ ?_ ?_
           rotate_left 4
           assumption
           assumption
           (first | assumption | exact lt_ix (by assumption) (by assumption) (by assumption) | exact lt_ix2 (by assumption) (by assumption) (by assumption) (by assumption) | exact lt_y (by assumption) (by assumption) | exact le_y (by assumption) | exact ge_y (by assumption) | exact cut_le (by assumption) (by assumption) | omega)
           (first | assumption | exact lt_ix (by assumption) (by assumption) (by assumption) | exact lt_ix2 (by assumption) (by assumption) (by assumption) (by assumption) | exact lt_y (by assumption) (by assumption) | exact le_y (by assumption) | exact ge_y (by assumption) | exact cut_le (by assumption) (by assumption) | omega)
           assumption
           intro D hD n_D hnD g hgD; (try rw [hD] at h); (try rw [hnD] at h); cbv)
        | (refine @all_cut ?_ ?_ ?_ ?_ _ _ _ _ ?_ ?_ ?_ ?_ ?_ ?_
           rotate_left 4
           assumption
           assumption
           (first | assumption | exact lt_ix (by assumption) (by assumption) (by assumption) | exact lt_ix2 (by assumption) (by assumption) (by assumption) (by assumption) | exact lt_y (by assumption) (by assumption) | exact le_y (by assumption) | exact ge_y (by assumption) | exact cut_le (by assumption) (by assumption) | omega)
           (first | assumption | exact lt_ix (by assumption) (by assumption) (by assumption) | exact lt_ix2 (by assumption) (by assumption) (by assumption) (by assumption) | exact lt_y (by assumption) (by assumption) | exact le_y (by assumption) | exact ge_y (by assumption) | exact cut_le (by assumption) (by assumption) | omega)
           (first | assumption | exact cut_hi (by assumption) | exact cut_hi2 (by assumption) (by assumption) | exact cut_hi3 (by assumption) | exact cut_hi4 (by assumption) (by assumption) | omega)
           intro D hD n_D hnD g hgD; (try rw [hD] at h); (try rw [hnD] at h); cbv)
        | (refine all_ix0_old (by assumption) ?_; cbv)
        | (refine all_ix0 ?_; intro q hq; (try rw [hq] at h); cbv)
        | (refine all_app (by first | assumption | exact (rfl : encL _ ([] : List _) = _)) (by first | assumption | rfl) (by assumption) (by first | assumption | rfl) ?_; intro L hL n_L hnL g hgL; (try rw [hL] at h); (try rw [Option.bind_some] at h); (try rw [hnL] at h); cbv)
        | (refine all_appF (by first | assumption | exact (rfl : encL _ ([] : List _) = _)) (by first | assumption | rfl) (by assumption) (by first | assumption | rfl) ?_; intro L hL n_L hnL g hgL; (try rw [hL] at h); (try rw [Option.bind_some] at h); (try rw [hnL] at h); cbv)
        | (refine all_appD (by first | assumption | exact (rfl : encL _ ([] : List _) = _)) (by first | assumption | rfl) (by assumption) (by first | assumption | (simp only [List.length_drop]; omega)) ?_; intro L hL n_L hnL g hgL; (try rw [hL] at h); (try rw [Option.bind_some] at h); (try rw [hnL] at h); cbv)
        | (intro off' n' ho hn'; obtain rfl : off' = _ := ho; (try replace hn' := cut_len hn' (by assumption)); (try replace hn' := cut_len0 hn'); cbv)
        | (refine all_eq (α := Nat) ?_; intro y hy; (try rw [hy] at h); cbv))
    | ((with_reducible show ∀ _ : List V, _)
       first
        | (refine @all_rd_old _ _ eU rd ?_ ?_ ?_ ?_ _ _ _ (fun _ _ => rfl) ?_ ?_ ?_ ?_ ?_ ?_ ?_
           rotate_left 4
           assumption
           assumption
           (first | rfl | assumption)
           (first | assumption | exact lt_ix (by assumption) (by assumption) (by assumption) | exact lt_ix2 (by assumption) (by assumption) (by assumption) (by assumption) | exact lt_y (by assumption) (by assumption) | exact le_y (by assumption) | exact ge_y (by assumption) | exact cut_le (by assumption) (by assumption) | omega)
           (first | assumption | exact lt_ix (by assumption) (by assumption) (by assumption) | exact lt_ix2 (by assumption) (by assumption) (by assumption) (by assumption) | exact lt_y (by assumption) (by assumption) | exact le_y (by assumption) | exact ge_y (by assumption) | exact cut_le (by assumption) (by assumption) | omega)
           assumption
           cbv)
        | (refine @all_rd _ _ eU rd ?_ ?_ ?_ _ _ _ (fun _ _ => rfl) ?_ ?_ ?_ ?_ ?_ ?_
           rotate_left 3
           assumption
           assumption
           (first | rfl | assumption)
           (first | assumption | exact lt_ix (by assumption) (by assumption) (by assumption) | exact lt_ix2 (by assumption) (by assumption) (by assumption) (by assumption) | exact lt_y (by assumption) (by assumption) | exact le_y (by assumption) | exact ge_y (by assumption) | exact cut_le (by assumption) (by assumption) | omega)
           (first | assumption | exact lt_ix (by assumption) (by assumption) (by assumption) | exact lt_ix2 (by assumption) (by assumption) (by assumption) (by assumption) | exact lt_y (by assumption) (by assumption) | exact le_y (by assumption) | exact ge_y (by assumption) | exact cut_le (by assumption) (by assumption) | omega)
           intro z hz
           (try rw [hz] at h); cbv)
        | (refine @all_rd_old _ _ e72 rd_T72 ?_ ?_ ?_ ?_ _ _ _ (fun _ _ => rfl) ?_ ?_ ?_ ?_ ?_ ?_ ?_
           rotate_left 4
           assumption
           assumption
           (first | rfl | assumption)
           (first | assumption | exact lt_ix (by assumption) (by assumption) (by assumption) | exact lt_ix2 (by assumption) (by assumption) (by assumption) (by assumption) | exact lt_y (by assumption) (by assumption) | exact le_y (by assumption) | exact ge_y (by assumption) | exact cut_le (by assumption) (by assumption) | omega)
           (first | assumption | exact lt_ix (by assumption) (by assumption) (by assumption) | exact lt_ix2 (by assumption) (by assumption) (by assumption) (by assumption) | exact lt_y (by assumption) (by assumption) | exact le_y (by assumption) | exact ge_y (by assumption) | exact cut_le (by assumption) (by assumption) | omega)
           assumption
           cbv)
        | (refine @all_rd _ _ e72 rd_T72 ?_ ?_ ?_ _ _ _ (fun _ _ => rfl) ?_ ?_ ?_ ?_ ?_ ?_
           rotate_left 3
           assumption
           assumption
           (first | rfl | assumption)
           (first | assumption | exact lt_ix (by assumption) (by assumption) (by assumption) | exact lt_ix2 (by assumption) (by assumption) (by assumption) (by assumption) | exact lt_y (by assumption) (by assumption) | exact le_y (by assumption) | exact ge_y (by assumption) | exact cut_le (by assumption) (by assumption) | omega)
           (first | assumption | exact lt_ix (by assumption) (by assumption) (by assumption) | exact lt_ix2 (by assumption) (by assumption) (by assumption) (by assumption) | exact lt_y (by assumption) (by assumption) | exact le_y (by assumption) | exact ge_y (by assumption) | exact cut_le (by assumption) (by assumption) | omega)
           intro z hz
           (try rw [hz] at h); cbv))
    | (obtain ⟨hc, h'⟩ := if_none h; clear h; have h := h'; clear h'; (try simp only [List.length_nil, Nat.zero_add] at hc))
    | (obtain ⟨hc, h'⟩ := if_none' h; clear h; have h := h'; clear h')
    | (cases h; done)
    | (simp only [Option.bind_some] at h)
    | (simp only [Option.some.injEq, Prod.mk.injEq] at h; subst h)
    | ((with_reducible show ∃ _, _)
       refine side (by first | exact enc_same (by assumption) (by assumption) _ | exact take_s1 (by assumption) (by assumption) (by assumption) | exact take_s2 (by assumption) (by assumption) (by assumption) (by assumption) (by assumption) | exact take_s3 (by assumption) (by assumption) (by assumption) | exact take_s4 (by assumption) (by assumption) (by assumption) | (intro k hk; subst_vars; first | eq_refl | exact enc_drop | exact enc_take hk | exact absurd hk (Nat.not_lt_zero k)) | (subst_vars; first | eq_refl | (simp; done) | (simp; omega)) | (have h1 : Int.toNat 1 = 1 := rfl; have h2 := one_le (by assumption) (by assumption); simp only [List.length_append, List.length_nil, List.length_drop, h1] at *; omega) | (simp only [Nat.cast] at *; omega)) ?_; (try cbv))
    | trivial
    | (exfalso; omega)
    | (simp only [beq_iff_eq] at h; first | rw [if_pos (by assumption)] at h | rw [if_neg (by assumption)] at h))

end Go.Proofs.Ythhoobpmjgpkkaa.E
