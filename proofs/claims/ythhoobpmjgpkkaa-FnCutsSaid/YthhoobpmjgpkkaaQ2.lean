/- The functions and what they answer, proved over the engine; printed by a program. -/
import Derived.Test.YthhoobpmjgpkkaaQ1
set_option linter.unusedVariables false
set_option linter.unusedSimpArgs false
set_option maxRecDepth 10000
set_option maxHeartbeats 40000000
namespace Go.Proofs.Ythhoobpmjgpkkaa.E
open Go Go.Sim Go.Proofs Go.RowKit Go.Proofs.YthhoobpmjgpkkaaW.PrintWords Go.Proofs.YthhoobpmjgpkkaaW.PrintMore
def spec_DrawLostAfterCut.f (k : Nat) (l0 : List Int) : Option ((List (S72)) × Int) := (spec_l1Cur_journalRecords.f k l0 0 0).bind fun bt398 => ((spec_l1Cur_cutAt.f l0 bt398.2.1 bt398.2.2).bind fun bt403 => (some (bt398.1, bt403.1)))

theorem spec_DrawLostAfterCut_ok (k : Nat) (l0 : List Int) (r0 : (List (S72))) (r1 : Int) (h : spec_DrawLostAfterCut.f k l0 = some (r0, r1)) (n_l0 : Nat) (hn_l0 : l0.length = n_l0) (g_l0 : Nat → List V) (hg_l0 : encL eU l0 = g_l0) (n_r0 : Nat) (hn_r0 : r0.length = n_r0) (g_r0 : Nat → List V) (hg_r0 : encL e72 r0 = g_r0) : CallOK Try.prog 49 [.fz 1 n_l0 g_l0] [] (.tup [.row 0 0 n_r0, .val (.int .i64 r1)]) [.row 72 3 n_r0 g_r0] := by
  refine CallOK.of_code tabOK Try.func49 rfl rfl ⟨[], []⟩ ?_
  unfold spec_DrawLostAfterCut.f at h
  obtain ⟨P, hP⟩ : ∃ P, Try.prog = P := ⟨_, rfl⟩
  rw [hP]
  (try rw [hn_l0] at h); skip
  cbv
  repeat' (first
    | ((with_reducible show ∃ _, _)
       first
        | (refine ⟨trivial, ?_⟩; cbv)
        | (refine side (by first | with_reducible eq_refl | assumption | (intro _ _; with_reducible eq_refl) | exact lt_ix (by assumption) (by assumption) (by assumption) | exact lt_ix2 (by assumption) (by assumption) (by assumption) (by assumption) | exact lt_y (by assumption) (by assumption) | exact le_y (by assumption) | exact ge_y (by assumption) | exact cut_le (by assumption) (by assumption) | omega) ?_; (try cbv))
        | (refine bind_side (Eq.refl _) ?_; (try cbv))
        | (refine ⟨Frz.own, ?_⟩; cbv)
        | (refine ⟨.row, ?_⟩; cbv))
    | ((with_reducible show ∃ _ : List Nat, _)
       first
        | ((with_reducible (have h0 : Option.bind (spec_l1Cur_cutAt.f _ _ _) _ = some _ := h; clear h0))
           refine ⟨[1], ?_⟩; cbv
           repeat (first | (refine all_show (by first | omega | decide) ?_; cbv) | (refine all_showT (by assumption) (by assumption) (by assumption) (by first | assumption | exact lt_ix (by assumption) (by assumption) (by assumption) | exact lt_ix2 (by assumption) (by assumption) (by assumption) (by assumption) | exact lt_y (by assumption) (by assumption) | exact le_y (by assumption) | exact ge_y (by assumption) | exact cut_le (by assumption) (by assumption) | omega) (by first | assumption | exact cut_hi (by assumption) | exact cut_hi2 (by assumption) (by assumption) | omega) ?_; intro D hD hnD g hgD; (try rw [hD] at h); cbv))
           obtain ⟨⟨t0, t1, t2⟩, ht, h'⟩ := bind_some h
           clear h; have h := h'; clear h'; (try dsimp only at h)
           refine ⟨_, _, (hP ▸ spec_l1Cur_cutAt_ok _ _ _ _ _ _ ht _ (by first | assumption | rfl) _ (by assumption)  : CallOK P 148 _ _ _ _), ?_⟩; cbv)
        | ((with_reducible (have h0 : Option.bind (spec_l1Cur_journalRecords.f _ _ _ _) _ = some _ := h; clear h0))
           refine ⟨[1], ?_⟩; cbv
           repeat (first | (refine all_show (by first | omega | decide) ?_; cbv) | (refine all_showT (by assumption) (by assumption) (by assumption) (by first | assumption | exact lt_ix (by assumption) (by assumption) (by assumption) | exact lt_ix2 (by assumption) (by assumption) (by assumption) (by assumption) | exact lt_y (by assumption) (by assumption) | exact le_y (by assumption) | exact ge_y (by assumption) | exact cut_le (by assumption) (by assumption) | omega) (by first | assumption | exact cut_hi (by assumption) | exact cut_hi2 (by assumption) (by assumption) | omega) ?_; intro D hD hnD g hgD; (try rw [hD] at h); cbv))
           obtain ⟨⟨t0, t1, t2⟩, ht, h'⟩ := bind_some h
           clear h; have h := h'; clear h'; (try dsimp only at h)
           obtain ⟨n_c156_0, hn_c156_0⟩ : ∃ n, t0.length = n := ⟨_, rfl⟩; obtain ⟨g_t, hg_c156_0⟩ : ∃ g, encL e72 t0 = g := ⟨_, rfl⟩; (try rw [hn_c156_0] at h)
           refine ⟨_, _, (hP ▸ spec_l1Cur_journalRecords_ok _ _ _ _ _ _ _ ht _ (by first | assumption | rfl) _ (by assumption) _ hn_c156_0 _ hg_c156_0 : CallOK P 156 _ _ _ _), ?_⟩; cbv))
    | (simp only [Option.some.injEq, Prod.mk.injEq] at h; obtain ⟨rfl, rfl⟩ := h)
    | ((with_reducible show ∃ _, _)
       refine side (by first | exact enc_same (by assumption) (by assumption) _ | exact take_s1 (by assumption) (by assumption) (by assumption) | exact take_s2 (by assumption) (by assumption) (by assumption) (by assumption) (by assumption) | exact take_s3 (by assumption) (by assumption) (by assumption) | exact take_s4 (by assumption) (by assumption) (by assumption) | (intro k hk; subst_vars; first | eq_refl | exact enc_drop | exact enc_take hk | exact absurd hk (Nat.not_lt_zero k)) | (subst_vars; first | eq_refl | (simp; done) | (simp; omega)) | (have h1 : Int.toNat 1 = 1 := rfl; have h2 := one_le (by assumption) (by assumption); simp only [List.length_append, List.length_nil, List.length_drop, h1] at *; omega) | (simp only [Nat.cast] at *; omega)) ?_; (try cbv)))

def impl_areRecords.l0 : Nat → List (S72) → Int → Int → Option (Bool)
  | 0, _, _, _ => none
  | k + 1, x8, x9, x10 => if x10 < x9 then (if 0 ≤ x10 then (if x10 < (x8.length : Int) then ((impl_IsJournalRecord.f ((rd_T72 x8 x10).f0) ((rd_T72 x8 x10).f1) ((rd_T72 x8 x10).f2)).bind fun t408 => (if t408 = true then (impl_areRecords.l0 k x8 x9 (wrap64 (x10 + 1))) else (some false))) else (none)) else (none)) else (some true)
def impl_areRecords.f (k : Nat) (l0 : List (S72)) : Option (Bool) := if (l0.length : Int) > 40 then (some false) else (impl_areRecords.l0 k l0 (l0.length : Int) 0)

theorem impl_areRecords_ok (k : Nat) (l0 : List (S72)) (r0 : Bool) (h : impl_areRecords.f k l0 = some r0) (n_l0 : Nat) (hn_l0 : l0.length = n_l0) (g_l0 : Nat → List V) (hg_l0 : encL e72 l0 = g_l0)  : CallOK Try.prog 157 [.fz 3 n_l0 g_l0] [] (.val (.bool r0)) [] := by
  refine CallOK.of_code tabOK Try.func157 rfl rfl ⟨[(9, [])], []⟩ ?_
  unfold impl_areRecords.f at h
  obtain ⟨P, hP⟩ : ∃ P, Try.prog = P := ⟨_, rfl⟩
  rw [hP]
  (try rw [hn_l0] at h); skip
  cbv
  repeat' (first
    | ((with_reducible show ∃ _, _)
       first
        | (refine ⟨trivial, ?_⟩; cbv)
        | (refine side (by first | with_reducible eq_refl | assumption | (intro _ _; with_reducible eq_refl) | exact lt_ix (by assumption) (by assumption) (by assumption) | exact lt_ix2 (by assumption) (by assumption) (by assumption) (by assumption) | exact lt_y (by assumption) (by assumption) | exact le_y (by assumption) | exact ge_y (by assumption) | exact cut_le (by assumption) (by assumption) | omega) ?_; (try cbv))
        | (refine ⟨Frz.own, ?_⟩; cbv))
    | ((with_reducible show ∃ _ : Nat, _)
       first
        | (refine ⟨_, [8, 9, 10], Nat.lt_succ_self _, ?_⟩; cbv; exact ⟨_, _, _, _, _, h, by first | assumption | rfl, by first | assumption | rfl, rfl⟩))
    | ((with_reducible show ∃ _ : List Nat, _)
       first
        | ((with_reducible (have h0 : Option.bind (impl_IsJournalRecord.f _ _ _) _ = some _ := h; clear h0))
           refine ⟨[], ?_⟩; cbv
           repeat (first | (refine all_show (by first | omega | decide) ?_; cbv) | (refine all_showT (by assumption) (by assumption) (by assumption) (by first | assumption | exact lt_ix (by assumption) (by assumption) (by assumption) | exact lt_ix2 (by assumption) (by assumption) (by assumption) (by assumption) | exact lt_y (by assumption) (by assumption) | exact le_y (by assumption) | exact ge_y (by assumption) | exact cut_le (by assumption) (by assumption) | omega) (by first | assumption | exact cut_hi (by assumption) | exact cut_hi2 (by assumption) (by assumption) | omega) ?_; intro D hD hnD g hgD; (try rw [hD] at h); cbv))
           obtain ⟨t, ht, h'⟩ := bind_some h
           clear h; have h := h'; clear h'; (try dsimp only at h)
           refine ⟨_, _, (hP ▸ impl_IsJournalRecord_ok _ _ _ _ ht   : CallOK P 57 _ _ _ _), ?_⟩
           rcases t with _ | _ <;> (try simp only [bs, eq_self, if_true, if_false, reduceIte] at h) <;> (try (cases h; done)) <;> cbv))
    | ((with_reducible show ∃ _ : Nat → St → Prop, _)
       first
        | (refine ⟨fun k1 s => ∃ x8 x9 x10 n_x8 g_x8, impl_areRecords.l0 k1 x8 x9 x10 = some r0 ∧ x8.length = n_x8 ∧ encL e72 x8 = g_x8 ∧ s = ⟨⟨18, (upd 18 (upd 18 (upd 18 noT 10 (.val (.int .i64 x10))) 9 (.val (.int .i64 x9))) 8 (.fz 3 n_x8 g_x8))⟩, []⟩, ?_, [], ?_⟩
           rotate_left
           · cbv; exact ⟨_, [8, 9, 10], by cbv; exact ⟨_, _, _, _, _, h, by first | assumption | rfl, by first | assumption | rfl, rfl⟩⟩
           clear h
           rintro (_ | k1) s1 ⟨x8, x9, x10, n_x8, g_x8, h, hn_x8, hg_x8, rfl⟩
           · cases h
           unfold impl_areRecords.l0 at h
           (try rw [hn_x8] at h); skip
           cbv))
    | ((with_reducible show ∀ _ : Bool, _)
       first
        | (refine all_lt ?_ ?_ <;> (intro hd; first | exact absurd rfl hd | ((first | rw [if_pos hd] at h | rw [if_neg hd] at h | rw [if_pos (by omega)] at h | rw [if_neg (by omega)] at h | skip); (first | (rw [decide_eq_true hd] at h; (try simp only [bs, eq_self, if_true, if_false, reduceIte] at h)) | (rw [decide_eq_false hd] at h; (try simp only [bs, eq_self, if_true, if_false, reduceIte] at h)) | skip); cbv))))
    | ((with_reducible show ∀ _ : Int, _)
       first
        | (refine all_wrap ?_; intro y hy; (try rw [hy] at h); cbv)
        | (refine all_len_old (by assumption) ?_; cbv)
        | (refine all_len ?_; intro y hy; (try replace hy : ((_ : Nat) : Int) = y := hy); (try rw [hy] at h); (try rw [show (NatCast.natCast _ : Int) = _ from hy] at h); cbv))
    | ((with_reducible show ∀ _ : List V, _)
       first
        | (refine @all_rd _ _ e72 rd_T72 ?_ ?_ ?_ _ _ _ (fun _ _ => rfl) ?_ ?_ ?_ ?_ ?_ ?_
           rotate_left 3
           assumption
           assumption
           (first | rfl | assumption)
           (first | assumption | exact lt_ix (by assumption) (by assumption) (by assumption) | exact lt_ix2 (by assumption) (by assumption) (by assumption) (by assumption) | exact lt_y (by assumption) (by assumption) | exact le_y (by assumption) | exact ge_y (by assumption) | exact cut_le (by assumption) (by assumption) | omega)
           (first | assumption | exact lt_ix (by assumption) (by assumption) (by assumption) | exact lt_ix2 (by assumption) (by assumption) (by assumption) (by assumption) | exact lt_y (by assumption) (by assumption) | exact le_y (by assumption) | exact ge_y (by assumption) | exact cut_le (by assumption) (by assumption) | omega)
           intro z hz
           (try rw [hz] at h); cbv))
    | (obtain ⟨hc, h'⟩ := if_none h; clear h; have h := h'; clear h')
    | (simp only [Option.some.injEq, Prod.mk.injEq] at h; subst h)
    | trivial)

def impl_journalNumbers.l0 : Nat → List Int → List (S72) → Int → Int → Option (List Int)
  | 0, _, _, _, _ => none
  | k + 1, x3, x7, x8, x9 => if x9 < x8 then (if 0 ≤ x9 then (if x9 < (x7.length : Int) then ((impl_recordNumbers.f ((rd_T72 x7 x9).f0) ((rd_T72 x7 x9).f1) ((rd_T72 x7 x9).f2) x9).bind fun t414 => (if x3.length + t414.length < 17592186044416 then (impl_journalNumbers.l0 k (x3 ++ t414) x7 x8 (wrap64 (x9 + 1))) else (none))) else (none)) else (none)) else (some x3)
def impl_journalNumbers.f (k : Nat) (l0 : List (S72)) : Option (List Int) := impl_journalNumbers.l0 k (([] : List Int)) l0 (l0.length : Int) 0

theorem impl_journalNumbers_ok (k : Nat) (l0 : List (S72)) (r0 : List Int) (h : impl_journalNumbers.f k l0 = some r0) (n_l0 : Nat) (hn_l0 : l0.length = n_l0) (g_l0 : Nat → List V) (hg_l0 : encL e72 l0 = g_l0) (n_r0 : Nat) (hn_r0 : r0.length = n_r0) (g_r0 : Nat → List V) (hg_r0 : encL eI r0 = g_r0) : CallOK Try.prog 158 [.fz 3 n_l0 g_l0] [] (.row 0 0 n_r0) [.row 3 1 n_r0 g_r0] := by
  refine CallOK.of_code tabOK Try.func158 rfl rfl ⟨[(6, [3, 7, 8, 9]), (7, [3])], []⟩ ?_
  unfold impl_journalNumbers.f at h
  obtain ⟨P, hP⟩ : ∃ P, Try.prog = P := ⟨_, rfl⟩
  rw [hP]
  (try rw [hn_l0] at h); skip
  cbv
  repeat' (first
    | ((with_reducible show ∃ _, _)
       first
        | (refine ⟨trivial, ?_⟩; cbv)
        | (refine side (by first | with_reducible eq_refl | assumption | (intro _ _; with_reducible eq_refl) | exact lt_ix (by assumption) (by assumption) (by assumption) | exact lt_ix2 (by assumption) (by assumption) (by assumption) (by assumption) | exact lt_y (by assumption) (by assumption) | exact le_y (by assumption) | exact ge_y (by assumption) | exact cut_le (by assumption) (by assumption) | omega) ?_; (try cbv))
        | (refine bind_side (Eq.refl _) ?_; (try cbv))
        | (refine ⟨Frz.own, ?_⟩; cbv)
        | (refine ⟨.row, ?_⟩; cbv))
    | ((with_reducible show ∃ _ : Nat, _)
       first
        | (refine ⟨_, [3, 7, 8, 9], Nat.lt_succ_self _, ?_⟩; cbv; exact ⟨_, _, _, _, _, _, _, _, h, by first | assumption | rfl, by first | assumption | rfl, by first | assumption | rfl, by first | assumption | rfl, rfl⟩))
    | ((with_reducible show ∃ _ : List Nat, _)
       first
        | ((with_reducible (have h0 : Option.bind (impl_recordNumbers.f _ _ _ _) _ = some _ := h; clear h0))
           refine ⟨[], ?_⟩; cbv
           repeat (first | (refine all_show (by first | omega | decide) ?_; cbv) | (refine all_showT (by assumption) (by assumption) (by assumption) (by first | assumption | exact lt_ix (by assumption) (by assumption) (by assumption) | exact lt_ix2 (by assumption) (by assumption) (by assumption) (by assumption) | exact lt_y (by assumption) (by assumption) | exact le_y (by assumption) | exact ge_y (by assumption) | exact cut_le (by assumption) (by assumption) | omega) (by first | assumption | exact cut_hi (by assumption) | exact cut_hi2 (by assumption) (by assumption) | omega) ?_; intro D hD hnD g hgD; (try rw [hD] at h); cbv))
           obtain ⟨t, ht, h'⟩ := bind_some h
           clear h; have h := h'; clear h'; (try dsimp only at h)
           obtain ⟨n_c164_0, hn_c164_0⟩ : ∃ n, t.length = n := ⟨_, rfl⟩; obtain ⟨g_t, hg_c164_0⟩ : ∃ g, encL eI t = g := ⟨_, rfl⟩; (try rw [hn_c164_0] at h)
           refine ⟨_, _, (hP ▸ impl_recordNumbers_ok _ _ _ _ _ ht  _ hn_c164_0 _ hg_c164_0 : CallOK P 164 _ _ _ _), ?_⟩; cbv))
    | ((with_reducible show ∃ _ : Nat → List V, _)
       first
        | (refine all_build0 eI ?_; intro g_b hg_b; cbv))
    | ((with_reducible show ∃ _ : Nat → St → Prop, _)
       first
        | (refine ⟨fun k1 s => ∃ x3 x7 x8 x9 n_x3 g_x3 n_x7 g_x7, impl_journalNumbers.l0 k1 x3 x7 x8 x9 = some r0 ∧ x3.length = n_x3 ∧ encL eI x3 = g_x3 ∧ x7.length = n_x7 ∧ encL e72 x7 = g_x7 ∧ s = ⟨⟨21, (upd 21 (upd 21 (upd 21 (upd 21 noT 9 (.val (.int .i64 x9))) 8 (.val (.int .i64 x8))) 7 (.fz 3 n_x7 g_x7)) 3 (.row 0 0 n_x3))⟩, [.row 3 1 n_x3 g_x3]⟩, ?_, [], ?_⟩
           rotate_left
           · cbv; exact ⟨_, [3, 7, 8, 9], by cbv; exact ⟨_, _, _, _, _, _, _, _, h, by first | assumption | rfl, by first | assumption | rfl, by first | assumption | rfl, by first | assumption | rfl, rfl⟩⟩
           clear h
           rintro (_ | k1) s1 ⟨x3, x7, x8, x9, n_x3, g_x3, n_x7, g_x7, h, hn_x3, hg_x3, hn_x7, hg_x7, rfl⟩
           · cases h
           unfold impl_journalNumbers.l0 at h
           (try rw [hn_x3] at h); (try rw [hn_x7] at h); skip
           cbv))
    | ((with_reducible show ∀ _ : Bool, _)
       first
        | (refine all_lt ?_ ?_ <;> (intro hd; first | exact absurd rfl hd | ((first | rw [if_pos hd] at h | rw [if_neg hd] at h | rw [if_pos (by omega)] at h | rw [if_neg (by omega)] at h | skip); (first | (rw [decide_eq_true hd] at h; (try simp only [bs, eq_self, if_true, if_false, reduceIte] at h)) | (rw [decide_eq_false hd] at h; (try simp only [bs, eq_self, if_true, if_false, reduceIte] at h)) | skip); cbv))))
    | ((with_reducible show ∀ _ : Int, _)
       first
        | (refine all_wrap ?_; intro y hy; (try rw [hy] at h); cbv)
        | (refine all_len ?_; intro y hy; (try replace hy : ((_ : Nat) : Int) = y := hy); (try rw [hy] at h); (try rw [show (NatCast.natCast _ : Int) = _ from hy] at h); cbv))
    | ((with_reducible show ∀ _ : Nat, _)
       first
        | (refine all_app (by first | assumption | exact (rfl : encL _ ([] : List _) = _)) (by first | assumption | rfl) (by assumption) (by first | assumption | rfl) ?_; intro L hL n_L hnL g hgL; (try rw [hL] at h); (try rw [Option.bind_some] at h); (try rw [hnL] at h); cbv))
    | ((with_reducible show ∀ _ : List V, _)
       first
        | (refine @all_rd _ _ e72 rd_T72 ?_ ?_ ?_ _ _ _ (fun _ _ => rfl) ?_ ?_ ?_ ?_ ?_ ?_
           rotate_left 3
           assumption
           assumption
           (first | rfl | assumption)
           (first | assumption | exact lt_ix (by assumption) (by assumption) (by assumption) | exact lt_ix2 (by assumption) (by assumption) (by assumption) (by assumption) | exact lt_y (by assumption) (by assumption) | exact le_y (by assumption) | exact ge_y (by assumption) | exact cut_le (by assumption) (by assumption) | omega)
           (first | assumption | exact lt_ix (by assumption) (by assumption) (by assumption) | exact lt_ix2 (by assumption) (by assumption) (by assumption) (by assumption) | exact lt_y (by assumption) (by assumption) | exact le_y (by assumption) | exact ge_y (by assumption) | exact cut_le (by assumption) (by assumption) | omega)
           intro z hz
           (try rw [hz] at h); cbv))
    | (obtain ⟨hc, h'⟩ := if_none h; clear h; have h := h'; clear h')
    | (simp only [Option.some.injEq, Prod.mk.injEq] at h; subst h)
    | ((with_reducible show ∃ _, _)
       refine side (by first | exact enc_same (by assumption) (by assumption) _ | exact take_s1 (by assumption) (by assumption) (by assumption) | exact take_s2 (by assumption) (by assumption) (by assumption) (by assumption) (by assumption) | exact take_s3 (by assumption) (by assumption) (by assumption) | exact take_s4 (by assumption) (by assumption) (by assumption) | (intro k hk; subst_vars; first | eq_refl | exact enc_drop | exact enc_take hk | exact absurd hk (Nat.not_lt_zero k)) | (subst_vars; first | eq_refl | (simp; done) | (simp; omega)) | (have h1 : Int.toNat 1 = 1 := rfl; have h2 := one_le (by assumption) (by assumption); simp only [List.length_append, List.length_nil, List.length_drop, h1] at *; omega) | (simp only [Nat.cast] at *; omega)) ?_; (try cbv)))

def impl_committedPart.l0 : Nat → List (S72) → Int → Option ((List (S72)))
  | 0, _, _ => none
  | k + 1, x0, x3 => if x3 > 0 then (if 0 ≤ (wrap64 (x3 - 1)) then (if (wrap64 (x3 - 1)) < (x0.length : Int) then (if ((rd_T72 x0 (wrap64 (x3 - 1))).f0) = 2 then ((some (([] : List (S72)) : List (S72))).bind fun y421 => (if 0 ≤ x3 then (if x3 ≤ (x0.length : Int) then ((some (x0.take (x3 : Int).toNat : List (S72))).bind fun y424 => (if y421.length + y424.length < 5864062014805 then (some (y421 ++ y424)) else (none))) else (none)) else (none))) else (impl_committedPart.l0 k x0 (wrap64 (x3 - 1)))) else (none)) else (none)) else ((some (([] : List (S72)) : List (S72))).bind fun y431 => (if 0 ≤ x3 then (if x3 ≤ (x0.length : Int) then ((some (x0.take (x3 : Int).toNat : List (S72))).bind fun y434 => (if y431.length + y434.length < 5864062014805 then (some (y431 ++ y434)) else (none))) else (none)) else (none)))
def impl_committedPart.f (k : Nat) (l0 : List (S72)) : Option ((List (S72))) := impl_committedPart.l0 k l0 (l0.length : Int)

theorem impl_committedPart_ok (k : Nat) (l0 : List (S72)) (r0 : List (S72)) (h : impl_committedPart.f k l0 = some r0) (n_l0 : Nat) (hn_l0 : l0.length = n_l0) (g_l0 : Nat → List V) (hg_l0 : encL e72 l0 = g_l0) (n_r0 : Nat) (hn_r0 : r0.length = n_r0) (g_r0 : Nat → List V) (hg_r0 : encL e72 r0 = g_r0) : CallOK Try.prog 179 [.fz 3 n_l0 g_l0] [] (.row 0 0 n_r0) [.row 72 3 n_r0 g_r0] := by
  refine CallOK.of_code tabOK Try.func179 rfl rfl ⟨[(3, [0, 3]), (4, [0, 3])], []⟩ ?_
  unfold impl_committedPart.f at h
  obtain ⟨P, hP⟩ : ∃ P, Try.prog = P := ⟨_, rfl⟩
  rw [hP]
  (try rw [hn_l0] at h); skip
  cbv
  repeat' (first
    | ((with_reducible show ∃ _, _)
       first
        | (refine ⟨trivial, ?_⟩; cbv)
        | (refine side (by first | with_reducible eq_refl | assumption | (intro _ _; with_reducible eq_refl) | exact lt_ix (by assumption) (by assumption) (by assumption) | exact lt_ix2 (by assumption) (by assumption) (by assumption) (by assumption) | exact lt_y (by assumption) (by assumption) | exact le_y (by assumption) | exact ge_y (by assumption) | exact cut_le (by assumption) (by assumption) | omega) ?_; (try cbv))
        | (refine bind_side (Eq.refl _) ?_; (try cbv))
        | (refine ⟨.row, ?_⟩; cbv))
    | ((with_reducible show ∃ _ : Nat, _)
       first
        | (refine ⟨_, [0, 3], Nat.lt_succ_self _, ?_⟩; cbv; exact ⟨_, _, _, _, h, by first | assumption | rfl, by first | assumption | rfl, rfl⟩))
    | ((with_reducible show ∃ _ : Nat → List V, _)
       first
        | (refine all_build0 e72 ?_; intro g_b hg_b; cbv))
    | ((with_reducible show ∃ _ : Nat → St → Prop, _)
       first
        | (refine ⟨fun k1 s => ∃ x0 x3 n_x0 g_x0, impl_committedPart.l0 k1 x0 x3 = some r0 ∧ x0.length = n_x0 ∧ encL e72 x0 = g_x0 ∧ s = ⟨⟨24, (upd 24 (upd 24 noT 3 (.val (.int .i64 x3))) 0 (.fz 3 n_x0 g_x0))⟩, []⟩, ?_, [], ?_⟩
           rotate_left
           · cbv; exact ⟨_, [0, 3], by cbv; exact ⟨_, _, _, _, h, by first | assumption | rfl, by first | assumption | rfl, rfl⟩⟩
           clear h
           rintro (_ | k1) s1 ⟨x0, x3, n_x0, g_x0, h, hn_x0, hg_x0, rfl⟩
           · cases h
           unfold impl_committedPart.l0 at h
           (try rw [hn_x0] at h); skip
           cbv))
    | ((with_reducible show ∀ _ : Bool, _)
       first
        | (refine all_lt ?_ ?_ <;> (intro hd; first | exact absurd rfl hd | ((first | rw [if_pos hd] at h | rw [if_neg hd] at h | rw [if_pos (by omega)] at h | rw [if_neg (by omega)] at h | skip); (first | (rw [decide_eq_true hd] at h; (try simp only [bs, eq_self, if_true, if_false, reduceIte] at h)) | (rw [decide_eq_false hd] at h; (try simp only [bs, eq_self, if_true, if_false, reduceIte] at h)) | skip); cbv)))
        | (refine all_bne ?_ ?_ <;> (intro hd; first | exact absurd rfl hd | ((first | rw [if_pos hd] at h | rw [if_neg hd] at h | rw [if_pos (by omega)] at h | rw [if_neg (by omega)] at h | skip); (first | (rw [bne_pos hd] at h; (try simp only [bs, eq_self, if_true, if_false, reduceIte] at h)) | (rw [bne_neg hd] at h; (try simp only [bs, eq_self, if_true, if_false, reduceIte] at h)) | skip); cbv))))
    | ((with_reducible show ∀ _ : Int, _)
       first
        | (refine all_wrap_old (by assumption) ?_; cbv)
        | (refine all_wrap ?_; intro y hy; (try rw [hy] at h); cbv)
        | (refine all_len ?_; intro y hy; (try replace hy : ((_ : Nat) : Int) = y := hy); (try rw [hy] at h); (try rw [show (NatCast.natCast _ : Int) = _ from hy] at h); cbv))
    | ((with_reducible show ∀ _ : Nat, _)
       first
        | (refine @all_cut0 ?_ ?_ ?_ ?_ _ _ _ ?_ ?_ ?_ ?_ ?_
           rotate_left 4
           assumption
           assumption
           (first | assumption | exact lt_ix (by assumption) (by assumption) (by assumption) | exact lt_ix2 (by assumption) (by assumption) (by assumption) (by assumption) | exact lt_y (by assumption) (by assumption) | exact le_y (by assumption) | exact ge_y (by assumption) | exact cut_le (by assumption) (by assumption) | omega)
           (first | assumption | exact cut_hi (by assumption) | exact cut_hi2 (by assumption) (by assumption) | omega)
           intro D hD n_D hnD g hgD; (try rw [hD] at h); (try rw [hnD] at h); cbv)
        | (refine all_app (by first | assumption | exact (rfl : encL _ ([] : List _) = _)) (by first | assumption | rfl) (by assumption) (by first | assumption | rfl) ?_; intro L hL n_L hnL g hgL; (try rw [hL] at h); (try rw [Option.bind_some] at h); (try rw [hnL] at h); cbv))
    | ((with_reducible show ∀ _ : List V, _)
       first
        | (refine @all_rd _ _ e72 rd_T72 ?_ ?_ ?_ _ _ _ (fun _ _ => rfl) ?_ ?_ ?_ ?_ ?_ ?_
           rotate_left 3
           assumption
           assumption
           (first | rfl | assumption)
           (first | assumption | exact lt_ix (by assumption) (by assumption) (by assumption) | exact lt_ix2 (by assumption) (by assumption) (by assumption) (by assumption) | exact lt_y (by assumption) (by assumption) | exact le_y (by assumption) | exact ge_y (by assumption) | exact cut_le (by assumption) (by assumption) | omega)
           (first | assumption | exact lt_ix (by assumption) (by assumption) (by assumption) | exact lt_ix2 (by assumption) (by assumption) (by assumption) (by assumption) | exact lt_y (by assumption) (by assumption) | exact le_y (by assumption) | exact ge_y (by assumption) | exact cut_le (by assumption) (by assumption) | omega)
           intro z hz
           (try rw [hz] at h); cbv))
    | (obtain ⟨hc, h'⟩ := if_none h; clear h; have h := h'; clear h')
    | (simp only [Option.some.injEq, Prod.mk.injEq] at h; subst h)
    | ((with_reducible show ∃ _, _)
       refine side (by first | exact enc_same (by assumption) (by assumption) _ | exact take_s1 (by assumption) (by assumption) (by assumption) | exact take_s2 (by assumption) (by assumption) (by assumption) (by assumption) (by assumption) | exact take_s3 (by assumption) (by assumption) (by assumption) | exact take_s4 (by assumption) (by assumption) (by assumption) | (intro k hk; subst_vars; first | eq_refl | exact enc_drop | exact enc_take hk | exact absurd hk (Nat.not_lt_zero k)) | (subst_vars; first | eq_refl | (simp; done) | (simp; omega)) | (have h1 : Int.toNat 1 = 1 := rfl; have h2 := one_le (by assumption) (by assumption); simp only [List.length_append, List.length_nil, List.length_drop, h1] at *; omega) | (simp only [Nat.cast] at *; omega)) ?_; (try cbv)))

def impl_committedValues.l1 : Nat → List Int → List (S72) → Int → Int → Option (List Int)
  | 0, _, _, _, _ => none
  | k + 1, x3, x18, x19, x20 => if x20 < x19 then (if 0 ≤ x20 then (if x20 < (x18.length : Int) then (if ((rd_T72 x18 x20).f0) = 1 then (if 0 ≤ ((rd_T72 x18 x20).f1) then (if ((rd_T72 x18 x20).f1) < (x3.length : Int) then (impl_committedValues.l1 k (x3.set (((rd_T72 x18 x20).f1) : Int).toNat ((rd_T72 x18 x20).f2)) x18 x19 (wrap64 (x20 + 1))) else (none)) else (none)) else (impl_committedValues.l1 k x3 x18 x19 (wrap64 (x20 + 1)))) else (none)) else (none)) else (some x3)
def impl_committedValues.l0 : Nat → List (S72) → List Int → Int → Int → Option (List Int)
  | 0, _, _, _, _ => none
  | k + 1, x0, x3, x9, x10 => if x10 < x9 then (if 0 ≤ x10 then (if x10 < (x3.length : Int) then (impl_committedValues.l0 k x0 (x3.set (x10 : Int).toNat (-1)) x9 (wrap64 (x10 + 1))) else (none)) else (none)) else ((impl_committedPart.f k x0).bind fun t445 => (impl_committedValues.l1 k x3 t445 (t445.length : Int) 0))
def impl_committedValues.f (k : Nat) (l0 : List (S72)) : Option (List Int) := if 8 ≤ 35184372088832 then ((some (List.replicate 8 0 : List Int)).bind fun y441 => (impl_committedValues.l0 k l0 y441 (y441.length : Int) 0)) else (none)

theorem impl_committedValues_ok (k : Nat) (l0 : List (S72)) (r0 : List Int) (h : impl_committedValues.f k l0 = some r0) (n_l0 : Nat) (hn_l0 : l0.length = n_l0) (g_l0 : Nat → List V) (hg_l0 : encL e72 l0 = g_l0) (n_r0 : Nat) (hn_r0 : r0.length = n_r0) (g_r0 : Nat → List V) (hg_r0 : encL eI r0 = g_r0) : CallOK Try.prog 159 [.fz 3 n_l0 g_l0] [] (.row 0 0 n_r0) [.row 3 1 n_r0 g_r0] := by
  refine CallOK.of_code tabOK Try.func159 rfl rfl ⟨[(7, [0, 3]), (12, [3, 18, 19, 20]), (13, [3])], []⟩ ?_
  unfold impl_committedValues.f at h
  obtain ⟨P, hP⟩ : ∃ P, Try.prog = P := ⟨_, rfl⟩
  rw [hP]
  (try rw [hn_l0] at h); skip
  cbv
  repeat' (first
    | ((with_reducible show ∃ _, _)
       first
        | (refine ⟨trivial, ?_⟩; cbv)
        | (refine side (by first | with_reducible eq_refl | assumption | (intro _ _; with_reducible eq_refl) | exact lt_ix (by assumption) (by assumption) (by assumption) | exact lt_ix2 (by assumption) (by assumption) (by assumption) (by assumption) | exact lt_y (by assumption) (by assumption) | exact le_y (by assumption) | exact ge_y (by assumption) | exact cut_le (by assumption) (by assumption) | omega) ?_; (try cbv))
        | (refine bind_side (Eq.refl _) ?_; (try cbv))
        | (refine ⟨Frz.own, ?_⟩; cbv)
        | (refine ⟨.row, ?_⟩; cbv))
    | ((with_reducible show ∃ _ : Nat, _)
       first
        | (refine ⟨_, [3, 18, 19, 20], Nat.lt_succ_self _, ?_⟩; cbv; exact ⟨_, _, _, _, _, _, _, _, h, by first | assumption | rfl, by first | assumption | rfl, by first | assumption | rfl, by first | assumption | rfl, rfl⟩)
        | (refine ⟨_, [0, 3, 9, 10], Nat.lt_succ_self _, ?_⟩; cbv; exact ⟨_, _, _, _, _, _, _, _, h, by first | assumption | rfl, by first | assumption | rfl, by first | assumption | rfl, by first | assumption | rfl, rfl⟩))
    | ((with_reducible show ∃ _ : List Nat, _)
       first
        | ((with_reducible (have h0 : Option.bind (impl_committedPart.f _ _) _ = some _ := h; clear h0))
           refine ⟨[], ?_⟩; cbv
           repeat (first | (refine all_show (by first | omega | decide) ?_; cbv) | (refine all_showT (by assumption) (by assumption) (by assumption) (by first | assumption | exact lt_ix (by assumption) (by assumption) (by assumption) | exact lt_ix2 (by assumption) (by assumption) (by assumption) (by assumption) | exact lt_y (by assumption) (by assumption) | exact le_y (by assumption) | exact ge_y (by assumption) | exact cut_le (by assumption) (by assumption) | omega) (by first | assumption | exact cut_hi (by assumption) | exact cut_hi2 (by assumption) (by assumption) | omega) ?_; intro D hD hnD g hgD; (try rw [hD] at h); cbv))
           obtain ⟨t, ht, h'⟩ := bind_some h
           clear h; have h := h'; clear h'; (try dsimp only at h)
           obtain ⟨n_c179_0, hn_c179_0⟩ : ∃ n, t.length = n := ⟨_, rfl⟩; obtain ⟨g_t, hg_c179_0⟩ : ∃ g, encL e72 t = g := ⟨_, rfl⟩; (try rw [hn_c179_0] at h)
           refine ⟨_, _, (hP ▸ impl_committedPart_ok _ _ _ ht _ (by first | assumption | rfl) _ (by assumption) _ hn_c179_0 _ hg_c179_0 : CallOK P 179 _ _ _ _), ?_⟩; cbv))
    | ((with_reducible show ∃ _ : Nat → List V, _)
       first
        | (refine all_putS eI (by assumption) (by assumption) (by (first | assumption | exact lt_ix (by assumption) (by assumption) (by assumption) | exact lt_ix2 (by assumption) (by assumption) (by assumption) (by assumption) | exact lt_y (by assumption) (by assumption) | exact le_y (by assumption) | exact ge_y (by assumption) | exact cut_le (by assumption) (by assumption) | omega)) rfl (fun _ => rfl) ?_; intro L hL hnL g hgL; (try rw [hL] at h); (try rw [Option.bind_some] at h); (try rw [hnL] at h); cbv))
    | ((with_reducible show ∃ _ : Nat → St → Prop, _)
       first
        | (refine ⟨fun k1 s => ∃ x0 x3 x9 x10 n_x0 g_x0 n_x3 g_x3, impl_committedValues.l0 k1 x0 x3 x9 x10 = some r0 ∧ x0.length = n_x0 ∧ encL e72 x0 = g_x0 ∧ x3.length = n_x3 ∧ encL eI x3 = g_x3 ∧ s = ⟨⟨35, (upd 35 (upd 35 (upd 35 (upd 35 noT 10 (.val (.int .i64 x10))) 9 (.val (.int .i64 x9))) 3 (.row 0 0 n_x3)) 0 (.fz 3 n_x0 g_x0))⟩, [.row 3 1 n_x3 g_x3]⟩, ?_, [], ?_⟩
           rotate_left
           · cbv; exact ⟨_, [0, 3, 9, 10], by cbv; exact ⟨_, _, _, _, _, _, _, _, h, by first | assumption | rfl, by first | assumption | rfl, by first | assumption | rfl, by first | assumption | rfl, rfl⟩⟩
           clear h
           rintro (_ | k1) s1 ⟨x0, x3, x9, x10, n_x0, g_x0, n_x3, g_x3, h, hn_x0, hg_x0, hn_x3, hg_x3, rfl⟩
           · cases h
           unfold impl_committedValues.l0 at h
           (try rw [hn_x0] at h); (try rw [hn_x3] at h); skip
           cbv)
        | (refine ⟨fun k1 s => ∃ x3 x18 x19 x20 n_x3 g_x3 n_x18 g_x18, impl_committedValues.l1 k1 x3 x18 x19 x20 = some r0 ∧ x3.length = n_x3 ∧ encL eI x3 = g_x3 ∧ x18.length = n_x18 ∧ encL e72 x18 = g_x18 ∧ s = ⟨⟨35, (upd 35 (upd 35 (upd 35 (upd 35 noT 20 (.val (.int .i64 x20))) 19 (.val (.int .i64 x19))) 18 (.row 1 0 n_x18)) 3 (.row 0 0 n_x3))⟩, [.row 3 1 n_x3 g_x3, .row 72 3 n_x18 g_x18]⟩, ?_, [], ?_⟩
           rotate_left
           · cbv; exact ⟨_, [3, 18, 19, 20], by cbv; exact ⟨_, _, _, _, _, _, _, _, h, by first | assumption | rfl, by first | assumption | rfl, by first | assumption | rfl, by first | assumption | rfl, rfl⟩⟩
           clear h
           rintro (_ | k1) s1 ⟨x3, x18, x19, x20, n_x3, g_x3, n_x18, g_x18, h, hn_x3, hg_x3, hn_x18, hg_x18, rfl⟩
           · cases h
           unfold impl_committedValues.l1 at h
           (try rw [hn_x3] at h); (try rw [hn_x18] at h); skip
           cbv))
    | ((with_reducible show ∀ _ : Bool, _)
       first
        | (refine all_lt ?_ ?_ <;> (intro hd; first | exact absurd rfl hd | ((first | rw [if_pos hd] at h | rw [if_neg hd] at h | rw [if_pos (by omega)] at h | rw [if_neg (by omega)] at h | skip); (first | (rw [decide_eq_true hd] at h; (try simp only [bs, eq_self, if_true, if_false, reduceIte] at h)) | (rw [decide_eq_false hd] at h; (try simp only [bs, eq_self, if_true, if_false, reduceIte] at h)) | skip); cbv)))
        | (refine all_beq ?_ ?_ <;> (intro hd; first | exact absurd rfl hd | ((first | rw [if_pos hd] at h | rw [if_neg hd] at h | rw [if_pos (by omega)] at h | rw [if_neg (by omega)] at h | skip); (first | (rw [beq_pos hd] at h; (try simp only [bs, eq_self, if_true, if_false, reduceIte] at h)) | (rw [beq_neg hd] at h; (try simp only [bs, eq_self, if_true, if_false, reduceIte] at h)) | skip); cbv))))
    | ((with_reducible show ∀ _ : Int, _)
       first
        | (refine all_wrap ?_; intro y hy; (try rw [hy] at h); cbv)
        | (refine all_len ?_; intro y hy; (try replace hy : ((_ : Nat) : Int) = y := hy); (try rw [hy] at h); (try rw [show (NatCast.natCast _ : Int) = _ from hy] at h); cbv))
    | ((with_reducible show ∀ _ : Nat, _)
       first
        | (refine all_ix0 ?_; intro q hq; (try rw [hq] at h); cbv)
        | (refine all_mk eI (0 : Int) 8 rfl rfl ?_; intro L hL hnL g hgL; (try rw [hL] at h); (try rw [Option.bind_some] at h); (try rw [hnL] at h); cbv))
    | ((with_reducible show ∀ _ : List V, _)
       first
        | (refine @all_rd _ _ e72 rd_T72 ?_ ?_ ?_ _ _ _ (fun _ _ => rfl) ?_ ?_ ?_ ?_ ?_ ?_
           rotate_left 3
           assumption
           assumption
           (first | rfl | assumption)
           (first | assumption | exact lt_ix (by assumption) (by assumption) (by assumption) | exact lt_ix2 (by assumption) (by assumption) (by assumption) (by assumption) | exact lt_y (by assumption) (by assumption) | exact le_y (by assumption) | exact ge_y (by assumption) | exact cut_le (by assumption) (by assumption) | omega)
           (first | assumption | exact lt_ix (by assumption) (by assumption) (by assumption) | exact lt_ix2 (by assumption) (by assumption) (by assumption) (by assumption) | exact lt_y (by assumption) (by assumption) | exact le_y (by assumption) | exact ge_y (by assumption) | exact cut_le (by assumption) (by assumption) | omega)
           intro z hz
           (try rw [hz] at h); cbv))
    | (obtain ⟨hc, h'⟩ := if_none h; clear h; have h := h'; clear h')
    | (simp only [Option.bind_some] at h)
    | (simp only [Option.some.injEq, Prod.mk.injEq] at h; subst h)
    | ((with_reducible show ∃ _, _)
       refine side (by first | exact enc_same (by assumption) (by assumption) _ | exact take_s1 (by assumption) (by assumption) (by assumption) | exact take_s2 (by assumption) (by assumption) (by assumption) (by assumption) (by assumption) | exact take_s3 (by assumption) (by assumption) (by assumption) | exact take_s4 (by assumption) (by assumption) (by assumption) | (intro k hk; subst_vars; first | eq_refl | exact enc_drop | exact enc_take hk | exact absurd hk (Nat.not_lt_zero k)) | (subst_vars; first | eq_refl | (simp; done) | (simp; omega)) | (have h1 : Int.toNat 1 = 1 := rfl; have h2 := one_le (by assumption) (by assumption); simp only [List.length_append, List.length_nil, List.length_drop, h1] at *; omega) | (simp only [Nat.cast] at *; omega)) ?_; (try cbv)))

def impl_LostAfterCut.l0 : Nat → List Int → Int → List Int → Int → Int → Option (Int × Bool)
  | 0, _, _, _, _, _ => none
  | k + 1, x7, x8, x33, x34, x35 => if x35 < x34 then (if 0 ≤ x35 then (if x35 < (x33.length : Int) then (if x35 < (x7.length : Int) then (if (rd x33 x35) = (rd x7 x35) then (impl_LostAfterCut.l0 k x7 x8 x33 x34 (wrap64 (x35 + 1))) else (impl_LostAfterCut.l0 k x7 (wrap64 (x8 + 1)) x33 x34 (wrap64 (x35 + 1)))) else (none)) else (none)) else (none)) else (some (x8, true))
def impl_LostAfterCut.j0 : Nat → List (S72) → Int → Bool → Option (Int × Bool)
  | 0, _, _, _ => none
  | k + 1, x0, x1, x21 => if x21 = true then (some (0, false)) else ((impl_journalNumbers.f k x0).bind fun t452 => ((impl_committedValues.f k x0).bind fun t455 => (if 0 ≤ (mn x1 (t452.length : Int)) then (if (mn x1 (t452.length : Int)) ≤ (t452.length : Int) then ((impl_recovered.f k (t452.take ((mn x1 (t452.length : Int)) : Int).toNat)).bind fun t462 => ((impl_committedValues.f k t462).bind fun t465 => (impl_LostAfterCut.l0 k t455 0 t465 (t465.length : Int) 0))) else (none)) else (none))))
def impl_LostAfterCut.f (k : Nat) (l0 : List (S72)) (a1 : Int) : Option (Int × Bool) := (impl_areRecords.f k l0).bind fun t451 => (if t451 = true then (if a1 < 0 then (impl_LostAfterCut.j0 k l0 a1 true) else (impl_LostAfterCut.j0 k l0 a1 (decide (a1 > 200)))) else (impl_LostAfterCut.j0 k l0 a1 true))

theorem impl_LostAfterCut_ok (k : Nat) (l0 : List (S72)) (a1 : Int) (r0 : Int) (r1 : Bool) (h : impl_LostAfterCut.f k l0 a1 = some (r0, r1)) (n_l0 : Nat) (hn_l0 : l0.length = n_l0) (g_l0 : Nat → List V) (hg_l0 : encL e72 l0 = g_l0)  : CallOK Try.prog 50 [.fz 3 n_l0 g_l0, .val (.int .i64 a1)] [] (.tup [.val (.int .i64 r0), .val (.bool r1)]) [] := by
  refine CallOK.of_code tabOK Try.func50 rfl rfl ⟨[(2, []), (3, [0, 1]), (10, [7, 8, 33, 34, 35]), (11, [7, 8, 33, 34, 35]), (12, [8])], []⟩ ?_
  unfold impl_LostAfterCut.f at h
  obtain ⟨P, hP⟩ : ∃ P, Try.prog = P := ⟨_, rfl⟩
  rw [hP]
  (try rw [hn_l0] at h); skip
  cbv
  repeat' (first
    | ((with_reducible show ∃ _, _)
       first
        | (refine ⟨trivial, ?_⟩; cbv)
        | (refine side (by first | with_reducible eq_refl | assumption | (intro _ _; with_reducible eq_refl) | exact lt_ix (by assumption) (by assumption) (by assumption) | exact lt_ix2 (by assumption) (by assumption) (by assumption) (by assumption) | exact lt_y (by assumption) (by assumption) | exact le_y (by assumption) | exact ge_y (by assumption) | exact cut_le (by assumption) (by assumption) | omega) ?_; (try cbv))
        | (refine ⟨.kept, side (Eq.refl _) (side (by first | trivial | exact ⟨clean_enc (by assumption) (by assumption) (fun _ => rfl), trivial⟩) ?_)⟩; cbv)
        | (refine ⟨Frz.own, ?_⟩; cbv))
    | ((with_reducible show ∃ _ : Nat, _)
       first
        | (refine ⟨_, [7, 8, 33, 34, 35], Nat.lt_succ_self _, ?_⟩; cbv; exact ⟨_, _, _, _, _, _, _, _, _, h, by first | assumption | rfl, by first | assumption | rfl, by first | assumption | rfl, by first | assumption | rfl, rfl⟩))
    | ((with_reducible show ∃ _ : List Nat, _)
       first
        | ((with_reducible (have h0 : Option.bind (impl_recovered.f _ _) _ = some _ := h; clear h0))
           refine ⟨[], ?_⟩; cbv
           repeat (first | (refine all_show (by first | omega | decide) ?_; cbv) | (refine all_showT (by assumption) (by assumption) (by assumption) (by first | assumption | exact lt_ix (by assumption) (by assumption) (by assumption) | exact lt_ix2 (by assumption) (by assumption) (by assumption) (by assumption) | exact lt_y (by assumption) (by assumption) | exact le_y (by assumption) | exact ge_y (by assumption) | exact cut_le (by assumption) (by assumption) | omega) (by first | assumption | exact cut_hi (by assumption) | exact cut_hi2 (by assumption) (by assumption) | omega) ?_; intro D hD hnD g hgD; (try rw [hD] at h); cbv))
           obtain ⟨t, ht, h'⟩ := bind_some h
           clear h; have h := h'; clear h'; (try dsimp only at h)
           obtain ⟨n_c153_0, hn_c153_0⟩ : ∃ n, t.length = n := ⟨_, rfl⟩; obtain ⟨g_t, hg_c153_0⟩ : ∃ g, encL e72 t = g := ⟨_, rfl⟩; (try rw [hn_c153_0] at h)
           refine ⟨_, _, (hP ▸ impl_recovered_ok _ _ _ ht _ (by first | assumption | rfl) _ (by assumption) _ hn_c153_0 _ hg_c153_0 : CallOK P 153 _ _ _ _), ?_⟩; cbv)
        | ((with_reducible (have h0 : Option.bind (impl_areRecords.f _ _) _ = some _ := h; clear h0))
           refine ⟨[], ?_⟩; cbv
           repeat (first | (refine all_show (by first | omega | decide) ?_; cbv) | (refine all_showT (by assumption) (by assumption) (by assumption) (by first | assumption | exact lt_ix (by assumption) (by assumption) (by assumption) | exact lt_ix2 (by assumption) (by assumption) (by assumption) (by assumption) | exact lt_y (by assumption) (by assumption) | exact le_y (by assumption) | exact ge_y (by assumption) | exact cut_le (by assumption) (by assumption) | omega) (by first | assumption | exact cut_hi (by assumption) | exact cut_hi2 (by assumption) (by assumption) | omega) ?_; intro D hD hnD g hgD; (try rw [hD] at h); cbv))
           obtain ⟨t, ht, h'⟩ := bind_some h
           clear h; have h := h'; clear h'; (try dsimp only at h)
           refine ⟨_, _, (hP ▸ impl_areRecords_ok _ _ _ ht _ (by first | assumption | rfl) _ (by assumption)  : CallOK P 157 _ _ _ _), ?_⟩
           rcases t with _ | _ <;> (try simp only [bs, eq_self, if_true, if_false, reduceIte] at h) <;> (try (cases h; done)) <;> cbv)
        | ((with_reducible (have h0 : Option.bind (impl_journalNumbers.f _ _) _ = some _ := h; clear h0))
           refine ⟨[], ?_⟩; cbv
           repeat (first | (refine all_show (by first | omega | decide) ?_; cbv) | (refine all_showT (by assumption) (by assumption) (by assumption) (by first | assumption | exact lt_ix (by assumption) (by assumption) (by assumption) | exact lt_ix2 (by assumption) (by assumption) (by assumption) (by assumption) | exact lt_y (by assumption) (by assumption) | exact le_y (by assumption) | exact ge_y (by assumption) | exact cut_le (by assumption) (by assumption) | omega) (by first | assumption | exact cut_hi (by assumption) | exact cut_hi2 (by assumption) (by assumption) | omega) ?_; intro D hD hnD g hgD; (try rw [hD] at h); cbv))
           obtain ⟨t, ht, h'⟩ := bind_some h
           clear h; have h := h'; clear h'; (try dsimp only at h)
           obtain ⟨n_c158_0, hn_c158_0⟩ : ∃ n, t.length = n := ⟨_, rfl⟩; obtain ⟨g_t, hg_c158_0⟩ : ∃ g, encL eI t = g := ⟨_, rfl⟩; (try rw [hn_c158_0] at h)
           refine ⟨_, _, (hP ▸ impl_journalNumbers_ok _ _ _ ht _ (by first | assumption | rfl) _ (by assumption) _ hn_c158_0 _ hg_c158_0 : CallOK P 158 _ _ _ _), ?_⟩; cbv)
        | ((with_reducible (have h0 : Option.bind (impl_committedValues.f _ _) _ = some _ := h; clear h0))
           refine ⟨[], ?_⟩; cbv
           repeat (first | (refine all_show (by first | omega | decide) ?_; cbv) | (refine all_showT (by assumption) (by assumption) (by assumption) (by first | assumption | exact lt_ix (by assumption) (by assumption) (by assumption) | exact lt_ix2 (by assumption) (by assumption) (by assumption) (by assumption) | exact lt_y (by assumption) (by assumption) | exact le_y (by assumption) | exact ge_y (by assumption) | exact cut_le (by assumption) (by assumption) | omega) (by first | assumption | exact cut_hi (by assumption) | exact cut_hi2 (by assumption) (by assumption) | omega) ?_; intro D hD hnD g hgD; (try rw [hD] at h); cbv))
           obtain ⟨t, ht, h'⟩ := bind_some h
           clear h; have h := h'; clear h'; (try dsimp only at h)
           obtain ⟨n_c159_0, hn_c159_0⟩ : ∃ n, t.length = n := ⟨_, rfl⟩; obtain ⟨g_t, hg_c159_0⟩ : ∃ g, encL eI t = g := ⟨_, rfl⟩; (try rw [hn_c159_0] at h)
           refine ⟨_, _, (hP ▸ impl_committedValues_ok _ _ _ ht _ (by first | assumption | rfl) _ (by assumption) _ hn_c159_0 _ hg_c159_0 : CallOK P 159 _ _ _ _), ?_⟩; cbv))
    | ((with_reducible show ∃ _ : Nat → St → Prop, _)
       first
        | (refine ⟨fun k1 s => ∃ x7 x8 x33 x34 x35 n_x7 g_x7 n_x33 g_x33, impl_LostAfterCut.l0 k1 x7 x8 x33 x34 x35 = some (r0, r1) ∧ x7.length = n_x7 ∧ encL eI x7 = g_x7 ∧ x33.length = n_x33 ∧ encL eI x33 = g_x33 ∧ s = ⟨⟨50, (upd 50 (upd 50 (upd 50 (upd 50 (upd 50 noT 35 (.val (.int .i64 x35))) 34 (.val (.int .i64 x34))) 33 (.row 1 0 n_x33)) 8 (.val (.int .i64 x8))) 7 (.row 0 0 n_x7))⟩, [.row 3 1 n_x7 g_x7, .row 3 1 n_x33 g_x33]⟩, ?_, [], ?_⟩
           rotate_left
           · cbv; exact ⟨_, [7, 8, 33, 34, 35], by cbv; exact ⟨_, _, _, _, _, _, _, _, _, h, by first | assumption | rfl, by first | assumption | rfl, by first | assumption | rfl, by first | assumption | rfl, rfl⟩⟩
           clear h
           rintro (_ | k1) s1 ⟨x7, x8, x33, x34, x35, n_x7, g_x7, n_x33, g_x33, h, hn_x7, hg_x7, hn_x33, hg_x33, rfl⟩
           · cases h
           unfold impl_LostAfterCut.l0 at h
           (try rw [hn_x7] at h); (try rw [hn_x33] at h); skip
           cbv))
    | ((with_reducible (have h0 : impl_LostAfterCut.j0 _ _ _ _ = some _ := h; clear h0))
       first
        | (unfold impl_LostAfterCut.j0 at h
           rcases k with _ | k
           · cases h
           (try dsimp only at h); (try simp only [bs, eq_self, if_true, if_false, reduceIte] at h); (try rw [hn_l0] at h); (try rw [show (Nat.cast n_l0 : Int) = _ from (by assumption)] at h); (try rw [show (NatCast.natCast n_l0 : Int) = _ from (by assumption)] at h); (try (simp only [Nat.cast] at h; rw [show (NatCast.natCast n_l0 : Int) = _ from (by assumption)] at h)); (try rw [hn_c153_0] at h); (try rw [show (Nat.cast n_c153_0 : Int) = _ from (by assumption)] at h); (try rw [show (NatCast.natCast n_c153_0 : Int) = _ from (by assumption)] at h); (try (simp only [Nat.cast] at h; rw [show (NatCast.natCast n_c153_0 : Int) = _ from (by assumption)] at h)); (try rw [hn_c158_0] at h); (try rw [show (Nat.cast n_c158_0 : Int) = _ from (by assumption)] at h); (try rw [show (NatCast.natCast n_c158_0 : Int) = _ from (by assumption)] at h); (try (simp only [Nat.cast] at h; rw [show (NatCast.natCast n_c158_0 : Int) = _ from (by assumption)] at h)); (try rw [hn_c159_0] at h); (try rw [show (Nat.cast n_c159_0 : Int) = _ from (by assumption)] at h); (try rw [show (NatCast.natCast n_c159_0 : Int) = _ from (by assumption)] at h); (try (simp only [Nat.cast] at h; rw [show (NatCast.natCast n_c159_0 : Int) = _ from (by assumption)] at h)); (try rw [hn_x7] at h); (try rw [show (Nat.cast n_x7 : Int) = _ from (by assumption)] at h); (try rw [show (NatCast.natCast n_x7 : Int) = _ from (by assumption)] at h); (try (simp only [Nat.cast] at h; rw [show (NatCast.natCast n_x7 : Int) = _ from (by assumption)] at h)); (try rw [hn_x33] at h); (try rw [show (Nat.cast n_x33 : Int) = _ from (by assumption)] at h); (try rw [show (NatCast.natCast n_x33 : Int) = _ from (by assumption)] at h); (try (simp only [Nat.cast] at h; rw [show (NatCast.natCast n_x33 : Int) = _ from (by assumption)] at h))))
    | ((with_reducible show ∀ _ : Bool, _)
       first
        | (refine all_lt ?_ ?_ <;> (intro hd; first | exact absurd rfl hd | ((first | rw [if_pos hd] at h | rw [if_neg hd] at h | rw [if_pos (by omega)] at h | rw [if_neg (by omega)] at h | skip); (first | (rw [decide_eq_true hd] at h; (try simp only [bs, eq_self, if_true, if_false, reduceIte] at h)) | (rw [decide_eq_false hd] at h; (try simp only [bs, eq_self, if_true, if_false, reduceIte] at h)) | skip); cbv)))
        | (refine all_bne ?_ ?_ <;> (intro hd; first | exact absurd rfl hd | ((first | rw [if_pos hd] at h | rw [if_neg hd] at h | rw [if_pos (by omega)] at h | rw [if_neg (by omega)] at h | skip); (first | (rw [bne_pos hd] at h; (try simp only [bs, eq_self, if_true, if_false, reduceIte] at h)) | (rw [bne_neg hd] at h; (try simp only [bs, eq_self, if_true, if_false, reduceIte] at h)) | skip); cbv))))
    | ((with_reducible show ∀ _ : Int, _)
       first
        | (refine all_mn ?_; intro y hy; (try rw [hy] at h); cbv)
        | (refine all_wrap ?_; intro y hy; (try rw [hy] at h); cbv)
        | (refine all_len ?_; intro y hy; (try replace hy : ((_ : Nat) : Int) = y := hy); (try rw [hy] at h); (try rw [show (NatCast.natCast _ : Int) = _ from hy] at h); cbv))
    | ((with_reducible show ∀ _ : Nat, _)
       first
        | (refine all_ix0_old (by assumption) ?_; cbv)
        | (refine all_ix0 ?_; intro q hq; (try rw [hq] at h); cbv)
        | (intro off' n' ho hn'; obtain rfl : off' = _ := ho; (try replace hn' := cut_len hn' (by assumption)); (try replace hn' := cut_len0 hn'); cbv))
    | ((with_reducible show ∀ _ : List V, _)
       first
        | (refine @all_rd _ _ eI rd ?_ ?_ ?_ _ _ _ (fun _ _ => rfl) ?_ ?_ ?_ ?_ ?_ ?_
           rotate_left 3
           assumption
           assumption
           (first | rfl | assumption)
           (first | assumption | exact lt_ix (by assumption) (by assumption) (by assumption) | exact lt_ix2 (by assumption) (by assumption) (by assumption) (by assumption) | exact lt_y (by assumption) (by assumption) | exact le_y (by assumption) | exact ge_y (by assumption) | exact cut_le (by assumption) (by assumption) | omega)
           (first | assumption | exact lt_ix (by assumption) (by assumption) (by assumption) | exact lt_ix2 (by assumption) (by assumption) (by assumption) (by assumption) | exact lt_y (by assumption) (by assumption) | exact le_y (by assumption) | exact ge_y (by assumption) | exact cut_le (by assumption) (by assumption) | omega)
           intro z hz
           (try rw [hz] at h); cbv))
    | (obtain ⟨hc, h'⟩ := if_none h; clear h; have h := h'; clear h')
    | (simp only [Option.some.injEq, Prod.mk.injEq] at h; obtain ⟨rfl, rfl⟩ := h)
    | trivial)

def spec_jrCommitted.l0 : Nat → List (S72) → Int → List (S72) → Int → Int → Option ((List (S72)))
  | 0, _, _, _, _, _ => none
  | k + 1, x0, x3, x6, x7, x8 => if x8 < x7 then (if 0 ≤ x8 then (if x8 < (x6.length : Int) then (if ((rd_T72 x6 x8).f0) = 2 then (spec_jrCommitted.l0 k x0 (wrap64 (x8 + 1)) x6 x7 (wrap64 (x8 + 1))) else (spec_jrCommitted.l0 k x0 x3 x6 x7 (wrap64 (x8 + 1)))) else (none)) else (none)) else ((some (([] : List (S72)) : List (S72))).bind fun y472 => (if 0 ≤ x3 then (if x3 ≤ (x0.length : Int) then ((some (x0.take (x3 : Int).toNat : List (S72))).bind fun y475 => (if y472.length + y475.length < 5864062014805 then (some (y472 ++ y475)) else (none))) else (none)) else (none)))
def spec_jrCommitted.f (k : Nat) (l0 : List (S72)) : Option ((List (S72))) := spec_jrCommitted.l0 k l0 0 l0 (l0.length : Int) 0

theorem spec_jrCommitted_ok (k : Nat) (l0 : List (S72)) (r0 : List (S72)) (h : spec_jrCommitted.f k l0 = some r0) (n_l0 : Nat) (hn_l0 : l0.length = n_l0) (g_l0 : Nat → List V) (hg_l0 : encL e72 l0 = g_l0) (n_r0 : Nat) (hn_r0 : r0.length = n_r0) (g_r0 : Nat → List V) (hg_r0 : encL e72 r0 = g_r0) : CallOK Try.prog 180 [.fz 3 n_l0 g_l0] [] (.row 0 0 n_r0) [.row 72 3 n_r0 g_r0] := by
  refine CallOK.of_code tabOK Try.func180 rfl rfl ⟨[(6, [0, 4, 6, 7, 8]), (7, [0, 3, 6, 7, 8]), (8, [0, 3])], []⟩ ?_
  unfold spec_jrCommitted.f at h
  obtain ⟨P, hP⟩ : ∃ P, Try.prog = P := ⟨_, rfl⟩
  rw [hP]
  (try rw [hn_l0] at h); skip
  cbv
  repeat' (first
    | ((with_reducible show ∃ _, _)
       first
        | (refine ⟨trivial, ?_⟩; cbv)
        | (refine side (by first | with_reducible eq_refl | assumption | (intro _ _; with_reducible eq_refl) | exact lt_ix (by assumption) (by assumption) (by assumption) | exact lt_ix2 (by assumption) (by assumption) (by assumption) (by assumption) | exact lt_y (by assumption) (by assumption) | exact le_y (by assumption) | exact ge_y (by assumption) | exact cut_le (by assumption) (by assumption) | omega) ?_; (try cbv))
        | (refine bind_side (Eq.refl _) ?_; (try cbv))
        | (refine ⟨.row, ?_⟩; cbv))
    | ((with_reducible show ∃ _ : Nat, _)
       first
        | (refine ⟨_, [0, 3, 6, 7, 8], Nat.lt_succ_self _, ?_⟩; cbv; exact ⟨_, _, _, _, _, _, _, _, _, h, by first | assumption | rfl, by first | assumption | rfl, by first | assumption | rfl, by first | assumption | rfl, rfl⟩))
    | ((with_reducible show ∃ _ : Nat → List V, _)
       first
        | (refine all_build0 e72 ?_; intro g_b hg_b; cbv))
    | ((with_reducible show ∃ _ : Nat → St → Prop, _)
       first
        | (refine ⟨fun k1 s => ∃ x0 x3 x6 x7 x8 n_x0 g_x0 n_x6 g_x6, spec_jrCommitted.l0 k1 x0 x3 x6 x7 x8 = some r0 ∧ x0.length = n_x0 ∧ encL e72 x0 = g_x0 ∧ x6.length = n_x6 ∧ encL e72 x6 = g_x6 ∧ s = ⟨⟨24, (upd 24 (upd 24 (upd 24 (upd 24 (upd 24 noT 8 (.val (.int .i64 x8))) 7 (.val (.int .i64 x7))) 6 (.fz 3 n_x6 g_x6)) 3 (.val (.int .i64 x3))) 0 (.fz 3 n_x0 g_x0))⟩, []⟩, ?_, [], ?_⟩
           rotate_left
           · cbv; exact ⟨_, [0, 3, 6, 7, 8], by cbv; exact ⟨_, _, _, _, _, _, _, _, _, h, by first | assumption | rfl, by first | assumption | rfl, by first | assumption | rfl, by first | assumption | rfl, rfl⟩⟩
           clear h
           rintro (_ | k1) s1 ⟨x0, x3, x6, x7, x8, n_x0, g_x0, n_x6, g_x6, h, hn_x0, hg_x0, hn_x6, hg_x6, rfl⟩
           · cases h
           unfold spec_jrCommitted.l0 at h
           (try rw [hn_x0] at h); (try rw [hn_x6] at h); skip
           cbv))
    | ((with_reducible show ∀ _ : Bool, _)
       first
        | (refine all_lt ?_ ?_ <;> (intro hd; first | exact absurd rfl hd | ((first | rw [if_pos hd] at h | rw [if_neg hd] at h | rw [if_pos (by omega)] at h | rw [if_neg (by omega)] at h | skip); (first | (rw [decide_eq_true hd] at h; (try simp only [bs, eq_self, if_true, if_false, reduceIte] at h)) | (rw [decide_eq_false hd] at h; (try simp only [bs, eq_self, if_true, if_false, reduceIte] at h)) | skip); cbv)))
        | (refine all_beq ?_ ?_ <;> (intro hd; first | exact absurd rfl hd | ((first | rw [if_pos hd] at h | rw [if_neg hd] at h | rw [if_pos (by omega)] at h | rw [if_neg (by omega)] at h | skip); (first | (rw [beq_pos hd] at h; (try simp only [bs, eq_self, if_true, if_false, reduceIte] at h)) | (rw [beq_neg hd] at h; (try simp only [bs, eq_self, if_true, if_false, reduceIte] at h)) | skip); cbv))))
    | ((with_reducible show ∀ _ : Int, _)
       first
        | (refine all_wrap_old (by assumption) ?_; cbv)
        | (refine all_wrap ?_; intro y hy; (try rw [hy] at h); cbv)
        | (refine all_len ?_; intro y hy; (try replace hy : ((_ : Nat) : Int) = y := hy); (try rw [hy] at h); (try rw [show (NatCast.natCast _ : Int) = _ from hy] at h); cbv))
    | ((with_reducible show ∀ _ : Nat, _)
       first
        | (refine @all_cut0 ?_ ?_ ?_ ?_ _ _ _ ?_ ?_ ?_ ?_ ?_
           rotate_left 4
           assumption
           assumption
           (first | assumption | exact lt_ix (by assumption) (by assumption) (by assumption) | exact lt_ix2 (by assumption) (by assumption) (by assumption) (by assumption) | exact lt_y (by assumption) (by assumption) | exact le_y (by assumption) | exact ge_y (by assumption) | exact cut_le (by assumption) (by assumption) | omega)
           (first | assumption | exact cut_hi (by assumption) | exact cut_hi2 (by assumption) (by assumption) | omega)
           intro D hD n_D hnD g hgD; (try rw [hD] at h); (try rw [hnD] at h); cbv)
        | (refine all_app (by first | assumption | exact (rfl : encL _ ([] : List _) = _)) (by first | assumption | rfl) (by assumption) (by first | assumption | rfl) ?_; intro L hL n_L hnL g hgL; (try rw [hL] at h); (try rw [Option.bind_some] at h); (try rw [hnL] at h); cbv))
    | ((with_reducible show ∀ _ : List V, _)
       first
        | (refine @all_rd _ _ e72 rd_T72 ?_ ?_ ?_ _ _ _ (fun _ _ => rfl) ?_ ?_ ?_ ?_ ?_ ?_
           rotate_left 3
           assumption
           assumption
           (first | rfl | assumption)
           (first | assumption | exact lt_ix (by assumption) (by assumption) (by assumption) | exact lt_ix2 (by assumption) (by assumption) (by assumption) (by assumption) | exact lt_y (by assumption) (by assumption) | exact le_y (by assumption) | exact ge_y (by assumption) | exact cut_le (by assumption) (by assumption) | omega)
           (first | assumption | exact lt_ix (by assumption) (by assumption) (by assumption) | exact lt_ix2 (by assumption) (by assumption) (by assumption) (by assumption) | exact lt_y (by assumption) (by assumption) | exact le_y (by assumption) | exact ge_y (by assumption) | exact cut_le (by assumption) (by assumption) | omega)
           intro z hz
           (try rw [hz] at h); cbv))
    | (obtain ⟨hc, h'⟩ := if_none h; clear h; have h := h'; clear h')
    | (simp only [Option.some.injEq, Prod.mk.injEq] at h; subst h)
    | ((with_reducible show ∃ _, _)
       refine side (by first | exact enc_same (by assumption) (by assumption) _ | exact take_s1 (by assumption) (by assumption) (by assumption) | exact take_s2 (by assumption) (by assumption) (by assumption) (by assumption) (by assumption) | exact take_s3 (by assumption) (by assumption) (by assumption) | exact take_s4 (by assumption) (by assumption) (by assumption) | (intro k hk; subst_vars; first | eq_refl | exact enc_drop | exact enc_take hk | exact absurd hk (Nat.not_lt_zero k)) | (subst_vars; first | eq_refl | (simp; done) | (simp; omega)) | (have h1 : Int.toNat 1 = 1 := rfl; have h2 := one_le (by assumption) (by assumption); simp only [List.length_append, List.length_nil, List.length_drop, h1] at *; omega) | (simp only [Nat.cast] at *; omega)) ?_; (try cbv)))

def spec_jrValues.l1 : Nat → List Int → List (S72) → Int → Int → Option (List Int)
  | 0, _, _, _, _ => none
  | k + 1, x3, x13, x14, x15 => if x15 < x14 then (if 0 ≤ x15 then (if x15 < (x13.length : Int) then (if ((rd_T72 x13 x15).f0) = 1 then (if 0 ≤ ((rd_T72 x13 x15).f1) then (if ((rd_T72 x13 x15).f1) < (x3.length : Int) then (spec_jrValues.l1 k (x3.set (((rd_T72 x13 x15).f1) : Int).toNat ((rd_T72 x13 x15).f2)) x13 x14 (wrap64 (x15 + 1))) else (none)) else (none)) else (spec_jrValues.l1 k x3 x13 x14 (wrap64 (x15 + 1)))) else (none)) else (none)) else (some x3)
def spec_jrValues.l0 : Nat → List (S72) → List Int → Option (List Int)
  | 0, _, _ => none
  | k + 1, x0, x3 => if (x3.length : Int) < 8 then (if x3.length < 17592186044416 then (spec_jrValues.l0 k x0 (x3 ++ [(-1)])) else (none)) else ((spec_jrCommitted.f k x0).bind fun t485 => (spec_jrValues.l1 k x3 t485 (t485.length : Int) 0))
def spec_jrValues.f (k : Nat) (l0 : List (S72)) : Option (List Int) := spec_jrValues.l0 k l0 ([] : List Int)

theorem spec_jrValues_ok (k : Nat) (l0 : List (S72)) (r0 : List Int) (h : spec_jrValues.f k l0 = some r0) (n_l0 : Nat) (hn_l0 : l0.length = n_l0) (g_l0 : Nat → List V) (hg_l0 : encL e72 l0 = g_l0) (n_r0 : Nat) (hn_r0 : r0.length = n_r0) (g_r0 : Nat → List V) (hg_r0 : encL eI r0 = g_r0) : CallOK Try.prog 162 [.fz 3 n_l0 g_l0] [] (.row 0 0 n_r0) [.row 3 1 n_r0 g_r0] := by
  refine CallOK.of_code tabOK Try.func162 rfl rfl ⟨[(4, [0, 3]), (9, [3, 13, 14, 15]), (10, [3])], []⟩ ?_
  unfold spec_jrValues.f at h
  obtain ⟨P, hP⟩ : ∃ P, Try.prog = P := ⟨_, rfl⟩
  rw [hP]
  (try rw [hn_l0] at h); skip
  cbv
  repeat' (first
    | ((with_reducible show ∃ _, _)
       first
        | (refine ⟨trivial, ?_⟩; cbv)
        | (refine side (by first | with_reducible eq_refl | assumption | (intro _ _; with_reducible eq_refl) | exact lt_ix (by assumption) (by assumption) (by assumption) | exact lt_ix2 (by assumption) (by assumption) (by assumption) (by assumption) | exact lt_y (by assumption) (by assumption) | exact le_y (by assumption) | exact ge_y (by assumption) | exact cut_le (by assumption) (by assumption) | omega) ?_; (try cbv))
        | (refine bind_side (Eq.refl _) ?_; (try cbv))
        | (refine ⟨Frz.own, ?_⟩; cbv)
        | (refine ⟨.row, ?_⟩; cbv))
    | ((with_reducible show ∃ _ : Nat, _)
       first
        | (refine ⟨_, [3, 13, 14, 15], Nat.lt_succ_self _, ?_⟩; cbv; exact ⟨_, _, _, _, _, _, _, _, h, by first | assumption | rfl, by first | assumption | rfl, by first | assumption | rfl, by first | assumption | rfl, rfl⟩)
        | (refine ⟨_, [0, 3], Nat.lt_succ_self _, ?_⟩; cbv; exact ⟨_, _, _, _, _, _, h, by first | assumption | rfl, by first | assumption | rfl, by first | assumption | rfl, by first | assumption | rfl, rfl⟩))
    | ((with_reducible show ∃ _ : List Nat, _)
       first
        | ((with_reducible (have h0 : Option.bind (spec_jrCommitted.f _ _) _ = some _ := h; clear h0))
           refine ⟨[], ?_⟩; cbv
           repeat (first | (refine all_show (by first | omega | decide) ?_; cbv) | (refine all_showT (by assumption) (by assumption) (by assumption) (by first | assumption | exact lt_ix (by assumption) (by assumption) (by assumption) | exact lt_ix2 (by assumption) (by assumption) (by assumption) (by assumption) | exact lt_y (by assumption) (by assumption) | exact le_y (by assumption) | exact ge_y (by assumption) | exact cut_le (by assumption) (by assumption) | omega) (by first | assumption | exact cut_hi (by assumption) | exact cut_hi2 (by assumption) (by assumption) | omega) ?_; intro D hD hnD g hgD; (try rw [hD] at h); cbv))
           obtain ⟨t, ht, h'⟩ := bind_some h
           clear h; have h := h'; clear h'; (try dsimp only at h)
           obtain ⟨n_c180_0, hn_c180_0⟩ : ∃ n, t.length = n := ⟨_, rfl⟩; obtain ⟨g_t, hg_c180_0⟩ : ∃ g, encL e72 t = g := ⟨_, rfl⟩; (try rw [hn_c180_0] at h)
           refine ⟨_, _, (hP ▸ spec_jrCommitted_ok _ _ _ ht _ (by first | assumption | rfl) _ (by assumption) _ hn_c180_0 _ hg_c180_0 : CallOK P 180 _ _ _ _), ?_⟩; cbv))
    | ((with_reducible show ∃ _ : Nat → List V, _)
       first
        | (refine all_buildI1 ?_; intro g_b hg_b; cbv)
        | (refine all_putS eI (by assumption) (by assumption) (by (first | assumption | exact lt_ix (by assumption) (by assumption) (by assumption) | exact lt_ix2 (by assumption) (by assumption) (by assumption) (by assumption) | exact lt_y (by assumption) (by assumption) | exact le_y (by assumption) | exact ge_y (by assumption) | exact cut_le (by assumption) (by assumption) | omega)) rfl (fun _ => rfl) ?_; intro L hL hnL g hgL; (try rw [hL] at h); (try rw [Option.bind_some] at h); (try rw [hnL] at h); cbv))
    | ((with_reducible show ∃ _ : Nat → St → Prop, _)
       first
        | (refine ⟨fun k1 s => ∃ x0 x3 n_x0 g_x0 n_x3 g_x3, spec_jrValues.l0 k1 x0 x3 = some r0 ∧ x0.length = n_x0 ∧ encL e72 x0 = g_x0 ∧ x3.length = n_x3 ∧ encL eI x3 = g_x3 ∧ s = ⟨⟨30, (upd 30 (upd 30 noT 3 (.row 0 0 n_x3)) 0 (.fz 3 n_x0 g_x0))⟩, [.row 3 1 n_x3 g_x3]⟩, ?_, [], ?_⟩
           rotate_left
           · cbv; exact ⟨_, [0, 3], by cbv; exact ⟨_, _, _, _, _, _, h, by first | assumption | rfl, by first | assumption | rfl, by first | assumption | rfl, by first | assumption | rfl, rfl⟩⟩
           clear h
           rintro (_ | k1) s1 ⟨x0, x3, n_x0, g_x0, n_x3, g_x3, h, hn_x0, hg_x0, hn_x3, hg_x3, rfl⟩
           · cases h
           unfold spec_jrValues.l0 at h
           (try rw [hn_x0] at h); (try rw [hn_x3] at h); skip
           cbv)
        | (refine ⟨fun k1 s => ∃ x3 x13 x14 x15 n_x3 g_x3 n_x13 g_x13, spec_jrValues.l1 k1 x3 x13 x14 x15 = some r0 ∧ x3.length = n_x3 ∧ encL eI x3 = g_x3 ∧ x13.length = n_x13 ∧ encL e72 x13 = g_x13 ∧ s = ⟨⟨30, (upd 30 (upd 30 (upd 30 (upd 30 noT 15 (.val (.int .i64 x15))) 14 (.val (.int .i64 x14))) 13 (.row 1 0 n_x13)) 3 (.row 0 0 n_x3))⟩, [.row 3 1 n_x3 g_x3, .row 72 3 n_x13 g_x13]⟩, ?_, [], ?_⟩
           rotate_left
           · cbv; exact ⟨_, [3, 13, 14, 15], by cbv; exact ⟨_, _, _, _, _, _, _, _, h, by first | assumption | rfl, by first | assumption | rfl, by first | assumption | rfl, by first | assumption | rfl, rfl⟩⟩
           clear h
           rintro (_ | k1) s1 ⟨x3, x13, x14, x15, n_x3, g_x3, n_x13, g_x13, h, hn_x3, hg_x3, hn_x13, hg_x13, rfl⟩
           · cases h
           unfold spec_jrValues.l1 at h
           (try rw [hn_x3] at h); (try rw [hn_x13] at h); skip
           cbv))
    | ((with_reducible show ∀ _ : Bool, _)
       first
        | (refine all_lt ?_ ?_ <;> (intro hd; first | exact absurd rfl hd | ((first | rw [if_pos hd] at h | rw [if_neg hd] at h | rw [if_pos (by omega)] at h | rw [if_neg (by omega)] at h | skip); (first | (rw [decide_eq_true hd] at h; (try simp only [bs, eq_self, if_true, if_false, reduceIte] at h)) | (rw [decide_eq_false hd] at h; (try simp only [bs, eq_self, if_true, if_false, reduceIte] at h)) | skip); cbv)))
        | (refine all_beq ?_ ?_ <;> (intro hd; first | exact absurd rfl hd | ((first | rw [if_pos hd] at h | rw [if_neg hd] at h | rw [if_pos (by omega)] at h | rw [if_neg (by omega)] at h | skip); (first | (rw [beq_pos hd] at h; (try simp only [bs, eq_self, if_true, if_false, reduceIte] at h)) | (rw [beq_neg hd] at h; (try simp only [bs, eq_self, if_true, if_false, reduceIte] at h)) | skip); cbv))))
    | ((with_reducible show ∀ _ : Int, _)
       first
        | (refine all_wrap ?_; intro y hy; (try rw [hy] at h); cbv)
        | (refine all_len ?_; intro y hy; (try replace hy : ((_ : Nat) : Int) = y := hy); (try rw [hy] at h); (try rw [show (NatCast.natCast _ : Int) = _ from hy] at h); cbv))
    | ((with_reducible show ∀ _ : Nat, _)
       first
        | (refine all_ix0 ?_; intro q hq; (try rw [hq] at h); cbv)
        | (refine all_app (by first | assumption | exact (rfl : encL _ ([] : List _) = _)) (by first | assumption | rfl) (by assumption) (by first | assumption | rfl) ?_; intro L hL n_L hnL g hgL; (try rw [hL] at h); (try rw [Option.bind_some] at h); (try rw [hnL] at h); cbv))
    | ((with_reducible show ∀ _ : List V, _)
       first
        | (refine @all_rd _ _ e72 rd_T72 ?_ ?_ ?_ _ _ _ (fun _ _ => rfl) ?_ ?_ ?_ ?_ ?_ ?_
           rotate_left 3
           assumption
           assumption
           (first | rfl | assumption)
           (first | assumption | exact lt_ix (by assumption) (by assumption) (by assumption) | exact lt_ix2 (by assumption) (by assumption) (by assumption) (by assumption) | exact lt_y (by assumption) (by assumption) | exact le_y (by assumption) | exact ge_y (by assumption) | exact cut_le (by assumption) (by assumption) | omega)
           (first | assumption | exact lt_ix (by assumption) (by assumption) (by assumption) | exact lt_ix2 (by assumption) (by assumption) (by assumption) (by assumption) | exact lt_y (by assumption) (by assumption) | exact le_y (by assumption) | exact ge_y (by assumption) | exact cut_le (by assumption) (by assumption) | omega)
           intro z hz
           (try rw [hz] at h); cbv))
    | (obtain ⟨hc, h'⟩ := if_none h; clear h; have h := h'; clear h')
    | (simp only [Option.some.injEq, Prod.mk.injEq] at h; subst h)
    | ((with_reducible show ∃ _, _)
       refine side (by first | exact enc_same (by assumption) (by assumption) _ | exact take_s1 (by assumption) (by assumption) (by assumption) | exact take_s2 (by assumption) (by assumption) (by assumption) (by assumption) (by assumption) | exact take_s3 (by assumption) (by assumption) (by assumption) | exact take_s4 (by assumption) (by assumption) (by assumption) | (intro k hk; subst_vars; first | eq_refl | exact enc_drop | exact enc_take hk | exact absurd hk (Nat.not_lt_zero k)) | (subst_vars; first | eq_refl | (simp; done) | (simp; omega)) | (have h1 : Int.toNat 1 = 1 := rfl; have h2 := one_le (by assumption) (by assumption); simp only [List.length_append, List.length_nil, List.length_drop, h1] at *; omega) | (simp only [Nat.cast] at *; omega)) ?_; (try cbv)))

def spec_LostAfterCut.l0 : Nat → List Int → Int → List Int → Int → Int → Option (Int × Bool)
  | 0, _, _, _, _, _ => none
  | k + 1, x7, x8, x30, x31, x32 => if x32 < x31 then (if 0 ≤ x32 then (if x32 < (x30.length : Int) then (if x32 < (x7.length : Int) then (if (rd x7 x32) = (rd x30 x32) then (spec_LostAfterCut.l0 k x7 x8 x30 x31 (wrap64 (x32 + 1))) else (spec_LostAfterCut.l0 k x7 (wrap64 (x8 + 1)) x30 x31 (wrap64 (x32 + 1)))) else (none)) else (none)) else (none)) else (some (x8, true))
def spec_LostAfterCut.j0 : Nat → List (S72) → Int → Bool → Option (Int × Bool)
  | 0, _, _, _ => none
  | k + 1, x0, x1, x18 => if x18 = true then (some (0, false)) else ((spec_jrAll.f k x0).bind fun t493 => ((spec_l1Least.f x1 (t493.length : Int)).bind fun t496 => (if 0 ≤ t496 then (if t496 ≤ (t493.length : Int) then ((spec_jrRecover.f k (t493.take (t496 : Int).toNat)).bind fun t501 => ((spec_jrValues.f k t501).bind fun t504 => ((spec_jrValues.f k x0).bind fun t507 => (spec_LostAfterCut.l0 k t504 0 t507 (t507.length : Int) 0)))) else (none)) else (none))))
def spec_LostAfterCut.f (k : Nat) (l0 : List (S72)) (a1 : Int) : Option (Int × Bool) := (spec_jrGood.f k l0).bind fun t491 => (if t491 = true then ((spec_jrCount.f a1).bind fun t492 => (spec_LostAfterCut.j0 k l0 a1 (!t492))) else (spec_LostAfterCut.j0 k l0 a1 true))

theorem spec_LostAfterCut_ok (k : Nat) (l0 : List (S72)) (a1 : Int) (r0 : Int) (r1 : Bool) (h : spec_LostAfterCut.f k l0 a1 = some (r0, r1)) (n_l0 : Nat) (hn_l0 : l0.length = n_l0) (g_l0 : Nat → List V) (hg_l0 : encL e72 l0 = g_l0)  : CallOK Try.prog 51 [.fz 3 n_l0 g_l0, .val (.int .i64 a1)] [] (.tup [.val (.int .i64 r0), .val (.bool r1)]) [] := by
  refine CallOK.of_code tabOK Try.func51 rfl rfl ⟨[(3, [0, 1]), (5, [0, 7]), (10, [7, 8, 30, 31, 32]), (11, [7, 8, 30, 31, 32]), (12, [8])], []⟩ ?_
  unfold spec_LostAfterCut.f at h
  obtain ⟨P, hP⟩ : ∃ P, Try.prog = P := ⟨_, rfl⟩
  rw [hP]
  (try rw [hn_l0] at h); skip
  cbv
  repeat' (first
    | ((with_reducible show ∃ _, _)
       first
        | (refine ⟨trivial, ?_⟩; cbv)
        | (refine side (by first | with_reducible eq_refl | assumption | (intro _ _; with_reducible eq_refl) | exact lt_ix (by assumption) (by assumption) (by assumption) | exact lt_ix2 (by assumption) (by assumption) (by assumption) (by assumption) | exact lt_y (by assumption) (by assumption) | exact le_y (by assumption) | exact ge_y (by assumption) | exact cut_le (by assumption) (by assumption) | omega) ?_; (try cbv))
        | (refine ⟨.kept, side (Eq.refl _) (side (by first | trivial | exact ⟨clean_enc (by assumption) (by assumption) (fun _ => rfl), trivial⟩) ?_)⟩; cbv)
        | (refine ⟨Frz.own, ?_⟩; cbv))
    | ((with_reducible show ∃ _ : Nat, _)
       first
        | (refine ⟨_, [7, 8, 30, 31, 32], Nat.lt_succ_self _, ?_⟩; cbv; exact ⟨_, _, _, _, _, _, _, _, _, h, by first | assumption | rfl, by first | assumption | rfl, by first | assumption | rfl, by first | assumption | rfl, rfl⟩))
    | ((with_reducible show ∃ _ : List Nat, _)
       first
        | ((with_reducible (have h0 : Option.bind (spec_l1Least.f _ _) _ = some _ := h; clear h0))
           refine ⟨[], ?_⟩; cbv
           repeat (first | (refine all_show (by first | omega | decide) ?_; cbv) | (refine all_showT (by assumption) (by assumption) (by assumption) (by first | assumption | exact lt_ix (by assumption) (by assumption) (by assumption) | exact lt_ix2 (by assumption) (by assumption) (by assumption) (by assumption) | exact lt_y (by assumption) (by assumption) | exact le_y (by assumption) | exact ge_y (by assumption) | exact cut_le (by assumption) (by assumption) | omega) (by first | assumption | exact cut_hi (by assumption) | exact cut_hi2 (by assumption) (by assumption) | omega) ?_; intro D hD hnD g hgD; (try rw [hD] at h); cbv))
           obtain ⟨t, ht, h'⟩ := bind_some h
           clear h; have h := h'; clear h'; (try dsimp only at h)
           refine ⟨_, _, (hP ▸ spec_l1Least_ok _ _ _ ht   : CallOK P 142 _ _ _ _), ?_⟩; cbv)
        | ((with_reducible (have h0 : Option.bind (spec_jrCount.f _) _ = some _ := h; clear h0))
           refine ⟨[], ?_⟩; cbv
           repeat (first | (refine all_show (by first | omega | decide) ?_; cbv) | (refine all_showT (by assumption) (by assumption) (by assumption) (by first | assumption | exact lt_ix (by assumption) (by assumption) (by assumption) | exact lt_ix2 (by assumption) (by assumption) (by assumption) (by assumption) | exact lt_y (by assumption) (by assumption) | exact le_y (by assumption) | exact ge_y (by assumption) | exact cut_le (by assumption) (by assumption) | omega) (by first | assumption | exact cut_hi (by assumption) | exact cut_hi2 (by assumption) (by assumption) | omega) ?_; intro D hD hnD g hgD; (try rw [hD] at h); cbv))
           obtain ⟨t, ht, h'⟩ := bind_some h
           clear h; have h := h'; clear h'; (try dsimp only at h)
           refine ⟨_, _, (hP ▸ spec_jrCount_ok _ _ ht   : CallOK P 151 _ _ _ _), ?_⟩
           rcases t with _ | _ <;> (try simp only [bs, eq_self, if_true, if_false, reduceIte] at h) <;> (try (cases h; done)) <;> cbv)
        | ((with_reducible (have h0 : Option.bind (spec_jrRecover.f _ _) _ = some _ := h; clear h0))
           refine ⟨[], ?_⟩; cbv
           repeat (first | (refine all_show (by first | omega | decide) ?_; cbv) | (refine all_showT (by assumption) (by assumption) (by assumption) (by first | assumption | exact lt_ix (by assumption) (by assumption) (by assumption) | exact lt_ix2 (by assumption) (by assumption) (by assumption) (by assumption) | exact lt_y (by assumption) (by assumption) | exact le_y (by assumption) | exact ge_y (by assumption) | exact cut_le (by assumption) (by assumption) | omega) (by first | assumption | exact cut_hi (by assumption) | exact cut_hi2 (by assumption) (by assumption) | omega) ?_; intro D hD hnD g hgD; (try rw [hD] at h); cbv))
           obtain ⟨t, ht, h'⟩ := bind_some h
           clear h; have h := h'; clear h'; (try dsimp only at h)
           obtain ⟨n_c154_0, hn_c154_0⟩ : ∃ n, t.length = n := ⟨_, rfl⟩; obtain ⟨g_t, hg_c154_0⟩ : ∃ g, encL e72 t = g := ⟨_, rfl⟩; (try rw [hn_c154_0] at h)
           refine ⟨_, _, (hP ▸ spec_jrRecover_ok _ _ _ ht _ (by first | assumption | rfl) _ (by assumption) _ hn_c154_0 _ hg_c154_0 : CallOK P 154 _ _ _ _), ?_⟩; cbv)
        | ((with_reducible (have h0 : Option.bind (spec_jrGood.f _ _) _ = some _ := h; clear h0))
           refine ⟨[], ?_⟩; cbv
           repeat (first | (refine all_show (by first | omega | decide) ?_; cbv) | (refine all_showT (by assumption) (by assumption) (by assumption) (by first | assumption | exact lt_ix (by assumption) (by assumption) (by assumption) | exact lt_ix2 (by assumption) (by assumption) (by assumption) (by assumption) | exact lt_y (by assumption) (by assumption) | exact le_y (by assumption) | exact ge_y (by assumption) | exact cut_le (by assumption) (by assumption) | omega) (by first | assumption | exact cut_hi (by assumption) | exact cut_hi2 (by assumption) (by assumption) | omega) ?_; intro D hD hnD g hgD; (try rw [hD] at h); cbv))
           obtain ⟨t, ht, h'⟩ := bind_some h
           clear h; have h := h'; clear h'; (try dsimp only at h)
           refine ⟨_, _, (hP ▸ spec_jrGood_ok _ _ _ ht _ (by first | assumption | rfl) _ (by assumption)  : CallOK P 160 _ _ _ _), ?_⟩
           rcases t with _ | _ <;> (try simp only [bs, eq_self, if_true, if_false, reduceIte] at h) <;> (try (cases h; done)) <;> cbv)
        | ((with_reducible (have h0 : Option.bind (spec_jrAll.f _ _) _ = some _ := h; clear h0))
           refine ⟨[], ?_⟩; cbv
           repeat (first | (refine all_show (by first | omega | decide) ?_; cbv) | (refine all_showT (by assumption) (by assumption) (by assumption) (by first | assumption | exact lt_ix (by assumption) (by assumption) (by assumption) | exact lt_ix2 (by assumption) (by assumption) (by assumption) (by assumption) | exact lt_y (by assumption) (by assumption) | exact le_y (by assumption) | exact ge_y (by assumption) | exact cut_le (by assumption) (by assumption) | omega) (by first | assumption | exact cut_hi (by assumption) | exact cut_hi2 (by assumption) (by assumption) | omega) ?_; intro D hD hnD g hgD; (try rw [hD] at h); cbv))
           obtain ⟨t, ht, h'⟩ := bind_some h
           clear h; have h := h'; clear h'; (try dsimp only at h)
           obtain ⟨n_c161_0, hn_c161_0⟩ : ∃ n, t.length = n := ⟨_, rfl⟩; obtain ⟨g_t, hg_c161_0⟩ : ∃ g, encL eI t = g := ⟨_, rfl⟩; (try rw [hn_c161_0] at h)
           refine ⟨_, _, (hP ▸ spec_jrAll_ok _ _ _ ht _ (by first | assumption | rfl) _ (by assumption) _ hn_c161_0 _ hg_c161_0 : CallOK P 161 _ _ _ _), ?_⟩; cbv)
        | ((with_reducible (have h0 : Option.bind (spec_jrValues.f _ _) _ = some _ := h; clear h0))
           refine ⟨[], ?_⟩; cbv
           repeat (first | (refine all_show (by first | omega | decide) ?_; cbv) | (refine all_showT (by assumption) (by assumption) (by assumption) (by first | assumption | exact lt_ix (by assumption) (by assumption) (by assumption) | exact lt_ix2 (by assumption) (by assumption) (by assumption) (by assumption) | exact lt_y (by assumption) (by assumption) | exact le_y (by assumption) | exact ge_y (by assumption) | exact cut_le (by assumption) (by assumption) | omega) (by first | assumption | exact cut_hi (by assumption) | exact cut_hi2 (by assumption) (by assumption) | omega) ?_; intro D hD hnD g hgD; (try rw [hD] at h); cbv))
           obtain ⟨t, ht, h'⟩ := bind_some h
           clear h; have h := h'; clear h'; (try dsimp only at h)
           obtain ⟨n_c162_0, hn_c162_0⟩ : ∃ n, t.length = n := ⟨_, rfl⟩; obtain ⟨g_t, hg_c162_0⟩ : ∃ g, encL eI t = g := ⟨_, rfl⟩; (try rw [hn_c162_0] at h)
           refine ⟨_, _, (hP ▸ spec_jrValues_ok _ _ _ ht _ (by first | assumption | rfl) _ (by assumption) _ hn_c162_0 _ hg_c162_0 : CallOK P 162 _ _ _ _), ?_⟩; cbv))
    | ((with_reducible show ∃ _ : Nat → St → Prop, _)
       first
        | (refine ⟨fun k1 s => ∃ x7 x8 x30 x31 x32 n_x7 g_x7 n_x30 g_x30, spec_LostAfterCut.l0 k1 x7 x8 x30 x31 x32 = some (r0, r1) ∧ x7.length = n_x7 ∧ encL eI x7 = g_x7 ∧ x30.length = n_x30 ∧ encL eI x30 = g_x30 ∧ s = ⟨⟨47, (upd 47 (upd 47 (upd 47 (upd 47 (upd 47 noT 32 (.val (.int .i64 x32))) 31 (.val (.int .i64 x31))) 30 (.row 1 0 n_x30)) 8 (.val (.int .i64 x8))) 7 (.row 0 0 n_x7))⟩, [.row 3 1 n_x7 g_x7, .row 3 1 n_x30 g_x30]⟩, ?_, [], ?_⟩
           rotate_left
           · cbv; exact ⟨_, [7, 8, 30, 31, 32], by cbv; exact ⟨_, _, _, _, _, _, _, _, _, h, by first | assumption | rfl, by first | assumption | rfl, by first | assumption | rfl, by first | assumption | rfl, rfl⟩⟩
           clear h
           rintro (_ | k1) s1 ⟨x7, x8, x30, x31, x32, n_x7, g_x7, n_x30, g_x30, h, hn_x7, hg_x7, hn_x30, hg_x30, rfl⟩
           · cases h
           unfold spec_LostAfterCut.l0 at h
           (try rw [hn_x7] at h); (try rw [hn_x30] at h); skip
           cbv))
    | ((with_reducible (have h0 : spec_LostAfterCut.j0 _ _ _ _ = some _ := h; clear h0))
       first
        | (unfold spec_LostAfterCut.j0 at h
           rcases k with _ | k
           · cases h
           (try dsimp only at h); (try simp only [bs, eq_self, if_true, if_false, reduceIte] at h); (try rw [hn_l0] at h); (try rw [show (Nat.cast n_l0 : Int) = _ from (by assumption)] at h); (try rw [show (NatCast.natCast n_l0 : Int) = _ from (by assumption)] at h); (try (simp only [Nat.cast] at h; rw [show (NatCast.natCast n_l0 : Int) = _ from (by assumption)] at h)); (try rw [hn_c154_0] at h); (try rw [show (Nat.cast n_c154_0 : Int) = _ from (by assumption)] at h); (try rw [show (NatCast.natCast n_c154_0 : Int) = _ from (by assumption)] at h); (try (simp only [Nat.cast] at h; rw [show (NatCast.natCast n_c154_0 : Int) = _ from (by assumption)] at h)); (try rw [hn_c161_0] at h); (try rw [show (Nat.cast n_c161_0 : Int) = _ from (by assumption)] at h); (try rw [show (NatCast.natCast n_c161_0 : Int) = _ from (by assumption)] at h); (try (simp only [Nat.cast] at h; rw [show (NatCast.natCast n_c161_0 : Int) = _ from (by assumption)] at h)); (try rw [hn_c162_0] at h); (try rw [show (Nat.cast n_c162_0 : Int) = _ from (by assumption)] at h); (try rw [show (NatCast.natCast n_c162_0 : Int) = _ from (by assumption)] at h); (try (simp only [Nat.cast] at h; rw [show (NatCast.natCast n_c162_0 : Int) = _ from (by assumption)] at h)); (try rw [hn_x7] at h); (try rw [show (Nat.cast n_x7 : Int) = _ from (by assumption)] at h); (try rw [show (NatCast.natCast n_x7 : Int) = _ from (by assumption)] at h); (try (simp only [Nat.cast] at h; rw [show (NatCast.natCast n_x7 : Int) = _ from (by assumption)] at h)); (try rw [hn_x30] at h); (try rw [show (Nat.cast n_x30 : Int) = _ from (by assumption)] at h); (try rw [show (NatCast.natCast n_x30 : Int) = _ from (by assumption)] at h); (try (simp only [Nat.cast] at h; rw [show (NatCast.natCast n_x30 : Int) = _ from (by assumption)] at h))))
    | ((with_reducible show ∀ _ : Bool, _)
       first
        | (refine all_lt ?_ ?_ <;> (intro hd; first | exact absurd rfl hd | ((first | rw [if_pos hd] at h | rw [if_neg hd] at h | rw [if_pos (by omega)] at h | rw [if_neg (by omega)] at h | skip); (first | (rw [decide_eq_true hd] at h; (try simp only [bs, eq_self, if_true, if_false, reduceIte] at h)) | (rw [decide_eq_false hd] at h; (try simp only [bs, eq_self, if_true, if_false, reduceIte] at h)) | skip); cbv)))
        | (refine all_bne ?_ ?_ <;> (intro hd; first | exact absurd rfl hd | ((first | rw [if_pos hd] at h | rw [if_neg hd] at h | rw [if_pos (by omega)] at h | rw [if_neg (by omega)] at h | skip); (first | (rw [bne_pos hd] at h; (try simp only [bs, eq_self, if_true, if_false, reduceIte] at h)) | (rw [bne_neg hd] at h; (try simp only [bs, eq_self, if_true, if_false, reduceIte] at h)) | skip); cbv))))
    | ((with_reducible show ∀ _ : Int, _)
       first
        | (refine all_wrap ?_; intro y hy; (try rw [hy] at h); cbv)
        | (refine all_len ?_; intro y hy; (try replace hy : ((_ : Nat) : Int) = y := hy); (try rw [hy] at h); (try rw [show (NatCast.natCast _ : Int) = _ from hy] at h); cbv))
    | ((with_reducible show ∀ _ : Nat, _)
       first
        | (refine all_ix0_old (by assumption) ?_; cbv)
        | (refine all_ix0 ?_; intro q hq; (try rw [hq] at h); cbv)
        | (intro off' n' ho hn'; obtain rfl : off' = _ := ho; (try replace hn' := cut_len hn' (by assumption)); (try replace hn' := cut_len0 hn'); cbv))
    | ((with_reducible show ∀ _ : List V, _)
       first
        | (refine @all_rd _ _ eI rd ?_ ?_ ?_ _ _ _ (fun _ _ => rfl) ?_ ?_ ?_ ?_ ?_ ?_
           rotate_left 3
           assumption
           assumption
           (first | rfl | assumption)
           (first | assumption | exact lt_ix (by assumption) (by assumption) (by assumption) | exact lt_ix2 (by assumption) (by assumption) (by assumption) (by assumption) | exact lt_y (by assumption) (by assumption) | exact le_y (by assumption) | exact ge_y (by assumption) | exact cut_le (by assumption) (by assumption) | omega)
           (first | assumption | exact lt_ix (by assumption) (by assumption) (by assumption) | exact lt_ix2 (by assumption) (by assumption) (by assumption) (by assumption) | exact lt_y (by assumption) (by assumption) | exact le_y (by assumption) | exact ge_y (by assumption) | exact cut_le (by assumption) (by assumption) | omega)
           intro z hz
           (try rw [hz] at h); cbv))
    | (obtain ⟨hc, h'⟩ := if_none h; clear h; have h := h'; clear h')
    | (simp only [Option.some.injEq, Prod.mk.injEq] at h; obtain ⟨rfl, rfl⟩ := h)
    | trivial)

def spec_DrawRecordNumbers.f (k : Nat) (l0 : List Int) : Option (Int × Int × Int × Int) := (spec_l1Cur_journalRecord.f k l0 0 0).bind fun bt514 => ((spec_l1Cur_among.f l0 bt514.2.2.2.1 bt514.2.2.2.2 (([40, (-1)] : List Int))).bind fun bt522 => ((spec_l1Cur_among.f l0 bt522.2.1 bt522.2.2 (([0, 1, 7, 39, bt522.1] : List Int))).bind fun bt528 => (some (bt514.1, bt514.2.1, bt514.2.2.1, bt528.1))))

theorem spec_DrawRecordNumbers_ok (k : Nat) (l0 : List Int) (r0 : Int) (r1 : Int) (r2 : Int) (r3 : Int) (h : spec_DrawRecordNumbers.f k l0 = some (r0, r1, r2, r3)) (n_l0 : Nat) (hn_l0 : l0.length = n_l0) (g_l0 : Nat → List V) (hg_l0 : encL eU l0 = g_l0)  : CallOK Try.prog 52 [.fz 1 n_l0 g_l0] [] (.tup [.agg [.val (.int .i64 r0), .val (.int .i64 r1), .val (.int .i64 r2)], .val (.int .i64 r3)]) [] := by
  refine CallOK.of_code tabOK Try.func52 rfl rfl ⟨[], []⟩ ?_
  unfold spec_DrawRecordNumbers.f at h
  obtain ⟨P, hP⟩ : ∃ P, Try.prog = P := ⟨_, rfl⟩
  rw [hP]
  (try rw [hn_l0] at h); skip
  cbv
  repeat' (first
    | ((with_reducible show ∃ _, _)
       first
        | (refine ⟨trivial, ?_⟩; cbv)
        | (refine side (by first | with_reducible eq_refl | assumption | (intro _ _; with_reducible eq_refl) | exact lt_ix (by assumption) (by assumption) (by assumption) | exact lt_ix2 (by assumption) (by assumption) (by assumption) (by assumption) | exact lt_y (by assumption) (by assumption) | exact le_y (by assumption) | exact ge_y (by assumption) | exact cut_le (by assumption) (by assumption) | omega) ?_; (try cbv))
        | (refine ⟨.dead, ?_⟩; cbv)
        | (refine ⟨Frz.own, ?_⟩; cbv))
    | ((with_reducible show ∃ _ : List Nat, _)
       first
        | ((with_reducible (have h0 : Option.bind (spec_l1Cur_among.f _ _ _ _) _ = some _ := h; clear h0))
           refine ⟨[1], ?_⟩; cbv
           repeat (first | (refine all_show (by first | omega | decide) ?_; cbv) | (refine all_showT (by assumption) (by assumption) (by assumption) (by first | assumption | exact lt_ix (by assumption) (by assumption) (by assumption) | exact lt_ix2 (by assumption) (by assumption) (by assumption) (by assumption) | exact lt_y (by assumption) (by assumption) | exact le_y (by assumption) | exact ge_y (by assumption) | exact cut_le (by assumption) (by assumption) | omega) (by first | assumption | exact cut_hi (by assumption) | exact cut_hi2 (by assumption) (by assumption) | omega) ?_; intro D hD hnD g hgD; (try rw [hD] at h); cbv))
           obtain ⟨⟨t0, t1, t2⟩, ht, h'⟩ := bind_some h
           clear h; have h := h'; clear h'; (try dsimp only at h)
           refine ⟨_, _, (hP ▸ spec_l1Cur_among_ok _ _ _ _ _ _ _ ht _ (by first | assumption | rfl) _ (by assumption) _ (by first | assumption | rfl) _ (by assumption)  : CallOK P 136 _ _ _ _), ?_⟩; cbv)
        | ((with_reducible (have h0 : Option.bind (spec_l1Cur_journalRecord.f _ _ _ _) _ = some _ := h; clear h0))
           refine ⟨[1], ?_⟩; cbv
           repeat (first | (refine all_show (by first | omega | decide) ?_; cbv) | (refine all_showT (by assumption) (by assumption) (by assumption) (by first | assumption | exact lt_ix (by assumption) (by assumption) (by assumption) | exact lt_ix2 (by assumption) (by assumption) (by assumption) (by assumption) | exact lt_y (by assumption) (by assumption) | exact le_y (by assumption) | exact ge_y (by assumption) | exact cut_le (by assumption) (by assumption) | omega) (by first | assumption | exact cut_hi (by assumption) | exact cut_hi2 (by assumption) (by assumption) | omega) ?_; intro D hD hnD g hgD; (try rw [hD] at h); cbv))
           obtain ⟨⟨t0, t1, t2, t3, t4⟩, ht, h'⟩ := bind_some h
           clear h; have h := h'; clear h'; (try dsimp only at h)
           refine ⟨_, _, (hP ▸ spec_l1Cur_journalRecord_ok _ _ _ _ _ _ _ _ _ ht _ (by first | assumption | rfl) _ (by assumption)  : CallOK P 163 _ _ _ _), ?_⟩; cbv))
    | ((with_reducible show ∃ _ : Nat → List V, _)
       first
        | (refine all_buildI2 ?_; intro g_b hg_b; cbv)
        | (refine all_buildI5 ?_; intro g_b hg_b; cbv))
    | (simp only [Option.some.injEq, Prod.mk.injEq] at h; obtain ⟨rfl, rfl, rfl, rfl⟩ := h)
    | trivial)

def impl_RecordNumbers.f (a0_0 : Int) (a0_1 : Int) (a0_2 : Int) (a1 : Int) : Option (List Int × Bool) := (impl_IsJournalRecord.f a0_0 a0_1 a0_2).bind fun t532 => (if t532 = true then (if a1 < 0 then (some (([] : List Int), false)) else (if a1 ≥ 40 then (some (([] : List Int), false)) else ((impl_recordNumbers.f a0_0 a0_1 a0_2 a1).bind fun t533 => (some (t533, true))))) else (some (([] : List Int), false)))

theorem impl_RecordNumbers_ok  (a0_0 : Int) (a0_1 : Int) (a0_2 : Int) (a1 : Int) (r0 : List Int) (r1 : Bool) (h : impl_RecordNumbers.f a0_0 a0_1 a0_2 a1 = some (r0, r1))  (n_r0 : Nat) (hn_r0 : r0.length = n_r0) (g_r0 : Nat → List V) (hg_r0 : encL eI r0 = g_r0) : CallOK Try.prog 53 [.agg [.val (.int .i64 a0_0), .val (.int .i64 a0_1), .val (.int .i64 a0_2)], .val (.int .i64 a1)] [] (.tup [.row 0 0 n_r0, .val (.bool r1)]) [.row 3 1 n_r0 g_r0] := by
  refine CallOK.of_code tabOK Try.func53 rfl rfl ⟨[(2, []), (3, [1, 2])], []⟩ ?_
  unfold impl_RecordNumbers.f at h
  obtain ⟨P, hP⟩ : ∃ P, Try.prog = P := ⟨_, rfl⟩
  rw [hP]
  skip
  cbv
  repeat' (first
    | ((with_reducible show ∃ _, _)
       first
        | (refine ⟨trivial, ?_⟩; cbv)
        | (refine side (by first | with_reducible eq_refl | assumption | (intro _ _; with_reducible eq_refl) | exact lt_ix (by assumption) (by assumption) (by assumption) | exact lt_ix2 (by assumption) (by assumption) (by assumption) (by assumption) | exact lt_y (by assumption) (by assumption) | exact le_y (by assumption) | exact ge_y (by assumption) | exact cut_le (by assumption) (by assumption) | omega) ?_; (try cbv))
        | (refine bind_side (Eq.refl _) ?_; (try cbv))
        | (refine ⟨.kept, side (Eq.refl _) (side (by first | trivial | exact ⟨clean_enc (by assumption) (by assumption) (fun _ => rfl), trivial⟩) ?_)⟩; cbv)
        | (refine ⟨Frz.own, ?_⟩; cbv)
        | (refine ⟨.row, ?_⟩; cbv))
    | ((with_reducible show ∃ _ : List Nat, _)
       first
        | ((with_reducible (have h0 : Option.bind (impl_IsJournalRecord.f _ _ _) _ = some _ := h; clear h0))
           refine ⟨[], ?_⟩; cbv
           repeat (first | (refine all_show (by first | omega | decide) ?_; cbv) | (refine all_showT (by assumption) (by assumption) (by assumption) (by first | assumption | exact lt_ix (by assumption) (by assumption) (by assumption) | exact lt_ix2 (by assumption) (by assumption) (by assumption) (by assumption) | exact lt_y (by assumption) (by assumption) | exact le_y (by assumption) | exact ge_y (by assumption) | exact cut_le (by assumption) (by assumption) | omega) (by first | assumption | exact cut_hi (by assumption) | exact cut_hi2 (by assumption) (by assumption) | omega) ?_; intro D hD hnD g hgD; (try rw [hD] at h); cbv))
           obtain ⟨t, ht, h'⟩ := bind_some h
           clear h; have h := h'; clear h'; (try dsimp only at h)
           refine ⟨_, _, (hP ▸ impl_IsJournalRecord_ok _ _ _ _ ht   : CallOK P 57 _ _ _ _), ?_⟩
           rcases t with _ | _ <;> (try simp only [bs, eq_self, if_true, if_false, reduceIte] at h) <;> (try (cases h; done)) <;> cbv)
        | ((with_reducible (have h0 : Option.bind (impl_recordNumbers.f _ _ _ _) _ = some _ := h; clear h0))
           refine ⟨[], ?_⟩; cbv
           repeat (first | (refine all_show (by first | omega | decide) ?_; cbv) | (refine all_showT (by assumption) (by assumption) (by assumption) (by first | assumption | exact lt_ix (by assumption) (by assumption) (by assumption) | exact lt_ix2 (by assumption) (by assumption) (by assumption) (by assumption) | exact lt_y (by assumption) (by assumption) | exact le_y (by assumption) | exact ge_y (by assumption) | exact cut_le (by assumption) (by assumption) | omega) (by first | assumption | exact cut_hi (by assumption) | exact cut_hi2 (by assumption) (by assumption) | omega) ?_; intro D hD hnD g hgD; (try rw [hD] at h); cbv))
           obtain ⟨t, ht, h'⟩ := bind_some h
           clear h; have h := h'; clear h'; (try dsimp only at h)
           obtain ⟨n_c164_0, hn_c164_0⟩ : ∃ n, t.length = n := ⟨_, rfl⟩; obtain ⟨g_t, hg_c164_0⟩ : ∃ g, encL eI t = g := ⟨_, rfl⟩; (try rw [hn_c164_0] at h)
           refine ⟨_, _, (hP ▸ impl_recordNumbers_ok _ _ _ _ _ ht  _ hn_c164_0 _ hg_c164_0 : CallOK P 164 _ _ _ _), ?_⟩; cbv))
    | ((with_reducible show ∀ _ : Bool, _)
       first
        | (refine all_lt ?_ ?_ <;> (intro hd; first | exact absurd rfl hd | ((first | rw [if_pos hd] at h | rw [if_neg hd] at h | rw [if_pos (by omega)] at h | rw [if_neg (by omega)] at h | skip); (first | (rw [decide_eq_true hd] at h; (try simp only [bs, eq_self, if_true, if_false, reduceIte] at h)) | (rw [decide_eq_false hd] at h; (try simp only [bs, eq_self, if_true, if_false, reduceIte] at h)) | skip); cbv)))
        | (refine all_le ?_ ?_ <;> (intro hd; first | exact absurd rfl hd | ((first | rw [if_pos hd] at h | rw [if_neg hd] at h | rw [if_pos (by omega)] at h | rw [if_neg (by omega)] at h | skip); (first | (rw [decide_eq_true hd] at h; (try simp only [bs, eq_self, if_true, if_false, reduceIte] at h)) | (rw [decide_eq_false hd] at h; (try simp only [bs, eq_self, if_true, if_false, reduceIte] at h)) | skip); cbv))))
    | (simp only [Option.some.injEq, Prod.mk.injEq] at h; obtain ⟨rfl, rfl⟩ := h)
    | ((with_reducible show ∃ _, _)
       refine side (by first | exact enc_same (by assumption) (by assumption) _ | exact take_s1 (by assumption) (by assumption) (by assumption) | exact take_s2 (by assumption) (by assumption) (by assumption) (by assumption) (by assumption) | exact take_s3 (by assumption) (by assumption) (by assumption) | exact take_s4 (by assumption) (by assumption) (by assumption) | (intro k hk; subst_vars; first | eq_refl | exact enc_drop | exact enc_take hk | exact absurd hk (Nat.not_lt_zero k)) | (subst_vars; first | eq_refl | (simp; done) | (simp; omega)) | (have h1 : Int.toNat 1 = 1 := rfl; have h2 := one_le (by assumption) (by assumption); simp only [List.length_append, List.length_nil, List.length_drop, h1] at *; omega) | (simp only [Nat.cast] at *; omega)) ?_; (try cbv)))

def spec_RecordNumbers.f (a0_0 : Int) (a0_1 : Int) (a0_2 : Int) (a1 : Int) : Option (List Int × Bool) := (spec_jrRecord.f a0_0 a0_1 a0_2).bind fun t537 => (if t537 = true then ((spec_l1In.f a1 0 39).bind fun t538 => (if t538 = true then ((spec_jrOf.f a0_0 a0_1 a0_2 a1).bind fun t539 => (some (t539, true))) else (some (([] : List Int), false)))) else (some (([] : List Int), false)))

theorem spec_RecordNumbers_ok  (a0_0 : Int) (a0_1 : Int) (a0_2 : Int) (a1 : Int) (r0 : List Int) (r1 : Bool) (h : spec_RecordNumbers.f a0_0 a0_1 a0_2 a1 = some (r0, r1))  (n_r0 : Nat) (hn_r0 : r0.length = n_r0) (g_r0 : Nat → List V) (hg_r0 : encL eI r0 = g_r0) : CallOK Try.prog 54 [.agg [.val (.int .i64 a0_0), .val (.int .i64 a0_1), .val (.int .i64 a0_2)], .val (.int .i64 a1)] [] (.tup [.row 0 0 n_r0, .val (.bool r1)]) [.row 3 1 n_r0 g_r0] := by
  refine CallOK.of_code tabOK Try.func54 rfl rfl ⟨[(3, [1, 2])], []⟩ ?_
  unfold spec_RecordNumbers.f at h
  obtain ⟨P, hP⟩ : ∃ P, Try.prog = P := ⟨_, rfl⟩
  rw [hP]
  skip
  cbv
  repeat' (first
    | ((with_reducible show ∃ _, _)
       first
        | (refine ⟨trivial, ?_⟩; cbv)
        | (refine side (by first | with_reducible eq_refl | assumption | (intro _ _; with_reducible eq_refl) | exact lt_ix (by assumption) (by assumption) (by assumption) | exact lt_ix2 (by assumption) (by assumption) (by assumption) (by assumption) | exact lt_y (by assumption) (by assumption) | exact le_y (by assumption) | exact ge_y (by assumption) | exact cut_le (by assumption) (by assumption) | omega) ?_; (try cbv))
        | (refine bind_side (Eq.refl _) ?_; (try cbv))
        | (refine ⟨.kept, side (Eq.refl _) (side (by first | trivial | exact ⟨clean_enc (by assumption) (by assumption) (fun _ => rfl), trivial⟩) ?_)⟩; cbv)
        | (refine ⟨Frz.own, ?_⟩; cbv)
        | (refine ⟨.row, ?_⟩; cbv))
    | ((with_reducible show ∃ _ : List Nat, _)
       first
        | ((with_reducible (have h0 : Option.bind (spec_l1In.f _ _ _) _ = some _ := h; clear h0))
           refine ⟨[], ?_⟩; cbv
           repeat (first | (refine all_show (by first | omega | decide) ?_; cbv) | (refine all_showT (by assumption) (by assumption) (by assumption) (by first | assumption | exact lt_ix (by assumption) (by assumption) (by assumption) | exact lt_ix2 (by assumption) (by assumption) (by assumption) (by assumption) | exact lt_y (by assumption) (by assumption) | exact le_y (by assumption) | exact ge_y (by assumption) | exact cut_le (by assumption) (by assumption) | omega) (by first | assumption | exact cut_hi (by assumption) | exact cut_hi2 (by assumption) (by assumption) | omega) ?_; intro D hD hnD g hgD; (try rw [hD] at h); cbv))
           obtain ⟨t, ht, h'⟩ := bind_some h
           clear h; have h := h'; clear h'; (try dsimp only at h)
           refine ⟨_, _, (hP ▸ spec_l1In_ok _ _ _ _ ht   : CallOK P 155 _ _ _ _), ?_⟩
           rcases t with _ | _ <;> (try simp only [bs, eq_self, if_true, if_false, reduceIte] at h) <;> (try (cases h; done)) <;> cbv)
        | ((with_reducible (have h0 : Option.bind (spec_jrRecord.f _ _ _) _ = some _ := h; clear h0))
           refine ⟨[], ?_⟩; cbv
           repeat (first | (refine all_show (by first | omega | decide) ?_; cbv) | (refine all_showT (by assumption) (by assumption) (by assumption) (by first | assumption | exact lt_ix (by assumption) (by assumption) (by assumption) | exact lt_ix2 (by assumption) (by assumption) (by assumption) (by assumption) | exact lt_y (by assumption) (by assumption) | exact le_y (by assumption) | exact ge_y (by assumption) | exact cut_le (by assumption) (by assumption) | omega) (by first | assumption | exact cut_hi (by assumption) | exact cut_hi2 (by assumption) (by assumption) | omega) ?_; intro D hD hnD g hgD; (try rw [hD] at h); cbv))
           obtain ⟨t, ht, h'⟩ := bind_some h
           clear h; have h := h'; clear h'; (try dsimp only at h)
           refine ⟨_, _, (hP ▸ spec_jrRecord_ok _ _ _ _ ht   : CallOK P 165 _ _ _ _), ?_⟩
           rcases t with _ | _ <;> (try simp only [bs, eq_self, if_true, if_false, reduceIte] at h) <;> (try (cases h; done)) <;> cbv)
        | ((with_reducible (have h0 : Option.bind (spec_jrOf.f _ _ _ _) _ = some _ := h; clear h0))
           refine ⟨[], ?_⟩; cbv
           repeat (first | (refine all_show (by first | omega | decide) ?_; cbv) | (refine all_showT (by assumption) (by assumption) (by assumption) (by first | assumption | exact lt_ix (by assumption) (by assumption) (by assumption) | exact lt_ix2 (by assumption) (by assumption) (by assumption) (by assumption) | exact lt_y (by assumption) (by assumption) | exact le_y (by assumption) | exact ge_y (by assumption) | exact cut_le (by assumption) (by assumption) | omega) (by first | assumption | exact cut_hi (by assumption) | exact cut_hi2 (by assumption) (by assumption) | omega) ?_; intro D hD hnD g hgD; (try rw [hD] at h); cbv))
           obtain ⟨t, ht, h'⟩ := bind_some h
           clear h; have h := h'; clear h'; (try dsimp only at h)
           obtain ⟨n_c166_0, hn_c166_0⟩ : ∃ n, t.length = n := ⟨_, rfl⟩; obtain ⟨g_t, hg_c166_0⟩ : ∃ g, encL eI t = g := ⟨_, rfl⟩; (try rw [hn_c166_0] at h)
           refine ⟨_, _, (hP ▸ spec_jrOf_ok _ _ _ _ _ ht  _ hn_c166_0 _ hg_c166_0 : CallOK P 166 _ _ _ _), ?_⟩; cbv))
    | (simp only [Option.some.injEq, Prod.mk.injEq] at h; obtain ⟨rfl, rfl⟩ := h)
    | ((with_reducible show ∃ _, _)
       refine side (by first | exact enc_same (by assumption) (by assumption) _ | exact take_s1 (by assumption) (by assumption) (by assumption) | exact take_s2 (by assumption) (by assumption) (by assumption) (by assumption) (by assumption) | exact take_s3 (by assumption) (by assumption) (by assumption) | exact take_s4 (by assumption) (by assumption) (by assumption) | (intro k hk; subst_vars; first | eq_refl | exact enc_drop | exact enc_take hk | exact absurd hk (Nat.not_lt_zero k)) | (subst_vars; first | eq_refl | (simp; done) | (simp; omega)) | (have h1 : Int.toNat 1 = 1 := rfl; have h2 := one_le (by assumption) (by assumption); simp only [List.length_append, List.length_nil, List.length_drop, h1] at *; omega) | (simp only [Nat.cast] at *; omega)) ?_; (try cbv)))

def spec_DrawRecoverRecords.f (k : Nat) (l0 : List Int) : Option (List Int) := (spec_l1Cur_numbers.f k l0 0 0).bind fun bt543 => (some bt543.1)

theorem spec_DrawRecoverRecords_ok (k : Nat) (l0 : List Int) (r0 : List Int) (h : spec_DrawRecoverRecords.f k l0 = some r0) (n_l0 : Nat) (hn_l0 : l0.length = n_l0) (g_l0 : Nat → List V) (hg_l0 : encL eU l0 = g_l0) (n_r0 : Nat) (hn_r0 : r0.length = n_r0) (g_r0 : Nat → List V) (hg_r0 : encL eI r0 = g_r0) : CallOK Try.prog 55 [.fz 1 n_l0 g_l0] [] (.row 0 0 n_r0) [.row 3 1 n_r0 g_r0] := by
  refine CallOK.of_code tabOK Try.func55 rfl rfl ⟨[], []⟩ ?_
  unfold spec_DrawRecoverRecords.f at h
  obtain ⟨P, hP⟩ : ∃ P, Try.prog = P := ⟨_, rfl⟩
  rw [hP]
  (try rw [hn_l0] at h); skip
  cbv
  repeat' (first
    | ((with_reducible show ∃ _, _)
       first
        | (refine ⟨trivial, ?_⟩; cbv)
        | (refine side (by first | with_reducible eq_refl | assumption | (intro _ _; with_reducible eq_refl) | exact lt_ix (by assumption) (by assumption) (by assumption) | exact lt_ix2 (by assumption) (by assumption) (by assumption) (by assumption) | exact lt_y (by assumption) (by assumption) | exact le_y (by assumption) | exact ge_y (by assumption) | exact cut_le (by assumption) (by assumption) | omega) ?_; (try cbv))
        | (refine bind_side (Eq.refl _) ?_; (try cbv))
        | (refine ⟨Frz.own, ?_⟩; cbv)
        | (refine ⟨.row, ?_⟩; cbv))
    | ((with_reducible show ∃ _ : List Nat, _)
       first
        | ((with_reducible (have h0 : Option.bind (spec_l1Cur_numbers.f _ _ _ _) _ = some _ := h; clear h0))
           refine ⟨[1], ?_⟩; cbv
           repeat (first | (refine all_show (by first | omega | decide) ?_; cbv) | (refine all_showT (by assumption) (by assumption) (by assumption) (by first | assumption | exact lt_ix (by assumption) (by assumption) (by assumption) | exact lt_ix2 (by assumption) (by assumption) (by assumption) (by assumption) | exact lt_y (by assumption) (by assumption) | exact le_y (by assumption) | exact ge_y (by assumption) | exact cut_le (by assumption) (by assumption) | omega) (by first | assumption | exact cut_hi (by assumption) | exact cut_hi2 (by assumption) (by assumption) | omega) ?_; intro D hD hnD g hgD; (try rw [hD] at h); cbv))
           obtain ⟨⟨t0, t1, t2⟩, ht, h'⟩ := bind_some h
           clear h; have h := h'; clear h'; (try dsimp only at h)
           obtain ⟨n_c147_0, hn_c147_0⟩ : ∃ n, t0.length = n := ⟨_, rfl⟩; obtain ⟨g_t, hg_c147_0⟩ : ∃ g, encL eI t0 = g := ⟨_, rfl⟩; (try rw [hn_c147_0] at h)
           refine ⟨_, _, (hP ▸ spec_l1Cur_numbers_ok _ _ _ _ _ _ _ ht _ (by first | assumption | rfl) _ (by assumption) _ hn_c147_0 _ hg_c147_0 : CallOK P 147 _ _ _ _), ?_⟩; cbv))
    | (simp only [Option.some.injEq, Prod.mk.injEq] at h; subst h)
    | ((with_reducible show ∃ _, _)
       refine side (by first | exact enc_same (by assumption) (by assumption) _ | exact take_s1 (by assumption) (by assumption) (by assumption) | exact take_s2 (by assumption) (by assumption) (by assumption) (by assumption) (by assumption) | exact take_s3 (by assumption) (by assumption) (by assumption) | exact take_s4 (by assumption) (by assumption) (by assumption) | (intro k hk; subst_vars; first | eq_refl | exact enc_drop | exact enc_take hk | exact absurd hk (Nat.not_lt_zero k)) | (subst_vars; first | eq_refl | (simp; done) | (simp; omega)) | (have h1 : Int.toNat 1 = 1 := rfl; have h2 := one_le (by assumption) (by assumption); simp only [List.length_append, List.length_nil, List.length_drop, h1] at *; omega) | (simp only [Nat.cast] at *; omega)) ?_; (try cbv)))

def spec_DrawIsJournalRecord.f (k : Nat) (l0 : List Int) : Option (Int × Int × Int) := (spec_l1Cur_journalRecord.f k l0 0 0).bind fun bt550 => (some (bt550.1, bt550.2.1, bt550.2.2.1))

theorem spec_DrawIsJournalRecord_ok (k : Nat) (l0 : List Int) (r0 : Int) (r1 : Int) (r2 : Int) (h : spec_DrawIsJournalRecord.f k l0 = some (r0, r1, r2)) (n_l0 : Nat) (hn_l0 : l0.length = n_l0) (g_l0 : Nat → List V) (hg_l0 : encL eU l0 = g_l0)  : CallOK Try.prog 56 [.fz 1 n_l0 g_l0] [] (.agg [.val (.int .i64 r0), .val (.int .i64 r1), .val (.int .i64 r2)]) [] := by
  refine CallOK.of_code tabOK Try.func56 rfl rfl ⟨[], []⟩ ?_
  unfold spec_DrawIsJournalRecord.f at h
  obtain ⟨P, hP⟩ : ∃ P, Try.prog = P := ⟨_, rfl⟩
  rw [hP]
  (try rw [hn_l0] at h); skip
  cbv
  repeat' (first
    | ((with_reducible show ∃ _, _)
       first
        | (refine ⟨trivial, ?_⟩; cbv)
        | (refine side (by first | with_reducible eq_refl | assumption | (intro _ _; with_reducible eq_refl) | exact lt_ix (by assumption) (by assumption) (by assumption) | exact lt_ix2 (by assumption) (by assumption) (by assumption) (by assumption) | exact lt_y (by assumption) (by assumption) | exact le_y (by assumption) | exact ge_y (by assumption) | exact cut_le (by assumption) (by assumption) | omega) ?_; (try cbv))
        | (refine ⟨Frz.own, ?_⟩; cbv))
    | ((with_reducible show ∃ _ : List Nat, _)
       first
        | ((with_reducible (have h0 : Option.bind (spec_l1Cur_journalRecord.f _ _ _ _) _ = some _ := h; clear h0))
           refine ⟨[1], ?_⟩; cbv
           repeat (first | (refine all_show (by first | omega | decide) ?_; cbv) | (refine all_showT (by assumption) (by assumption) (by assumption) (by first | assumption | exact lt_ix (by assumption) (by assumption) (by assumption) | exact lt_ix2 (by assumption) (by assumption) (by assumption) (by assumption) | exact lt_y (by assumption) (by assumption) | exact le_y (by assumption) | exact ge_y (by assumption) | exact cut_le (by assumption) (by assumption) | omega) (by first | assumption | exact cut_hi (by assumption) | exact cut_hi2 (by assumption) (by assumption) | omega) ?_; intro D hD hnD g hgD; (try rw [hD] at h); cbv))
           obtain ⟨⟨t0, t1, t2, t3, t4⟩, ht, h'⟩ := bind_some h
           clear h; have h := h'; clear h'; (try dsimp only at h)
           refine ⟨_, _, (hP ▸ spec_l1Cur_journalRecord_ok _ _ _ _ _ _ _ _ _ ht _ (by first | assumption | rfl) _ (by assumption)  : CallOK P 163 _ _ _ _), ?_⟩; cbv))
    | (simp only [Option.some.injEq, Prod.mk.injEq] at h; obtain ⟨rfl, rfl, rfl⟩ := h)
    | trivial)

def spec_IsJournalRecord.f (a0_0 : Int) (a0_1 : Int) (a0_2 : Int) : Option (Bool) := (spec_jrRecord.f a0_0 a0_1 a0_2).bind fun t556 => (some t556)

theorem spec_IsJournalRecord_ok  (a0_0 : Int) (a0_1 : Int) (a0_2 : Int) (r0 : Bool) (h : spec_IsJournalRecord.f a0_0 a0_1 a0_2 = some r0)   : CallOK Try.prog 58 [.agg [.val (.int .i64 a0_0), .val (.int .i64 a0_1), .val (.int .i64 a0_2)]] [] (.val (.bool r0)) [] := by
  refine CallOK.of_code tabOK Try.func58 rfl rfl ⟨[], []⟩ ?_
  unfold spec_IsJournalRecord.f at h
  obtain ⟨P, hP⟩ : ∃ P, Try.prog = P := ⟨_, rfl⟩
  rw [hP]
  skip
  cbv
  repeat' (first
    | ((with_reducible show ∃ _, _)
       first
        | (refine side (by first | with_reducible eq_refl | assumption | (intro _ _; with_reducible eq_refl) | exact lt_ix (by assumption) (by assumption) (by assumption) | exact lt_ix2 (by assumption) (by assumption) (by assumption) (by assumption) | exact lt_y (by assumption) (by assumption) | exact le_y (by assumption) | exact ge_y (by assumption) | exact cut_le (by assumption) (by assumption) | omega) ?_; (try cbv))
        | (refine ⟨Frz.own, ?_⟩; cbv))
    | ((with_reducible show ∃ _ : List Nat, _)
       first
        | ((with_reducible (have h0 : Option.bind (spec_jrRecord.f _ _ _) _ = some _ := h; clear h0))
           refine ⟨[], ?_⟩; cbv
           repeat (first | (refine all_show (by first | omega | decide) ?_; cbv) | (refine all_showT (by assumption) (by assumption) (by assumption) (by first | assumption | exact lt_ix (by assumption) (by assumption) (by assumption) | exact lt_ix2 (by assumption) (by assumption) (by assumption) (by assumption) | exact lt_y (by assumption) (by assumption) | exact le_y (by assumption) | exact ge_y (by assumption) | exact cut_le (by assumption) (by assumption) | omega) (by first | assumption | exact cut_hi (by assumption) | exact cut_hi2 (by assumption) (by assumption) | omega) ?_; intro D hD hnD g hgD; (try rw [hD] at h); cbv))
           obtain ⟨t, ht, h'⟩ := bind_some h
           clear h; have h := h'; clear h'; (try dsimp only at h)
           refine ⟨_, _, (hP ▸ spec_jrRecord_ok _ _ _ _ ht   : CallOK P 165 _ _ _ _), ?_⟩
           rcases t with _ | _ <;> (try simp only [bs, eq_self, if_true, if_false, reduceIte] at h) <;> (try (cases h; done)) <;> cbv))
    | (simp only [Option.some.injEq, Prod.mk.injEq] at h; subst h)
    | trivial)

end Go.Proofs.Ythhoobpmjgpkkaa.E
