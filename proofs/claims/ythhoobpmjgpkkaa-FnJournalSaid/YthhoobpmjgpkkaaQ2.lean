/- The functions and what they answer, proved over the engine; printed by a program. -/
import Derived.Test.YthhoobpmjgpkkaaQ1
set_option linter.unusedVariables false
set_option linter.unusedSimpArgs false
set_option maxRecDepth 10000
set_option maxHeartbeats 40000000
namespace Go.Proofs.Ythhoobpmjgpkkaa.E
open Go Go.Sim Go.Proofs Go.RowKit Go.Proofs.YthhoobpmjgpkkaaW.PrintWords Go.Proofs.YthhoobpmjgpkkaaW.PrintMore
def impl_CompactJournal.l0 : Nat → List (S72) → List Int → Int → Int → Option ((List (S72)) × Bool)
  | 0, _, _, _, _ => none
  | k + 1, x4, x12, x13, x14 => if x14 < x13 then (if 0 ≤ x14 then (if x14 < (x12.length : Int) then (if (rd x12 x14) ≥ 0 then (if x4.length < 5864062014805 then (impl_CompactJournal.l0 k (x4 ++ [(⟨1, x14, rd x12 x14⟩ : S72)]) x12 x13 (wrap64 (x14 + 1))) else (none)) else (impl_CompactJournal.l0 k x4 x12 x13 (wrap64 (x14 + 1)))) else (none)) else (none)) else (if (x4.length : Int) > 0 then (if x4.length < 5864062014805 then (some ((x4 ++ [(⟨2, 0, 0⟩ : S72)]), true)) else (none)) else (some (x4, true)))
def impl_CompactJournal.f (k : Nat) (l0 : List (S72)) : Option ((List (S72)) × Bool) := (impl_areRecords.f k l0).bind fun t828 => (if t828 = true then ((impl_committedValues.f k l0).bind fun t832 => (impl_CompactJournal.l0 k (([] : List (S72))) t832 (t832.length : Int) 0)) else (some (([] : List (S72)), false)))

theorem impl_CompactJournal_ok (k : Nat) (l0 : List (S72)) (r0 : (List (S72))) (r1 : Bool) (h : impl_CompactJournal.f k l0 = some (r0, r1)) (n_l0 : Nat) (hn_l0 : l0.length = n_l0) (g_l0 : Nat → List V) (hg_l0 : encL e72 l0 = g_l0) (n_r0 : Nat) (hn_r0 : r0.length = n_r0) (g_r0 : Nat → List V) (hg_r0 : encL e72 r0 = g_r0) : CallOK Try.prog 77 [.fz 3 n_l0 g_l0] [] (.tup [.row 0 0 n_r0, .val (.bool r1)]) [.row 72 3 n_r0 g_r0] := by
  refine CallOK.of_code tabOK Try.func77 rfl rfl ⟨[(8, [4, 5, 6, 12, 13, 14]), (9, [4, 12, 13, 14]), (10, [4])], []⟩ ?_
  unfold impl_CompactJournal.f at h
  obtain ⟨P, hP⟩ : ∃ P, Try.prog = P := ⟨_, rfl⟩
  rw [hP]
  (try rw [hn_l0] at h); skip
  cbv
  repeat' (first
    | ((with_reducible show ∃ _, _)
       first
        | (refine ⟨trivial, ?_⟩; cbv)
        | (refine all_show (by first | omega | decide) ?_; cbv)
        | (refine side (by first | with_reducible eq_refl | assumption | (intro _ _; with_reducible eq_refl) | exact lt_ix (by assumption) (by assumption) (by assumption) | exact lt_ix2 (by assumption) (by assumption) (by assumption) (by assumption) | exact lt_y (by assumption) (by assumption) | exact le_y (by assumption) | exact ge_y (by assumption) | exact cut_le (by assumption) (by assumption) | omega | (dsimp only; omega)) ?_; (try cbv))
        | (refine bind_side (Eq.refl _) ?_; (try cbv))
        | (refine agree_side (Eq.refl _) ?_; (try cbv))
        | (refine agree_weak (Eq.refl _) ?_; (try cbv))
        | (refine ⟨.kept, side (Eq.refl _) (side (by first | trivial | exact ⟨clean_enc (by assumption) (by assumption) (fun _ => rfl), trivial⟩) ?_)⟩; cbv)
        | (refine ⟨.dead, ?_⟩; cbv)
        | (refine ⟨Frz.own, ?_⟩; cbv)
        | (refine ⟨.row, ?_⟩; cbv))
    | ((with_reducible show ∃ _ : Nat, _)
       first
        | (refine ⟨_, [4, 12, 13, 14], Nat.lt_succ_self _, ?_⟩; cbv; exact ⟨_, _, _, _, _, _, _, _, h, by first | assumption | rfl, by first | assumption | rfl, by first | assumption | rfl, by first | assumption | rfl, rfl⟩))
    | ((with_reducible show ∃ _ : List Nat, _)
       first
        | ((with_reducible (have h0 : Option.bind (impl_areRecords.f _ _) _ = some _ := h; clear h0))
           refine ⟨[], ?_⟩; cbv
           repeat (first | (refine all_show (by first | omega | decide) ?_; cbv) | (refine all_showT (by assumption) (by assumption) (by assumption) (by first | assumption | exact lt_ix (by assumption) (by assumption) (by assumption) | exact lt_ix2 (by assumption) (by assumption) (by assumption) (by assumption) | exact lt_y (by assumption) (by assumption) | exact le_y (by assumption) | exact ge_y (by assumption) | exact cut_le (by assumption) (by assumption) | omega) (by first | assumption | exact cut_hi (by assumption) | exact cut_hi2 (by assumption) (by assumption) | exact cut_hi3 (by assumption) | exact cut_hi4 (by assumption) (by assumption) | omega) ?_; intro D hD hnD g hgD; (try rw [hD] at h); cbv))
           obtain ⟨t, ht, h'⟩ := bind_some h
           clear h; have h := h'; clear h'; (try dsimp only at h)
           refine ⟨_, _, (hP ▸ impl_areRecords_ok _ _ _ ht _ (by first | assumption | rfl) _ (by assumption)  : CallOK P 157 _ _ _ _), ?_⟩
           rcases t with _ | _ <;> (try simp only [bs, eq_self, if_true, if_false, reduceIte] at h) <;> (try (cases h; done)) <;> cbv)
        | ((with_reducible (have h0 : Option.bind (impl_committedValues.f _ _) _ = some _ := h; clear h0))
           refine ⟨[], ?_⟩; cbv
           repeat (first | (refine all_show (by first | omega | decide) ?_; cbv) | (refine all_showT (by assumption) (by assumption) (by assumption) (by first | assumption | exact lt_ix (by assumption) (by assumption) (by assumption) | exact lt_ix2 (by assumption) (by assumption) (by assumption) (by assumption) | exact lt_y (by assumption) (by assumption) | exact le_y (by assumption) | exact ge_y (by assumption) | exact cut_le (by assumption) (by assumption) | omega) (by first | assumption | exact cut_hi (by assumption) | exact cut_hi2 (by assumption) (by assumption) | exact cut_hi3 (by assumption) | exact cut_hi4 (by assumption) (by assumption) | omega) ?_; intro D hD hnD g hgD; (try rw [hD] at h); cbv))
           obtain ⟨t, ht, h'⟩ := bind_some h
           clear h; have h := h'; clear h'; (try dsimp only at h)
           obtain ⟨n_c159_0, hn_c159_0⟩ : ∃ n, t.length = n := ⟨_, rfl⟩; obtain ⟨g_t, hg_c159_0⟩ : ∃ g, encL eI t = g := ⟨_, rfl⟩; (try rw [hn_c159_0] at h)
           refine ⟨_, _, (hP ▸ impl_committedValues_ok _ _ _ ht _ (by first | assumption | rfl) _ (by assumption) _ hn_c159_0 _ hg_c159_0 : CallOK P 159 _ _ _ _), ?_⟩; cbv))
    | ((with_reducible show ∃ _ : Nat → List V, _)
       first
        | (refine all_g0 ?_; cbv)
        | (refine all_putS eI (by assumption) (by assumption) (by (first | assumption | exact lt_ix (by assumption) (by assumption) (by assumption) | exact lt_ix2 (by assumption) (by assumption) (by assumption) (by assumption) | exact lt_y (by assumption) (by assumption) | exact le_y (by assumption) | exact ge_y (by assumption) | exact cut_le (by assumption) (by assumption) | omega)) rfl (fun _ => rfl) ?_; intro L hL hnL g hgL; (try rw [hL] at h); (try rw [Option.bind_some] at h); (try rw [hnL] at h); cbv)
        | (refine all_putS e72 (x := ⟨_, _, _⟩) (by assumption) (by assumption) (by (first | assumption | exact lt_ix (by assumption) (by assumption) (by assumption) | exact lt_ix2 (by assumption) (by assumption) (by assumption) (by assumption) | exact lt_y (by assumption) (by assumption) | exact le_y (by assumption) | exact ge_y (by assumption) | exact cut_le (by assumption) (by assumption) | omega)) rfl (fun _ => rfl) ?_; intro L hL hnL g hgL; (try rw [hL] at h); (try rw [Option.bind_some] at h); (try rw [hnL] at h); cbv)
        | (refine all_build1 e72 (x := ⟨_, _, _⟩) rfl ?_; intro g_b hg_b; cbv)
        | (refine all_build0 e72 ?_; intro g_b hg_b; cbv))
    | ((with_reducible show ∃ _ : Nat → St → Prop, _)
       first
        | (refine ⟨fun k1 s => ∃ x4 x12 x13 x14 n_x4 g_x4 n_x12 g_x12, impl_CompactJournal.l0 k1 x4 x12 x13 x14 = some (r0, r1) ∧ x4.length = n_x4 ∧ encL e72 x4 = g_x4 ∧ x12.length = n_x12 ∧ encL eI x12 = g_x12 ∧ s = ⟨⟨36, (upd 36 (upd 36 (upd 36 (upd 36 noT 14 (.val (.int .i64 x14))) 13 (.val (.int .i64 x13))) 12 (.row 1 0 n_x12)) 4 (.row 0 0 n_x4))⟩, [.row 72 3 n_x4 g_x4, .row 3 1 n_x12 g_x12]⟩, ?_, [], ?_⟩
           rotate_left
           · cbv; exact ⟨_, [4, 12, 13, 14], by cbv; exact ⟨_, _, _, _, _, _, _, _, h, by first | assumption | rfl, by first | assumption | rfl, by first | assumption | rfl, by first | assumption | rfl, rfl⟩⟩
           clear h
           rintro (_ | k1) s1 ⟨x4, x12, x13, x14, n_x4, g_x4, n_x12, g_x12, h, hn_x4, hg_x4, hn_x12, hg_x12, rfl⟩
           · cases h
           unfold impl_CompactJournal.l0 at h
           (try rw [hn_x4] at h); (try rw [hn_x12] at h); skip
           cbv))
    | ((with_reducible show ∀ _ : Bool, _)
       first
        | (refine all_lt ?_ ?_ <;> (intro hd; first | exact absurd rfl hd | ((first | rw [if_pos hd] at h | rw [if_neg hd] at h | rw [if_pos (by omega)] at h | rw [if_neg (by omega)] at h | skip); (first | (rw [decide_eq_true hd] at h; (try simp only [bs, eq_self, if_true, if_false, reduceIte] at h)) | (rw [decide_eq_false hd] at h; (try simp only [bs, eq_self, if_true, if_false, reduceIte] at h)) | skip); cbv)))
        | (refine all_le ?_ ?_ <;> (intro hd; first | exact absurd rfl hd | ((first | rw [if_pos hd] at h | rw [if_neg hd] at h | rw [if_pos (by omega)] at h | rw [if_neg (by omega)] at h | skip); (first | (rw [decide_eq_true hd] at h; (try simp only [bs, eq_self, if_true, if_false, reduceIte] at h)) | (rw [decide_eq_false hd] at h; (try simp only [bs, eq_self, if_true, if_false, reduceIte] at h)) | skip); cbv)))
        | (refine all_beq ?_ ?_ <;> (intro hd; first | exact absurd rfl hd | ((first | rw [if_pos hd] at h | rw [if_neg hd] at h | rw [if_pos (by omega)] at h | rw [if_neg (by omega)] at h | skip); (first | (rw [beq_pos hd] at h; (try simp only [bs, eq_self, if_true, if_false, reduceIte] at h)) | (rw [beq_neg hd] at h; (try simp only [bs, eq_self, if_true, if_false, reduceIte] at h)) | skip); cbv)))
        | (refine all_bne ?_ ?_ <;> (intro hd; first | exact absurd rfl hd | ((first | rw [if_pos hd] at h | rw [if_neg hd] at h | rw [if_pos (by omega)] at h | rw [if_neg (by omega)] at h | skip); (first | (rw [bne_pos hd] at h; (try simp only [bs, eq_self, if_true, if_false, reduceIte] at h)) | (rw [bne_neg hd] at h; (try simp only [bs, eq_self, if_true, if_false, reduceIte] at h)) | skip); cbv)))
        | (refine all_cells rfl ?_ ?_ <;> (intro hd; (first | (rw [hd] at h; (try simp only [bs, eq_self, if_true, if_false, reduceIte] at h)) | skip); cbv))
        | (refine all_cellsN rfl ?_ ?_ <;> (intro hd; (first | (rw [hd] at h; (try simp only [bs, eq_self, if_true, if_false, reduceIte] at h)) | skip); cbv))
        | (refine all_not_true ?_; cbv)
        | (refine all_not_false ?_; cbv)
        | (refine all_not ?_ ?_ <;> (intro hd; subst hd; (try simp only [bs, eq_self, if_true, if_false, reduceIte] at h); cbv))
        | (refine all_bool ?_ ?_ <;> (intro hd; (try simp only [hd, bs, eq_self, if_true, if_false, reduceIte] at h); cbv)))
    | ((with_reducible show ∀ _ : Int, _)
       first
        | (refine all_u0 ?_; cbv)
        | (refine all_mn ?_; intro y hy; (try rw [hy] at h); cbv)
        | (refine all_mx ?_; intro y hy; (try rw [hy] at h); cbv)
        | (refine all_neg ?_; intro y hy; (try rw [hy] at h); cbv)
        | (refine all_shr40 ?_; intro y hy; (try rw [hy] at h); cbv)
        | (refine all_and ?_; intro y hy; (try rw [hy] at h); cbv)
        | (refine all_wrap_old (by assumption) ?_; cbv)
        | (refine all_wrap ?_; intro y hy; (try rw [hy] at h); cbv)
        | (refine all_len_old (by assumption) ?_; cbv)
        | (refine all_len ?_; intro y hy; (try replace hy : ((_ : Nat) : Int) = y := hy); (try rw [hy] at h); (try rw [show (NatCast.natCast _ : Int) = _ from hy] at h); cbv)
        | (refine all_old (α := Int) (by assumption) ?_; cbv)
        | (refine all_eq (α := Int) ?_; intro y hy; (try replace hy : ((_ : Nat) : Int) = y := hy); (try rw [hy] at h); cbv))
    | ((with_reducible show ∀ _ : Nat, _)
       first
        | (refine @all_cut0 ?_ ?_ ?_ ?_ _ _ _ ?_ ?_ ?_ ?_ ?_
           rotate_left 4
           assumption
           assumption
           (first | assumption | exact lt_ix (by assumption) (by assumption) (by assumption) | exact lt_ix2 (by assumption) (by assumption) (by assumption) (by assumption) | exact lt_y (by assumption) (by assumption) | exact le_y (by assumption) | exact ge_y (by assumption) | exact cut_le (by assumption) (by assumption) | omega)
           (first | assumption | exact cut_hi (by assumption) | exact cut_hi2 (by assumption) (by assumption) | exact cut_hi3 (by assumption) | exact cut_hi4 (by assumption) (by assumption) | omega)
           intro D hD n_D hnD g hgD; (try rw [hD] at h); (try rw [hnD] at h); cbv)
        | (refine @all_cutD ?_ ?_ ?_ ?_ _ _ _ _ ?_ ?_ ?_ ?_ ?_ ?_
           rotate_left 4
           assumption
           assumption
           (first | assumption | exact lt_ix (by assumption) (by assumption) (by assumption) | exact lt_ix2 (by assumption) (by assumption) (by assumption) (by assumption) | exact lt_y (by assumption) (by assumption) | exact le_y (by assumption) | exact ge_y (by assumption) | exact cut_le (by assumption) (by assumption) | omega)
           (first | assumption | exact lt_ix (by assumption) (by assumption) (by assumption) | exact lt_ix2 (by assumption) (by assumption) (by assumption) (by assumption) | exact lt_y (by assumption) (by assumption) | exact le_y (by assumption) | exact ge_y (by assumption) | exact cut_le (by assumption) (by assumption) | omega)
           assumption
           intro D hD n_D hnD g hgD; (try rw [hD] at h); (try rw [hnD] at h); cbv)
        | (refine @all_cut ?_ ?_ ?_ ?_ _ _ _ _ ?_ ?_ ?_ ?_ ?_ ?_
           rotate_left 4
           assumption
           assumption
           (first | assumption | exact lt_ix (by assumption) (by assumption) (by assumption) | exact lt_ix2 (by assumption) (by assumption) (by assumption) (by assumption) | exact lt_y (by assumption) (by assumption) | exact le_y (by assumption) | exact ge_y (by assumption) | exact cut_le (by assumption) (by assumption) | omega)
           (first | assumption | exact lt_ix (by assumption) (by assumption) (by assumption) | exact lt_ix2 (by assumption) (by assumption) (by assumption) (by assumption) | exact lt_y (by assumption) (by assumption) | exact le_y (by assumption) | exact ge_y (by assumption) | exact cut_le (by assumption) (by assumption) | omega)
           (first | assumption | exact cut_hi (by assumption) | exact cut_hi2 (by assumption) (by assumption) | exact cut_hi3 (by assumption) | exact cut_hi4 (by assumption) (by assumption) | omega)
           intro D hD n_D hnD g hgD; (try rw [hD] at h); (try rw [hnD] at h); cbv)
        | (refine all_ix0_old (by assumption) ?_; cbv)
        | (refine all_ix0 ?_; intro q hq; (try rw [hq] at h); cbv)
        | (refine all_app (by first | assumption | exact (rfl : encL _ ([] : List _) = _)) (by first | assumption | rfl) (by assumption) (by first | assumption | rfl) ?_; intro L hL n_L hnL g hgL; (try rw [hL] at h); (try rw [Option.bind_some] at h); (try rw [hnL] at h); cbv)
        | (refine all_appF (by first | assumption | exact (rfl : encL _ ([] : List _) = _)) (by first | assumption | rfl) (by assumption) (by first | assumption | rfl) ?_; intro L hL n_L hnL g hgL; (try rw [hL] at h); (try rw [Option.bind_some] at h); (try rw [hnL] at h); cbv)
        | (refine all_appD (by first | assumption | exact (rfl : encL _ ([] : List _) = _)) (by first | assumption | rfl) (by assumption) (by first | assumption | (simp only [List.length_drop]; omega)) ?_; intro L hL n_L hnL g hgL; (try rw [hL] at h); (try rw [Option.bind_some] at h); (try rw [hnL] at h); cbv)
        | (intro off' n' ho hn'; obtain rfl : off' = _ := ho; (try replace hn' := cut_len hn' (by assumption)); (try replace hn' := cut_len0 hn'); cbv)
        | (refine all_eq (α := Nat) ?_; intro y hy; (try rw [hy] at h); cbv))
    | ((with_reducible show ∀ _ : List V, _)
       first
        | (refine @all_rd_old _ _ eI rd ?_ ?_ ?_ ?_ _ _ _ (fun _ _ => rfl) ?_ ?_ ?_ ?_ ?_ ?_ ?_
           rotate_left 4
           assumption
           assumption
           (first | rfl | assumption)
           (first | assumption | exact lt_ix (by assumption) (by assumption) (by assumption) | exact lt_ix2 (by assumption) (by assumption) (by assumption) (by assumption) | exact lt_y (by assumption) (by assumption) | exact le_y (by assumption) | exact ge_y (by assumption) | exact cut_le (by assumption) (by assumption) | omega)
           (first | assumption | exact lt_ix (by assumption) (by assumption) (by assumption) | exact lt_ix2 (by assumption) (by assumption) (by assumption) (by assumption) | exact lt_y (by assumption) (by assumption) | exact le_y (by assumption) | exact ge_y (by assumption) | exact cut_le (by assumption) (by assumption) | omega)
           assumption
           cbv)
        | (refine @all_rd _ _ eI rd ?_ ?_ ?_ _ _ _ (fun _ _ => rfl) ?_ ?_ ?_ ?_ ?_ ?_
           rotate_left 3
           assumption
           assumption
           (first | rfl | assumption)
           (first | assumption | exact lt_ix (by assumption) (by assumption) (by assumption) | exact lt_ix2 (by assumption) (by assumption) (by assumption) (by assumption) | exact lt_y (by assumption) (by assumption) | exact le_y (by assumption) | exact ge_y (by assumption) | exact cut_le (by assumption) (by assumption) | omega)
           (first | assumption | exact lt_ix (by assumption) (by assumption) (by assumption) | exact lt_ix2 (by assumption) (by assumption) (by assumption) (by assumption) | exact lt_y (by assumption) (by assumption) | exact le_y (by assumption) | exact ge_y (by assumption) | exact cut_le (by assumption) (by assumption) | omega)
           intro z hz
           (try rw [hz] at h); cbv)
        | (refine @all_rd_old _ _ e72 rd_T72 ?_ ?_ ?_ ?_ _ _ _ (fun _ _ => rfl) ?_ ?_ ?_ ?_ ?_ ?_ ?_
           rotate_left 4
           assumption
           assumption
           (first | rfl | assumption)
           (first | assumption | exact lt_ix (by assumption) (by assumption) (by assumption) | exact lt_ix2 (by assumption) (by assumption) (by assumption) (by assumption) | exact lt_y (by assumption) (by assumption) | exact le_y (by assumption) | exact ge_y (by assumption) | exact cut_le (by assumption) (by assumption) | omega)
           (first | assumption | exact lt_ix (by assumption) (by assumption) (by assumption) | exact lt_ix2 (by assumption) (by assumption) (by assumption) (by assumption) | exact lt_y (by assumption) (by assumption) | exact le_y (by assumption) | exact ge_y (by assumption) | exact cut_le (by assumption) (by assumption) | omega)
           assumption
           cbv)
        | (refine @all_rd _ _ e72 rd_T72 ?_ ?_ ?_ _ _ _ (fun _ _ => rfl) ?_ ?_ ?_ ?_ ?_ ?_
           rotate_left 3
           assumption
           assumption
           (first | rfl | assumption)
           (first | assumption | exact lt_ix (by assumption) (by assumption) (by assumption) | exact lt_ix2 (by assumption) (by assumption) (by assumption) (by assumption) | exact lt_y (by assumption) (by assumption) | exact le_y (by assumption) | exact ge_y (by assumption) | exact cut_le (by assumption) (by assumption) | omega)
           (first | assumption | exact lt_ix (by assumption) (by assumption) (by assumption) | exact lt_ix2 (by assumption) (by assumption) (by assumption) (by assumption) | exact lt_y (by assumption) (by assumption) | exact le_y (by assumption) | exact ge_y (by assumption) | exact cut_le (by assumption) (by assumption) | omega)
           intro z hz
           (try rw [hz] at h); cbv))
    | (obtain ⟨hc, h'⟩ := if_none h; clear h; have h := h'; clear h'; (try simp only [List.length_nil, Nat.zero_add] at hc))
    | (obtain ⟨hc, h'⟩ := if_none' h; clear h; have h := h'; clear h')
    | (cases h; done)
    | (simp only [Option.bind_some] at h)
    | (simp only [Option.some.injEq, Prod.mk.injEq] at h; obtain ⟨rfl, rfl⟩ := h)
    | ((with_reducible show ∃ _, _)
       refine side (by first | exact enc_same (by assumption) (by assumption) _ | exact take_s1 (by assumption) (by assumption) (by assumption) | exact take_s2 (by assumption) (by assumption) (by assumption) (by assumption) (by assumption) | exact take_s3 (by assumption) (by assumption) (by assumption) | exact take_s4 (by assumption) (by assumption) (by assumption) | (intro k hk; subst_vars; first | eq_refl | exact enc_drop | exact enc_take hk | exact absurd hk (Nat.not_lt_zero k)) | (subst_vars; first | eq_refl | (simp; done) | (simp; omega)) | (have h1 : Int.toNat 1 = 1 := rfl; have h2 := one_le (by assumption) (by assumption); simp only [List.length_append, List.length_nil, List.length_drop, h1] at *; omega) | (simp only [Nat.cast] at *; omega)) ?_; (try cbv))
    | trivial
    | (exfalso; omega)
    | (simp only [beq_iff_eq] at h; first | rw [if_pos (by assumption)] at h | rw [if_neg (by assumption)] at h))

def spec_jrGood.l0 : Nat → List (S72) → List (S72) → Int → Int → Option (Bool)
  | 0, _, _, _, _ => none
  | k + 1, x0, x5, x6, x7 => if x7 < x6 then (if 0 ≤ x7 then (if x7 < (x5.length : Int) then ((spec_jrRecord.f ((rd_T72 x5 x7).f0) ((rd_T72 x5 x7).f1) ((rd_T72 x5 x7).f2)).bind fun t184 => (if t184 = true then (spec_jrGood.l0 k x0 x5 x6 (wrap64 (x7 + 1))) else (some false))) else (none)) else (none)) else (some (decide ((x0.length : Int) ≤ 40)))
def spec_jrGood.f (k : Nat) (l0 : List (S72)) : Option (Bool) := spec_jrGood.l0 k l0 l0 (l0.length : Int) 0

theorem spec_jrGood_ok (k : Nat) (l0 : List (S72)) (r0 : Bool) (h : spec_jrGood.f k l0 = some r0) (n_l0 : Nat) (hn_l0 : l0.length = n_l0) (g_l0 : Nat → List V) (hg_l0 : encL e72 l0 = g_l0)  : CallOK Try.prog 160 [.fz 3 n_l0 g_l0] [] (.val (.bool r0)) [] := by
  refine CallOK.of_code tabOK Try.func160 rfl rfl ⟨[(6, [0, 5, 6, 7]), (7, [0])], []⟩ ?_
  unfold spec_jrGood.f at h
  obtain ⟨P, hP⟩ : ∃ P, Try.prog = P := ⟨_, rfl⟩
  rw [hP]
  (try rw [hn_l0] at h); skip
  cbv
  repeat' (first
    | ((with_reducible show ∃ _, _)
       first
        | (refine ⟨trivial, ?_⟩; cbv)
        | (refine side (by first | with_reducible eq_refl | assumption | (intro _ _; with_reducible eq_refl) | exact lt_ix (by assumption) (by assumption) (by assumption) | exact lt_ix2 (by assumption) (by assumption) (by assumption) (by assumption) | exact lt_y (by assumption) (by assumption) | exact le_y (by assumption) | exact ge_y (by assumption) | exact cut_le (by assumption) (by assumption) | omega) ?_; (try cbv))
        | (refine ⟨Frz.own, ?_⟩; cbv))
    | ((with_reducible show ∃ _ : Nat, _)
       first
        | (refine ⟨_, [0, 5, 6, 7], Nat.lt_succ_self _, ?_⟩; cbv; exact ⟨_, _, _, _, _, _, _, _, h, by first | assumption | rfl, by first | assumption | rfl, by first | assumption | rfl, by first | assumption | rfl, rfl⟩))
    | ((with_reducible show ∃ _ : List Nat, _)
       first
        | ((with_reducible (have h0 : Option.bind (spec_jrRecord.f _ _ _) _ = some _ := h; clear h0))
           refine ⟨[], ?_⟩; cbv
           repeat (first | (refine all_show (by first | omega | decide) ?_; cbv) | (refine all_showT (by assumption) (by assumption) (by assumption) (by first | assumption | exact lt_ix (by assumption) (by assumption) (by assumption) | exact lt_ix2 (by assumption) (by assumption) (by assumption) (by assumption) | exact lt_y (by assumption) (by assumption) | exact le_y (by assumption) | exact ge_y (by assumption) | exact cut_le (by assumption) (by assumption) | omega) (by first | assumption | exact cut_hi (by assumption) | exact cut_hi2 (by assumption) (by assumption) | omega) ?_; intro D hD hnD g hgD; (try rw [hD] at h); cbv))
           obtain ⟨t, ht, h'⟩ := bind_some h
           clear h; have h := h'; clear h'; (try dsimp only at h)
           refine ⟨_, _, (hP ▸ spec_jrRecord_ok _ _ _ _ ht   : CallOK P 165 _ _ _ _), ?_⟩
           rcases t with _ | _ <;> (try simp only [bs, eq_self, if_true, if_false, reduceIte] at h) <;> (try (cases h; done)) <;> cbv))
    | ((with_reducible show ∃ _ : Nat → St → Prop, _)
       first
        | (refine ⟨fun k1 s => ∃ x0 x5 x6 x7 n_x0 g_x0 n_x5 g_x5, spec_jrGood.l0 k1 x0 x5 x6 x7 = some r0 ∧ x0.length = n_x0 ∧ encL e72 x0 = g_x0 ∧ x5.length = n_x5 ∧ encL e72 x5 = g_x5 ∧ s = ⟨⟨18, (upd 18 (upd 18 (upd 18 (upd 18 noT 7 (.val (.int .i64 x7))) 6 (.val (.int .i64 x6))) 5 (.fz 3 n_x5 g_x5)) 0 (.fz 3 n_x0 g_x0))⟩, []⟩, ?_, [], ?_⟩
           rotate_left
           · cbv; exact ⟨_, [0, 5, 6, 7], by cbv; exact ⟨_, _, _, _, _, _, _, _, h, by first | assumption | rfl, by first | assumption | rfl, by first | assumption | rfl, by first | assumption | rfl, rfl⟩⟩
           clear h
           rintro (_ | k1) s1 ⟨x0, x5, x6, x7, n_x0, g_x0, n_x5, g_x5, h, hn_x0, hg_x0, hn_x5, hg_x5, rfl⟩
           · cases h
           unfold spec_jrGood.l0 at h
           (try rw [hn_x0] at h); (try rw [hn_x5] at h); skip
           cbv))
    | ((with_reducible show ∀ _ : Bool, _)
       first
        | (refine all_lt ?_ ?_ <;> (intro hd; first | exact absurd rfl hd | ((first | rw [if_pos hd] at h | rw [if_neg hd] at h | rw [if_pos (by omega)] at h | rw [if_neg (by omega)] at h | skip); (first | (rw [decide_eq_true hd] at h; (try simp only [bs, eq_self, if_true, if_false, reduceIte] at h)) | (rw [decide_eq_false hd] at h; (try simp only [bs, eq_self, if_true, if_false, reduceIte] at h)) | skip); cbv)))
        | (refine all_le ?_ ?_ <;> (intro hd; first | exact absurd rfl hd | ((first | rw [if_pos hd] at h | rw [if_neg hd] at h | rw [if_pos (by omega)] at h | rw [if_neg (by omega)] at h | skip); (first | (rw [decide_eq_true hd] at h; (try simp only [bs, eq_self, if_true, if_false, reduceIte] at h)) | (rw [decide_eq_false hd] at h; (try simp only [bs, eq_self, if_true, if_false, reduceIte] at h)) | skip); cbv))))
    | ((with_reducible show ∀ _ : Int, _)
       first
        | (refine all_wrap ?_; intro y hy; (try rw [hy] at h); cbv)
        | (refine all_len ?_; intro y hy; (try replace hy : ((_ : Nat) : Int) = y := hy); (try rw [hy] at h); (try rw [show (NatCast.natCast _ : Int) = _ from hy] at h); cbv))
    | ((with_reducible show ∀ _ : List V, _)
       first
        | (refine @all_rd _ _ e72 rd_T72 ?_ ?_ ?_ _ _ _ (fun _ _ => rfl) ?_ ?_ ?_ ?_ ?_ ?_
           rotate_left 3
           assumption
           assumption
           (first | rfl | assumption)
           (first | assumption | exact lt_ix (by assumption) (by assumption) (by assumption) | exact lt_ix2 (by assumption) (by assumption) (by assumption) (by assumption) | exact lt_y (by assumption) (by assumption) | exact le_y (by assumption) | exact ge_y (by assumption) | exact cut_le (by assumption) (by assumption) | omega)
           (first | assumption | exact lt_ix (by assumption) (by assumption) (by assumption) | exact lt_ix2 (by assumption) (by assumption) (by assumption) (by assumption) | exact lt_y (by assumption) (by assumption) | exact le_y (by assumption) | exact ge_y (by assumption) | exact cut_le (by assumption) (by assumption) | omega)
           intro z hz
           (try rw [hz] at h); cbv))
    | (obtain ⟨hc, h'⟩ := if_none h; clear h; have h := h'; clear h')
    | (simp only [Option.some.injEq, Prod.mk.injEq] at h; subst h)
    | trivial)

def spec_jrCommitted.l0 : Nat → List (S72) → Int → List (S72) → Int → Int → Option ((List (S72)))
  | 0, _, _, _, _, _ => none
  | k + 1, x0, x3, x6, x7, x8 => if x8 < x7 then (if 0 ≤ x8 then (if x8 < (x6.length : Int) then (if ((rd_T72 x6 x8).f0) = 2 then (spec_jrCommitted.l0 k x0 (wrap64 (x8 + 1)) x6 x7 (wrap64 (x8 + 1))) else (spec_jrCommitted.l0 k x0 x3 x6 x7 (wrap64 (x8 + 1)))) else (none)) else (none)) else ((some (([] : List (S72)) : List (S72))).bind fun y472 => (if 0 ≤ x3 then (if x3 ≤ (x0.length : Int) then ((some (x0.take (x3 : Int).toNat : List (S72))).bind fun y475 => (if y472.length + y475.length < 5864062014805 then (some (y472 ++ y475)) else (none))) else (none)) else (none)))
def spec_jrCommitted.f (k : Nat) (l0 : List (S72)) : Option ((List (S72))) := spec_jrCommitted.l0 k l0 0 l0 (l0.length : Int) 0

theorem spec_jrCommitted_ok (k : Nat) (l0 : List (S72)) (r0 : List (S72)) (h : spec_jrCommitted.f k l0 = some r0) (n_l0 : Nat) (hn_l0 : l0.length = n_l0) (g_l0 : Nat → List V) (hg_l0 : encL e72 l0 = g_l0) (n_r0 : Nat) (hn_r0 : r0.length = n_r0) (g_r0 : Nat → List V) (hg_r0 : encL e72 r0 = g_r0) : CallOK Try.prog 180 [.fz 3 n_l0 g_l0] [] (.row 0 0 n_r0) [.row 72 3 n_r0 g_r0] := by
  refine CallOK.of_code tabOK Try.func180 rfl rfl ⟨[(6, [0, 4, 6, 7, 8]), (7, [0, 3, 6, 7, 8]), (8, [0, 3])], []⟩ ?_
  unfold spec_jrCommitted.f at h
  obtain ⟨P, hP⟩ : ∃ P, Try.prog = P := ⟨_, rfl⟩
  rw [hP]
  (try rw [hn_l0] at h); skip
  cbv
  repeat' (first
    | ((with_reducible show ∃ _, _)
       first
        | (refine ⟨trivial, ?_⟩; cbv)
        | (refine side (by first | with_reducible eq_refl | assumption | (intro _ _; with_reducible eq_refl) | exact lt_ix (by assumption) (by assumption) (by assumption) | exact lt_ix2 (by assumption) (by assumption) (by assumption) (by assumption) | exact lt_y (by assumption) (by assumption) | exact le_y (by assumption) | exact ge_y (by assumption) | exact cut_le (by assumption) (by assumption) | omega) ?_; (try cbv))
        | (refine bind_side (Eq.refl _) ?_; (try cbv))
        | (refine ⟨.row, ?_⟩; cbv))
    | ((with_reducible show ∃ _ : Nat, _)
       first
        | (refine ⟨_, [0, 3, 6, 7, 8], Nat.lt_succ_self _, ?_⟩; cbv; exact ⟨_, _, _, _, _, _, _, _, _, h, by first | assumption | rfl, by first | assumption | rfl, by first | assumption | rfl, by first | assumption | rfl, rfl⟩))
    | ((with_reducible show ∃ _ : Nat → List V, _)
       first
        | (refine all_build0 e72 ?_; intro g_b hg_b; cbv))
    | ((with_reducible show ∃ _ : Nat → St → Prop, _)
       first
        | (refine ⟨fun k1 s => ∃ x0 x3 x6 x7 x8 n_x0 g_x0 n_x6 g_x6, spec_jrCommitted.l0 k1 x0 x3 x6 x7 x8 = some r0 ∧ x0.length = n_x0 ∧ encL e72 x0 = g_x0 ∧ x6.length = n_x6 ∧ encL e72 x6 = g_x6 ∧ s = ⟨⟨24, (upd 24 (upd 24 (upd 24 (upd 24 (upd 24 noT 8 (.val (.int .i64 x8))) 7 (.val (.int .i64 x7))) 6 (.fz 3 n_x6 g_x6)) 3 (.val (.int .i64 x3))) 0 (.fz 3 n_x0 g_x0))⟩, []⟩, ?_, [], ?_⟩
           rotate_left
           · cbv; exact ⟨_, [0, 3, 6, 7, 8], by cbv; exact ⟨_, _, _, _, _, _, _, _, _, h, by first | assumption | rfl, by first | assumption | rfl, by first | assumption | rfl, by first | assumption | rfl, rfl⟩⟩
           clear h
           rintro (_ | k1) s1 ⟨x0, x3, x6, x7, x8, n_x0, g_x0, n_x6, g_x6, h, hn_x0, hg_x0, hn_x6, hg_x6, rfl⟩
           · cases h
           unfold spec_jrCommitted.l0 at h
           (try rw [hn_x0] at h); (try rw [hn_x6] at h); skip
           cbv))
    | ((with_reducible show ∀ _ : Bool, _)
       first
        | (refine all_lt ?_ ?_ <;> (intro hd; first | exact absurd rfl hd | ((first | rw [if_pos hd] at h | rw [if_neg hd] at h | rw [if_pos (by omega)] at h | rw [if_neg (by omega)] at h | skip); (first | (rw [decide_eq_true hd] at h; (try simp only [bs, eq_self, if_true, if_false, reduceIte] at h)) | (rw [decide_eq_false hd] at h; (try simp only [bs, eq_self, if_true, if_false, reduceIte] at h)) | skip); cbv)))
        | (refine all_beq ?_ ?_ <;> (intro hd; first | exact absurd rfl hd | ((first | rw [if_pos hd] at h | rw [if_neg hd] at h | rw [if_pos (by omega)] at h | rw [if_neg (by omega)] at h | skip); (first | (rw [beq_pos hd] at h; (try simp only [bs, eq_self, if_true, if_false, reduceIte] at h)) | (rw [beq_neg hd] at h; (try simp only [bs, eq_self, if_true, if_false, reduceIte] at h)) | skip); cbv))))
    | ((with_reducible show ∀ _ : Int, _)
       first
        | (refine all_wrap_old (by assumption) ?_; cbv)
        | (refine all_wrap ?_; intro y hy; (try rw [hy] at h); cbv)
        | (refine all_len ?_; intro y hy; (try replace hy : ((_ : Nat) : Int) = y := hy); (try rw [hy] at h); (try rw [show (NatCast.natCast _ : Int) = _ from hy] at h); cbv))
    | ((with_reducible show ∀ _ : Nat, _)
       first
        | (refine @all_cut0 ?_ ?_ ?_ ?_ _ _ _ ?_ ?_ ?_ ?_ ?_
           rotate_left 4
           assumption
           assumption
           (first | assumption | exact lt_ix (by assumption) (by assumption) (by assumption) | exact lt_ix2 (by assumption) (by assumption) (by assumption) (by assumption) | exact lt_y (by assumption) (by assumption) | exact le_y (by assumption) | exact ge_y (by assumption) | exact cut_le (by assumption) (by assumption) | omega)
           (first | assumption | exact cut_hi (by assumption) | exact cut_hi2 (by assumption) (by assumption) | omega)
           intro D hD n_D hnD g hgD; (try rw [hD] at h); (try rw [hnD] at h); cbv)
        | (refine all_app (by first | assumption | exact (rfl : encL _ ([] : List _) = _)) (by first | assumption | rfl) (by assumption) (by first | assumption | rfl) ?_; intro L hL n_L hnL g hgL; (try rw [hL] at h); (try rw [Option.bind_some] at h); (try rw [hnL] at h); cbv))
    | ((with_reducible show ∀ _ : List V, _)
       first
        | (refine @all_rd _ _ e72 rd_T72 ?_ ?_ ?_ _ _ _ (fun _ _ => rfl) ?_ ?_ ?_ ?_ ?_ ?_
           rotate_left 3
           assumption
           assumption
           (first | rfl | assumption)
           (first | assumption | exact lt_ix (by assumption) (by assumption) (by assumption) | exact lt_ix2 (by assumption) (by assumption) (by assumption) (by assumption) | exact lt_y (by assumption) (by assumption) | exact le_y (by assumption) | exact ge_y (by assumption) | exact cut_le (by assumption) (by assumption) | omega)
           (first | assumption | exact lt_ix (by assumption) (by assumption) (by assumption) | exact lt_ix2 (by assumption) (by assumption) (by assumption) (by assumption) | exact lt_y (by assumption) (by assumption) | exact le_y (by assumption) | exact ge_y (by assumption) | exact cut_le (by assumption) (by assumption) | omega)
           intro z hz
           (try rw [hz] at h); cbv))
    | (obtain ⟨hc, h'⟩ := if_none h; clear h; have h := h'; clear h')
    | (simp only [Option.some.injEq, Prod.mk.injEq] at h; subst h)
    | ((with_reducible show ∃ _, _)
       refine side (by first | exact enc_same (by assumption) (by assumption) _ | exact take_s1 (by assumption) (by assumption) (by assumption) | exact take_s2 (by assumption) (by assumption) (by assumption) (by assumption) (by assumption) | exact take_s3 (by assumption) (by assumption) (by assumption) | exact take_s4 (by assumption) (by assumption) (by assumption) | (intro k hk; subst_vars; first | eq_refl | exact enc_drop | exact enc_take hk | exact absurd hk (Nat.not_lt_zero k)) | (subst_vars; first | eq_refl | (simp; done) | (simp; omega)) | (have h1 : Int.toNat 1 = 1 := rfl; have h2 := one_le (by assumption) (by assumption); simp only [List.length_append, List.length_nil, List.length_drop, h1] at *; omega) | (simp only [Nat.cast] at *; omega)) ?_; (try cbv)))

def spec_jrValues.l1 : Nat → List Int → List (S72) → Int → Int → Option (List Int)
  | 0, _, _, _, _ => none
  | k + 1, x3, x13, x14, x15 => if x15 < x14 then (if 0 ≤ x15 then (if x15 < (x13.length : Int) then (if ((rd_T72 x13 x15).f0) = 1 then (if 0 ≤ ((rd_T72 x13 x15).f1) then (if ((rd_T72 x13 x15).f1) < (x3.length : Int) then (spec_jrValues.l1 k (x3.set (((rd_T72 x13 x15).f1) : Int).toNat ((rd_T72 x13 x15).f2)) x13 x14 (wrap64 (x15 + 1))) else (none)) else (none)) else (spec_jrValues.l1 k x3 x13 x14 (wrap64 (x15 + 1)))) else (none)) else (none)) else (some x3)
def spec_jrValues.l0 : Nat → List (S72) → List Int → Option (List Int)
  | 0, _, _ => none
  | k + 1, x0, x3 => if (x3.length : Int) < 8 then (if x3.length < 17592186044416 then (spec_jrValues.l0 k x0 (x3 ++ [(-1)])) else (none)) else ((spec_jrCommitted.f k x0).bind fun t485 => (spec_jrValues.l1 k x3 t485 (t485.length : Int) 0))
def spec_jrValues.f (k : Nat) (l0 : List (S72)) : Option (List Int) := spec_jrValues.l0 k l0 ([] : List Int)

theorem spec_jrValues_ok (k : Nat) (l0 : List (S72)) (r0 : List Int) (h : spec_jrValues.f k l0 = some r0) (n_l0 : Nat) (hn_l0 : l0.length = n_l0) (g_l0 : Nat → List V) (hg_l0 : encL e72 l0 = g_l0) (n_r0 : Nat) (hn_r0 : r0.length = n_r0) (g_r0 : Nat → List V) (hg_r0 : encL eI r0 = g_r0) : CallOK Try.prog 162 [.fz 3 n_l0 g_l0] [] (.row 0 0 n_r0) [.row 3 1 n_r0 g_r0] := by
  refine CallOK.of_code tabOK Try.func162 rfl rfl ⟨[(4, [0, 3]), (9, [3, 13, 14, 15]), (10, [3])], []⟩ ?_
  unfold spec_jrValues.f at h
  obtain ⟨P, hP⟩ : ∃ P, Try.prog = P := ⟨_, rfl⟩
  rw [hP]
  (try rw [hn_l0] at h); skip
  cbv
  repeat' (first
    | ((with_reducible show ∃ _, _)
       first
        | (refine ⟨trivial, ?_⟩; cbv)
        | (refine side (by first | with_reducible eq_refl | assumption | (intro _ _; with_reducible eq_refl) | exact lt_ix (by assumption) (by assumption) (by assumption) | exact lt_ix2 (by assumption) (by assumption) (by assumption) (by assumption) | exact lt_y (by assumption) (by assumption) | exact le_y (by assumption) | exact ge_y (by assumption) | exact cut_le (by assumption) (by assumption) | omega) ?_; (try cbv))
        | (refine bind_side (Eq.refl _) ?_; (try cbv))
        | (refine ⟨Frz.own, ?_⟩; cbv)
        | (refine ⟨.row, ?_⟩; cbv))
    | ((with_reducible show ∃ _ : Nat, _)
       first
        | (refine ⟨_, [3, 13, 14, 15], Nat.lt_succ_self _, ?_⟩; cbv; exact ⟨_, _, _, _, _, _, _, _, h, by first | assumption | rfl, by first | assumption | rfl, by first | assumption | rfl, by first | assumption | rfl, rfl⟩)
        | (refine ⟨_, [0, 3], Nat.lt_succ_self _, ?_⟩; cbv; exact ⟨_, _, _, _, _, _, h, by first | assumption | rfl, by first | assumption | rfl, by first | assumption | rfl, by first | assumption | rfl, rfl⟩))
    | ((with_reducible show ∃ _ : List Nat, _)
       first
        | ((with_reducible (have h0 : Option.bind (spec_jrCommitted.f _ _) _ = some _ := h; clear h0))
           refine ⟨[], ?_⟩; cbv
           repeat (first | (refine all_show (by first | omega | decide) ?_; cbv) | (refine all_showT (by assumption) (by assumption) (by assumption) (by first | assumption | exact lt_ix (by assumption) (by assumption) (by assumption) | exact lt_ix2 (by assumption) (by assumption) (by assumption) (by assumption) | exact lt_y (by assumption) (by assumption) | exact le_y (by assumption) | exact ge_y (by assumption) | exact cut_le (by assumption) (by assumption) | omega) (by first | assumption | exact cut_hi (by assumption) | exact cut_hi2 (by assumption) (by assumption) | omega) ?_; intro D hD hnD g hgD; (try rw [hD] at h); cbv))
           obtain ⟨t, ht, h'⟩ := bind_some h
           clear h; have h := h'; clear h'; (try dsimp only at h)
           obtain ⟨n_c180_0, hn_c180_0⟩ : ∃ n, t.length = n := ⟨_, rfl⟩; obtain ⟨g_t, hg_c180_0⟩ : ∃ g, encL e72 t = g := ⟨_, rfl⟩; (try rw [hn_c180_0] at h)
           refine ⟨_, _, (hP ▸ spec_jrCommitted_ok _ _ _ ht _ (by first | assumption | rfl) _ (by assumption) _ hn_c180_0 _ hg_c180_0 : CallOK P 180 _ _ _ _), ?_⟩; cbv))
    | ((with_reducible show ∃ _ : Nat → List V, _)
       first
        | (refine all_buildI1 ?_; intro g_b hg_b; cbv)
        | (refine all_putS eI (by assumption) (by assumption) (by (first | assumption | exact lt_ix (by assumption) (by assumption) (by assumption) | exact lt_ix2 (by assumption) (by assumption) (by assumption) (by assumption) | exact lt_y (by assumption) (by assumption) | exact le_y (by assumption) | exact ge_y (by assumption) | exact cut_le (by assumption) (by assumption) | omega)) rfl (fun _ => rfl) ?_; intro L hL hnL g hgL; (try rw [hL] at h); (try rw [Option.bind_some] at h); (try rw [hnL] at h); cbv))
    | ((with_reducible show ∃ _ : Nat → St → Prop, _)
       first
        | (refine ⟨fun k1 s => ∃ x0 x3 n_x0 g_x0 n_x3 g_x3, spec_jrValues.l0 k1 x0 x3 = some r0 ∧ x0.length = n_x0 ∧ encL e72 x0 = g_x0 ∧ x3.length = n_x3 ∧ encL eI x3 = g_x3 ∧ s = ⟨⟨30, (upd 30 (upd 30 noT 3 (.row 0 0 n_x3)) 0 (.fz 3 n_x0 g_x0))⟩, [.row 3 1 n_x3 g_x3]⟩, ?_, [], ?_⟩
           rotate_left
           · cbv; exact ⟨_, [0, 3], by cbv; exact ⟨_, _, _, _, _, _, h, by first | assumption | rfl, by first | assumption | rfl, by first | assumption | rfl, by first | assumption | rfl, rfl⟩⟩
           clear h
           rintro (_ | k1) s1 ⟨x0, x3, n_x0, g_x0, n_x3, g_x3, h, hn_x0, hg_x0, hn_x3, hg_x3, rfl⟩
           · cases h
           unfold spec_jrValues.l0 at h
           (try rw [hn_x0] at h); (try rw [hn_x3] at h); skip
           cbv)
        | (refine ⟨fun k1 s => ∃ x3 x13 x14 x15 n_x3 g_x3 n_x13 g_x13, spec_jrValues.l1 k1 x3 x13 x14 x15 = some r0 ∧ x3.length = n_x3 ∧ encL eI x3 = g_x3 ∧ x13.length = n_x13 ∧ encL e72 x13 = g_x13 ∧ s = ⟨⟨30, (upd 30 (upd 30 (upd 30 (upd 30 noT 15 (.val (.int .i64 x15))) 14 (.val (.int .i64 x14))) 13 (.row 1 0 n_x13)) 3 (.row 0 0 n_x3))⟩, [.row 3 1 n_x3 g_x3, .row 72 3 n_x13 g_x13]⟩, ?_, [], ?_⟩
           rotate_left
           · cbv; exact ⟨_, [3, 13, 14, 15], by cbv; exact ⟨_, _, _, _, _, _, _, _, h, by first | assumption | rfl, by first | assumption | rfl, by first | assumption | rfl, by first | assumption | rfl, rfl⟩⟩
           clear h
           rintro (_ | k1) s1 ⟨x3, x13, x14, x15, n_x3, g_x3, n_x13, g_x13, h, hn_x3, hg_x3, hn_x13, hg_x13, rfl⟩
           · cases h
           unfold spec_jrValues.l1 at h
           (try rw [hn_x3] at h); (try rw [hn_x13] at h); skip
           cbv))
    | ((with_reducible show ∀ _ : Bool, _)
       first
        | (refine all_lt ?_ ?_ <;> (intro hd; first | exact absurd rfl hd | ((first | rw [if_pos hd] at h | rw [if_neg hd] at h | rw [if_pos (by omega)] at h | rw [if_neg (by omega)] at h | skip); (first | (rw [decide_eq_true hd] at h; (try simp only [bs, eq_self, if_true, if_false, reduceIte] at h)) | (rw [decide_eq_false hd] at h; (try simp only [bs, eq_self, if_true, if_false, reduceIte] at h)) | skip); cbv)))
        | (refine all_beq ?_ ?_ <;> (intro hd; first | exact absurd rfl hd | ((first | rw [if_pos hd] at h | rw [if_neg hd] at h | rw [if_pos (by omega)] at h | rw [if_neg (by omega)] at h | skip); (first | (rw [beq_pos hd] at h; (try simp only [bs, eq_self, if_true, if_false, reduceIte] at h)) | (rw [beq_neg hd] at h; (try simp only [bs, eq_self, if_true, if_false, reduceIte] at h)) | skip); cbv))))
    | ((with_reducible show ∀ _ : Int, _)
       first
        | (refine all_wrap ?_; intro y hy; (try rw [hy] at h); cbv)
        | (refine all_len ?_; intro y hy; (try replace hy : ((_ : Nat) : Int) = y := hy); (try rw [hy] at h); (try rw [show (NatCast.natCast _ : Int) = _ from hy] at h); cbv))
    | ((with_reducible show ∀ _ : Nat, _)
       first
        | (refine all_ix0 ?_; intro q hq; (try rw [hq] at h); cbv)
        | (refine all_app (by first | assumption | exact (rfl : encL _ ([] : List _) = _)) (by first | assumption | rfl) (by assumption) (by first | assumption | rfl) ?_; intro L hL n_L hnL g hgL; (try rw [hL] at h); (try rw [Option.bind_some] at h); (try rw [hnL] at h); cbv))
    | ((with_reducible show ∀ _ : List V, _)
       first
        | (refine @all_rd _ _ e72 rd_T72 ?_ ?_ ?_ _ _ _ (fun _ _ => rfl) ?_ ?_ ?_ ?_ ?_ ?_
           rotate_left 3
           assumption
           assumption
           (first | rfl | assumption)
           (first | assumption | exact lt_ix (by assumption) (by assumption) (by assumption) | exact lt_ix2 (by assumption) (by assumption) (by assumption) (by assumption) | exact lt_y (by assumption) (by assumption) | exact le_y (by assumption) | exact ge_y (by assumption) | exact cut_le (by assumption) (by assumption) | omega)
           (first | assumption | exact lt_ix (by assumption) (by assumption) (by assumption) | exact lt_ix2 (by assumption) (by assumption) (by assumption) (by assumption) | exact lt_y (by assumption) (by assumption) | exact le_y (by assumption) | exact ge_y (by assumption) | exact cut_le (by assumption) (by assumption) | omega)
           intro z hz
           (try rw [hz] at h); cbv))
    | (obtain ⟨hc, h'⟩ := if_none h; clear h; have h := h'; clear h')
    | (simp only [Option.some.injEq, Prod.mk.injEq] at h; subst h)
    | ((with_reducible show ∃ _, _)
       refine side (by first | exact enc_same (by assumption) (by assumption) _ | exact take_s1 (by assumption) (by assumption) (by assumption) | exact take_s2 (by assumption) (by assumption) (by assumption) (by assumption) (by assumption) | exact take_s3 (by assumption) (by assumption) (by assumption) | exact take_s4 (by assumption) (by assumption) (by assumption) | (intro k hk; subst_vars; first | eq_refl | exact enc_drop | exact enc_take hk | exact absurd hk (Nat.not_lt_zero k)) | (subst_vars; first | eq_refl | (simp; done) | (simp; omega)) | (have h1 : Int.toNat 1 = 1 := rfl; have h2 := one_le (by assumption) (by assumption); simp only [List.length_append, List.length_nil, List.length_drop, h1] at *; omega) | (simp only [Nat.cast] at *; omega)) ?_; (try cbv)))

def spec_CompactJournal.l0 : Nat → List (S72) → List Int → Int → Int → Option ((List (S72)) × Bool)
  | 0, _, _, _, _ => none
  | k + 1, x4, x11, x12, x13 => if x13 < x12 then (if 0 ≤ x13 then (if x13 < (x11.length : Int) then (if (rd x11 x13) ≥ 0 then (if x4.length < 5864062014805 then (spec_CompactJournal.l0 k (x4 ++ [(⟨1, x13, rd x11 x13⟩ : S72)]) x11 x12 (wrap64 (x13 + 1))) else (none)) else (spec_CompactJournal.l0 k x4 x11 x12 (wrap64 (x13 + 1)))) else (none)) else (none)) else (if (x4.length : Int) > 0 then (if x4.length < 5864062014805 then (some ((x4 ++ [(⟨2, 0, 0⟩ : S72)]), true)) else (none)) else (some (x4, true)))
def spec_CompactJournal.f (k : Nat) (l0 : List (S72)) : Option ((List (S72)) × Bool) := (spec_jrGood.f k l0).bind fun t842 => (if t842 = true then ((spec_jrValues.f k l0).bind fun t843 => (spec_CompactJournal.l0 k ([] : List (S72)) t843 (t843.length : Int) 0)) else (some (([] : List (S72)), false)))

theorem spec_CompactJournal_ok (k : Nat) (l0 : List (S72)) (r0 : (List (S72))) (r1 : Bool) (h : spec_CompactJournal.f k l0 = some (r0, r1)) (n_l0 : Nat) (hn_l0 : l0.length = n_l0) (g_l0 : Nat → List V) (hg_l0 : encL e72 l0 = g_l0) (n_r0 : Nat) (hn_r0 : r0.length = n_r0) (g_r0 : Nat → List V) (hg_r0 : encL e72 r0 = g_r0) : CallOK Try.prog 78 [.fz 3 n_l0 g_l0] [] (.tup [.row 0 0 n_r0, .val (.bool r1)]) [.row 72 3 n_r0 g_r0] := by
  refine CallOK.of_code tabOK Try.func78 rfl rfl ⟨[(8, [4, 5, 6, 11, 12, 13]), (9, [4, 11, 12, 13]), (10, [4])], []⟩ ?_
  unfold spec_CompactJournal.f at h
  obtain ⟨P, hP⟩ : ∃ P, Try.prog = P := ⟨_, rfl⟩
  rw [hP]
  (try rw [hn_l0] at h); skip
  cbv
  repeat' (first
    | ((with_reducible show ∃ _, _)
       first
        | (refine ⟨trivial, ?_⟩; cbv)
        | (refine all_show (by first | omega | decide) ?_; cbv)
        | (refine side (by first | with_reducible eq_refl | assumption | (intro _ _; with_reducible eq_refl) | exact lt_ix (by assumption) (by assumption) (by assumption) | exact lt_ix2 (by assumption) (by assumption) (by assumption) (by assumption) | exact lt_y (by assumption) (by assumption) | exact le_y (by assumption) | exact ge_y (by assumption) | exact cut_le (by assumption) (by assumption) | omega | (dsimp only; omega)) ?_; (try cbv))
        | (refine bind_side (Eq.refl _) ?_; (try cbv))
        | (refine agree_side (Eq.refl _) ?_; (try cbv))
        | (refine agree_weak (Eq.refl _) ?_; (try cbv))
        | (refine ⟨.kept, side (Eq.refl _) (side (by first | trivial | exact ⟨clean_enc (by assumption) (by assumption) (fun _ => rfl), trivial⟩) ?_)⟩; cbv)
        | (refine ⟨.dead, ?_⟩; cbv)
        | (refine ⟨Frz.own, ?_⟩; cbv)
        | (refine ⟨.row, ?_⟩; cbv))
    | ((with_reducible show ∃ _ : Nat, _)
       first
        | (refine ⟨_, [4, 11, 12, 13], Nat.lt_succ_self _, ?_⟩; cbv; exact ⟨_, _, _, _, _, _, _, _, h, by first | assumption | rfl, by first | assumption | rfl, by first | assumption | rfl, by first | assumption | rfl, rfl⟩))
    | ((with_reducible show ∃ _ : List Nat, _)
       first
        | ((with_reducible (have h0 : Option.bind (spec_jrGood.f _ _) _ = some _ := h; clear h0))
           refine ⟨[], ?_⟩; cbv
           repeat (first | (refine all_show (by first | omega | decide) ?_; cbv) | (refine all_showT (by assumption) (by assumption) (by assumption) (by first | assumption | exact lt_ix (by assumption) (by assumption) (by assumption) | exact lt_ix2 (by assumption) (by assumption) (by assumption) (by assumption) | exact lt_y (by assumption) (by assumption) | exact le_y (by assumption) | exact ge_y (by assumption) | exact cut_le (by assumption) (by assumption) | omega) (by first | assumption | exact cut_hi (by assumption) | exact cut_hi2 (by assumption) (by assumption) | exact cut_hi3 (by assumption) | exact cut_hi4 (by assumption) (by assumption) | omega) ?_; intro D hD hnD g hgD; (try rw [hD] at h); cbv))
           obtain ⟨t, ht, h'⟩ := bind_some h
           clear h; have h := h'; clear h'; (try dsimp only at h)
           refine ⟨_, _, (hP ▸ spec_jrGood_ok _ _ _ ht _ (by first | assumption | rfl) _ (by assumption)  : CallOK P 160 _ _ _ _), ?_⟩
           rcases t with _ | _ <;> (try simp only [bs, eq_self, if_true, if_false, reduceIte] at h) <;> (try (cases h; done)) <;> cbv)
        | ((with_reducible (have h0 : Option.bind (spec_jrValues.f _ _) _ = some _ := h; clear h0))
           refine ⟨[], ?_⟩; cbv
           repeat (first | (refine all_show (by first | omega | decide) ?_; cbv) | (refine all_showT (by assumption) (by assumption) (by assumption) (by first | assumption | exact lt_ix (by assumption) (by assumption) (by assumption) | exact lt_ix2 (by assumption) (by assumption) (by assumption) (by assumption) | exact lt_y (by assumption) (by assumption) | exact le_y (by assumption) | exact ge_y (by assumption) | exact cut_le (by assumption) (by assumption) | omega) (by first | assumption | exact cut_hi (by assumption) | exact cut_hi2 (by assumption) (by assumption) | exact cut_hi3 (by assumption) | exact cut_hi4 (by assumption) (by assumption) | omega) ?_; intro D hD hnD g hgD; (try rw [hD] at h); cbv))
           obtain ⟨t, ht, h'⟩ := bind_some h
           clear h; have h := h'; clear h'; (try dsimp only at h)
           obtain ⟨n_c162_0, hn_c162_0⟩ : ∃ n, t.length = n := ⟨_, rfl⟩; obtain ⟨g_t, hg_c162_0⟩ : ∃ g, encL eI t = g := ⟨_, rfl⟩; (try rw [hn_c162_0] at h)
           refine ⟨_, _, (hP ▸ spec_jrValues_ok _ _ _ ht _ (by first | assumption | rfl) _ (by assumption) _ hn_c162_0 _ hg_c162_0 : CallOK P 162 _ _ _ _), ?_⟩; cbv))
    | ((with_reducible show ∃ _ : Nat → List V, _)
       first
        | (refine all_g0 ?_; cbv)
        | (refine all_putS eI (by assumption) (by assumption) (by (first | assumption | exact lt_ix (by assumption) (by assumption) (by assumption) | exact lt_ix2 (by assumption) (by assumption) (by assumption) (by assumption) | exact lt_y (by assumption) (by assumption) | exact le_y (by assumption) | exact ge_y (by assumption) | exact cut_le (by assumption) (by assumption) | omega)) rfl (fun _ => rfl) ?_; intro L hL hnL g hgL; (try rw [hL] at h); (try rw [Option.bind_some] at h); (try rw [hnL] at h); cbv)
        | (refine all_putS e72 (x := ⟨_, _, _⟩) (by assumption) (by assumption) (by (first | assumption | exact lt_ix (by assumption) (by assumption) (by assumption) | exact lt_ix2 (by assumption) (by assumption) (by assumption) (by assumption) | exact lt_y (by assumption) (by assumption) | exact le_y (by assumption) | exact ge_y (by assumption) | exact cut_le (by assumption) (by assumption) | omega)) rfl (fun _ => rfl) ?_; intro L hL hnL g hgL; (try rw [hL] at h); (try rw [Option.bind_some] at h); (try rw [hnL] at h); cbv)
        | (refine all_build1 e72 (x := ⟨_, _, _⟩) rfl ?_; intro g_b hg_b; cbv))
    | ((with_reducible show ∃ _ : Nat → St → Prop, _)
       first
        | (refine ⟨fun k1 s => ∃ x4 x11 x12 x13 n_x4 g_x4 n_x11 g_x11, spec_CompactJournal.l0 k1 x4 x11 x12 x13 = some (r0, r1) ∧ x4.length = n_x4 ∧ encL e72 x4 = g_x4 ∧ x11.length = n_x11 ∧ encL eI x11 = g_x11 ∧ s = ⟨⟨35, (upd 35 (upd 35 (upd 35 (upd 35 noT 13 (.val (.int .i64 x13))) 12 (.val (.int .i64 x12))) 11 (.row 1 0 n_x11)) 4 (.row 0 0 n_x4))⟩, [.row 72 3 n_x4 g_x4, .row 3 1 n_x11 g_x11]⟩, ?_, [], ?_⟩
           rotate_left
           · cbv; exact ⟨_, [4, 11, 12, 13], by cbv; exact ⟨_, _, _, _, _, _, _, _, h, by first | assumption | rfl, by first | assumption | rfl, by first | assumption | rfl, by first | assumption | rfl, rfl⟩⟩
           clear h
           rintro (_ | k1) s1 ⟨x4, x11, x12, x13, n_x4, g_x4, n_x11, g_x11, h, hn_x4, hg_x4, hn_x11, hg_x11, rfl⟩
           · cases h
           unfold spec_CompactJournal.l0 at h
           (try rw [hn_x4] at h); (try rw [hn_x11] at h); skip
           cbv))
    | ((with_reducible show ∀ _ : Bool, _)
       first
        | (refine all_lt ?_ ?_ <;> (intro hd; first | exact absurd rfl hd | ((first | rw [if_pos hd] at h | rw [if_neg hd] at h | rw [if_pos (by omega)] at h | rw [if_neg (by omega)] at h | skip); (first | (rw [decide_eq_true hd] at h; (try simp only [bs, eq_self, if_true, if_false, reduceIte] at h)) | (rw [decide_eq_false hd] at h; (try simp only [bs, eq_self, if_true, if_false, reduceIte] at h)) | skip); cbv)))
        | (refine all_le ?_ ?_ <;> (intro hd; first | exact absurd rfl hd | ((first | rw [if_pos hd] at h | rw [if_neg hd] at h | rw [if_pos (by omega)] at h | rw [if_neg (by omega)] at h | skip); (first | (rw [decide_eq_true hd] at h; (try simp only [bs, eq_self, if_true, if_false, reduceIte] at h)) | (rw [decide_eq_false hd] at h; (try simp only [bs, eq_self, if_true, if_false, reduceIte] at h)) | skip); cbv)))
        | (refine all_beq ?_ ?_ <;> (intro hd; first | exact absurd rfl hd | ((first | rw [if_pos hd] at h | rw [if_neg hd] at h | rw [if_pos (by omega)] at h | rw [if_neg (by omega)] at h | skip); (first | (rw [beq_pos hd] at h; (try simp only [bs, eq_self, if_true, if_false, reduceIte] at h)) | (rw [beq_neg hd] at h; (try simp only [bs, eq_self, if_true, if_false, reduceIte] at h)) | skip); cbv)))
        | (refine all_bne ?_ ?_ <;> (intro hd; first | exact absurd rfl hd | ((first | rw [if_pos hd] at h | rw [if_neg hd] at h | rw [if_pos (by omega)] at h | rw [if_neg (by omega)] at h | skip); (first | (rw [bne_pos hd] at h; (try simp only [bs, eq_self, if_true, if_false, reduceIte] at h)) | (rw [bne_neg hd] at h; (try simp only [bs, eq_self, if_true, if_false, reduceIte] at h)) | skip); cbv)))
        | (refine all_cells rfl ?_ ?_ <;> (intro hd; (first | (rw [hd] at h; (try simp only [bs, eq_self, if_true, if_false, reduceIte] at h)) | skip); cbv))
        | (refine all_cellsN rfl ?_ ?_ <;> (intro hd; (first | (rw [hd] at h; (try simp only [bs, eq_self, if_true, if_false, reduceIte] at h)) | skip); cbv))
        | (refine all_not_true ?_; cbv)
        | (refine all_not_false ?_; cbv)
        | (refine all_not ?_ ?_ <;> (intro hd; subst hd; (try simp only [bs, eq_self, if_true, if_false, reduceIte] at h); cbv))
        | (refine all_bool ?_ ?_ <;> (intro hd; (try simp only [hd, bs, eq_self, if_true, if_false, reduceIte] at h); cbv)))
    | ((with_reducible show ∀ _ : Int, _)
       first
        | (refine all_u0 ?_; cbv)
        | (refine all_mn ?_; intro y hy; (try rw [hy] at h); cbv)
        | (refine all_mx ?_; intro y hy; (try rw [hy] at h); cbv)
        | (refine all_neg ?_; intro y hy; (try rw [hy] at h); cbv)
        | (refine all_shr40 ?_; intro y hy; (try rw [hy] at h); cbv)
        | (refine all_and ?_; intro y hy; (try rw [hy] at h); cbv)
        | (refine all_wrap_old (by assumption) ?_; cbv)
        | (refine all_wrap ?_; intro y hy; (try rw [hy] at h); cbv)
        | (refine all_len_old (by assumption) ?_; cbv)
        | (refine all_len ?_; intro y hy; (try replace hy : ((_ : Nat) : Int) = y := hy); (try rw [hy] at h); (try rw [show (NatCast.natCast _ : Int) = _ from hy] at h); cbv)
        | (refine all_old (α := Int) (by assumption) ?_; cbv)
        | (refine all_eq (α := Int) ?_; intro y hy; (try replace hy : ((_ : Nat) : Int) = y := hy); (try rw [hy] at h); cbv))
    | ((with_reducible show ∀ _ : Nat, _)
       first
        | (refine @all_cut0 ?_ ?_ ?_ ?_ _ _ _ ?_ ?_ ?_ ?_ ?_
           rotate_left 4
           assumption
           assumption
           (first | assumption | exact lt_ix (by assumption) (by assumption) (by assumption) | exact lt_ix2 (by assumption) (by assumption) (by assumption) (by assumption) | exact lt_y (by assumption) (by assumption) | exact le_y (by assumption) | exact ge_y (by assumption) | exact cut_le (by assumption) (by assumption) | omega)
           (first | assumption | exact cut_hi (by assumption) | exact cut_hi2 (by assumption) (by assumption) | exact cut_hi3 (by assumption) | exact cut_hi4 (by assumption) (by assumption) | omega)
           intro D hD n_D hnD g hgD; (try rw [hD] at h); (try rw [hnD] at h); cbv)
        | (refine @all_cutD ?_ ?_ ?_ ?_ _ _ _ _ ?_ ?_ ?_ ?_ ?_ ?_
           rotate_left 4
           assumption
           assumption
           (first | assumption | exact lt_ix (by assumption) (by assumption) (by assumption) | exact lt_ix2 (by assumption) (by assumption) (by assumption) (by assumption) | exact lt_y (by assumption) (by assumption) | exact le_y (by assumption) | exact ge_y (by assumption) | exact cut_le (by assumption) (by assumption) | omega)
           (first | assumption | exact lt_ix (by assumption) (by assumption) (by assumption) | exact lt_ix2 (by assumption) (by assumption) (by assumption) (by assumption) | exact lt_y (by assumption) (by assumption) | exact le_y (by assumption) | exact ge_y (by assumption) | exact cut_le (by assumption) (by assumption) | omega)
           assumption
           intro D hD n_D hnD g hgD; (try rw [hD] at h); (try rw [hnD] at h); cbv)
        | (refine @all_cut ?_ ?_ ?_ ?_ _ _ _ _ ?_ ?_ ?_ ?_ ?_ ?_
           rotate_left 4
           assumption
           assumption
           (first | assumption | exact lt_ix (by assumption) (by assumption) (by assumption) | exact lt_ix2 (by assumption) (by assumption) (by assumption) (by assumption) | exact lt_y (by assumption) (by assumption) | exact le_y (by assumption) | exact ge_y (by assumption) | exact cut_le (by assumption) (by assumption) | omega)
           (first | assumption | exact lt_ix (by assumption) (by assumption) (by assumption) | exact lt_ix2 (by assumption) (by assumption) (by assumption) (by assumption) | exact lt_y (by assumption) (by assumption) | exact le_y (by assumption) | exact ge_y (by assumption) | exact cut_le (by assumption) (by assumption) | omega)
           (first | assumption | exact cut_hi (by assumption) | exact cut_hi2 (by assumption) (by assumption) | exact cut_hi3 (by assumption) | exact cut_hi4 (by assumption) (by assumption) | omega)
           intro D hD n_D hnD g hgD; (try rw [hD] at h); (try rw [hnD] at h); cbv)
        | (refine all_ix0_old (by assumption) ?_; cbv)
        | (refine all_ix0 ?_; intro q hq; (try rw [hq] at h); cbv)
        | (refine all_app (by first | assumption | exact (rfl : encL _ ([] : List _) = _)) (by first | assumption | rfl) (by assumption) (by first | assumption | rfl) ?_; intro L hL n_L hnL g hgL; (try rw [hL] at h); (try rw [Option.bind_some] at h); (try rw [hnL] at h); cbv)
        | (refine all_appF (by first | assumption | exact (rfl : encL _ ([] : List _) = _)) (by first | assumption | rfl) (by assumption) (by first | assumption | rfl) ?_; intro L hL n_L hnL g hgL; (try rw [hL] at h); (try rw [Option.bind_some] at h); (try rw [hnL] at h); cbv)
        | (refine all_appD (by first | assumption | exact (rfl : encL _ ([] : List _) = _)) (by first | assumption | rfl) (by assumption) (by first | assumption | (simp only [List.length_drop]; omega)) ?_; intro L hL n_L hnL g hgL; (try rw [hL] at h); (try rw [Option.bind_some] at h); (try rw [hnL] at h); cbv)
        | (intro off' n' ho hn'; obtain rfl : off' = _ := ho; (try replace hn' := cut_len hn' (by assumption)); (try replace hn' := cut_len0 hn'); cbv)
        | (refine all_eq (α := Nat) ?_; intro y hy; (try rw [hy] at h); cbv))
    | ((with_reducible show ∀ _ : List V, _)
       first
        | (refine @all_rd_old _ _ eI rd ?_ ?_ ?_ ?_ _ _ _ (fun _ _ => rfl) ?_ ?_ ?_ ?_ ?_ ?_ ?_
           rotate_left 4
           assumption
           assumption
           (first | rfl | assumption)
           (first | assumption | exact lt_ix (by assumption) (by assumption) (by assumption) | exact lt_ix2 (by assumption) (by assumption) (by assumption) (by assumption) | exact lt_y (by assumption) (by assumption) | exact le_y (by assumption) | exact ge_y (by assumption) | exact cut_le (by assumption) (by assumption) | omega)
           (first | assumption | exact lt_ix (by assumption) (by assumption) (by assumption) | exact lt_ix2 (by assumption) (by assumption) (by assumption) (by assumption) | exact lt_y (by assumption) (by assumption) | exact le_y (by assumption) | exact ge_y (by assumption) | exact cut_le (by assumption) (by assumption) | omega)
           assumption
           cbv)
        | (refine @all_rd _ _ eI rd ?_ ?_ ?_ _ _ _ (fun _ _ => rfl) ?_ ?_ ?_ ?_ ?_ ?_
           rotate_left 3
           assumption
           assumption
           (first | rfl | assumption)
           (first | assumption | exact lt_ix (by assumption) (by assumption) (by assumption) | exact lt_ix2 (by assumption) (by assumption) (by assumption) (by assumption) | exact lt_y (by assumption) (by assumption) | exact le_y (by assumption) | exact ge_y (by assumption) | exact cut_le (by assumption) (by assumption) | omega)
           (first | assumption | exact lt_ix (by assumption) (by assumption) (by assumption) | exact lt_ix2 (by assumption) (by assumption) (by assumption) (by assumption) | exact lt_y (by assumption) (by assumption) | exact le_y (by assumption) | exact ge_y (by assumption) | exact cut_le (by assumption) (by assumption) | omega)
           intro z hz
           (try rw [hz] at h); cbv)
        | (refine @all_rd_old _ _ e72 rd_T72 ?_ ?_ ?_ ?_ _ _ _ (fun _ _ => rfl) ?_ ?_ ?_ ?_ ?_ ?_ ?_
           rotate_left 4
           assumption
           assumption
           (first | rfl | assumption)
           (first | assumption | exact lt_ix (by assumption) (by assumption) (by assumption) | exact lt_ix2 (by assumption) (by assumption) (by assumption) (by assumption) | exact lt_y (by assumption) (by assumption) | exact le_y (by assumption) | exact ge_y (by assumption) | exact cut_le (by assumption) (by assumption) | omega)
           (first | assumption | exact lt_ix (by assumption) (by assumption) (by assumption) | exact lt_ix2 (by assumption) (by assumption) (by assumption) (by assumption) | exact lt_y (by assumption) (by assumption) | exact le_y (by assumption) | exact ge_y (by assumption) | exact cut_le (by assumption) (by assumption) | omega)
           assumption
           cbv)
        | (refine @all_rd _ _ e72 rd_T72 ?_ ?_ ?_ _ _ _ (fun _ _ => rfl) ?_ ?_ ?_ ?_ ?_ ?_
           rotate_left 3
           assumption
           assumption
           (first | rfl | assumption)
           (first | assumption | exact lt_ix (by assumption) (by assumption) (by assumption) | exact lt_ix2 (by assumption) (by assumption) (by assumption) (by assumption) | exact lt_y (by assumption) (by assumption) | exact le_y (by assumption) | exact ge_y (by assumption) | exact cut_le (by assumption) (by assumption) | omega)
           (first | assumption | exact lt_ix (by assumption) (by assumption) (by assumption) | exact lt_ix2 (by assumption) (by assumption) (by assumption) (by assumption) | exact lt_y (by assumption) (by assumption) | exact le_y (by assumption) | exact ge_y (by assumption) | exact cut_le (by assumption) (by assumption) | omega)
           intro z hz
           (try rw [hz] at h); cbv))
    | (obtain ⟨hc, h'⟩ := if_none h; clear h; have h := h'; clear h'; (try simp only [List.length_nil, Nat.zero_add] at hc))
    | (obtain ⟨hc, h'⟩ := if_none' h; clear h; have h := h'; clear h')
    | (cases h; done)
    | (simp only [Option.bind_some] at h)
    | (simp only [Option.some.injEq, Prod.mk.injEq] at h; obtain ⟨rfl, rfl⟩ := h)
    | ((with_reducible show ∃ _, _)
       refine side (by first | exact enc_same (by assumption) (by assumption) _ | exact take_s1 (by assumption) (by assumption) (by assumption) | exact take_s2 (by assumption) (by assumption) (by assumption) (by assumption) (by assumption) | exact take_s3 (by assumption) (by assumption) (by assumption) | exact take_s4 (by assumption) (by assumption) (by assumption) | (intro k hk; subst_vars; first | eq_refl | exact enc_drop | exact enc_take hk | exact absurd hk (Nat.not_lt_zero k)) | (subst_vars; first | eq_refl | (simp; done) | (simp; omega)) | (have h1 : Int.toNat 1 = 1 := rfl; have h2 := one_le (by assumption) (by assumption); simp only [List.length_append, List.length_nil, List.length_drop, h1] at *; omega) | (simp only [Nat.cast] at *; omega)) ?_; (try cbv))
    | trivial
    | (exfalso; omega)
    | (simp only [beq_iff_eq] at h; first | rw [if_pos (by assumption)] at h | rw [if_neg (by assumption)] at h))

def impl_CommittedValues.f (k : Nat) (l0 : List (S72)) : Option (List Int × Bool) := (impl_areRecords.f k l0).bind fun t853 => (if t853 = true then ((impl_committedValues.f k l0).bind fun t854 => (some (t854, true))) else (some (([] : List Int), false)))

theorem impl_CommittedValues_ok (k : Nat) (l0 : List (S72)) (r0 : List Int) (r1 : Bool) (h : impl_CommittedValues.f k l0 = some (r0, r1)) (n_l0 : Nat) (hn_l0 : l0.length = n_l0) (g_l0 : Nat → List V) (hg_l0 : encL e72 l0 = g_l0) (n_r0 : Nat) (hn_r0 : r0.length = n_r0) (g_r0 : Nat → List V) (hg_r0 : encL eI r0 = g_r0) : CallOK Try.prog 79 [.fz 3 n_l0 g_l0] [] (.tup [.row 0 0 n_r0, .val (.bool r1)]) [.row 3 1 n_r0 g_r0] := by
  refine CallOK.of_code tabOK Try.func79 rfl rfl ⟨[], []⟩ ?_
  unfold impl_CommittedValues.f at h
  obtain ⟨P, hP⟩ : ∃ P, Try.prog = P := ⟨_, rfl⟩
  rw [hP]
  (try rw [hn_l0] at h); skip
  cbv
  repeat' (first
    | ((with_reducible show ∃ _, _)
       first
        | (refine ⟨trivial, ?_⟩; cbv)
        | (refine all_show (by first | omega | decide) ?_; cbv)
        | (refine side (by first | with_reducible eq_refl | assumption | (intro _ _; with_reducible eq_refl) | exact lt_ix (by assumption) (by assumption) (by assumption) | exact lt_ix2 (by assumption) (by assumption) (by assumption) (by assumption) | exact lt_y (by assumption) (by assumption) | exact le_y (by assumption) | exact ge_y (by assumption) | exact cut_le (by assumption) (by assumption) | omega | (dsimp only; omega)) ?_; (try cbv))
        | (refine bind_side (Eq.refl _) ?_; (try cbv))
        | (refine agree_side (Eq.refl _) ?_; (try cbv))
        | (refine agree_weak (Eq.refl _) ?_; (try cbv))
        | (refine ⟨.kept, side (Eq.refl _) (side (by first | trivial | exact ⟨clean_enc (by assumption) (by assumption) (fun _ => rfl), trivial⟩) ?_)⟩; cbv)
        | (refine ⟨.dead, ?_⟩; cbv)
        | (refine ⟨Frz.own, ?_⟩; cbv)
        | (refine ⟨.row, ?_⟩; cbv))
    | ((with_reducible show ∃ _ : List Nat, _)
       first
        | ((with_reducible (have h0 : Option.bind (impl_areRecords.f _ _) _ = some _ := h; clear h0))
           refine ⟨[], ?_⟩; cbv
           repeat (first | (refine all_show (by first | omega | decide) ?_; cbv) | (refine all_showT (by assumption) (by assumption) (by assumption) (by first | assumption | exact lt_ix (by assumption) (by assumption) (by assumption) | exact lt_ix2 (by assumption) (by assumption) (by assumption) (by assumption) | exact lt_y (by assumption) (by assumption) | exact le_y (by assumption) | exact ge_y (by assumption) | exact cut_le (by assumption) (by assumption) | omega) (by first | assumption | exact cut_hi (by assumption) | exact cut_hi2 (by assumption) (by assumption) | exact cut_hi3 (by assumption) | exact cut_hi4 (by assumption) (by assumption) | omega) ?_; intro D hD hnD g hgD; (try rw [hD] at h); cbv))
           obtain ⟨t, ht, h'⟩ := bind_some h
           clear h; have h := h'; clear h'; (try dsimp only at h)
           refine ⟨_, _, (hP ▸ impl_areRecords_ok _ _ _ ht _ (by first | assumption | rfl) _ (by assumption)  : CallOK P 157 _ _ _ _), ?_⟩
           rcases t with _ | _ <;> (try simp only [bs, eq_self, if_true, if_false, reduceIte] at h) <;> (try (cases h; done)) <;> cbv)
        | ((with_reducible (have h0 : Option.bind (impl_committedValues.f _ _) _ = some _ := h; clear h0))
           refine ⟨[], ?_⟩; cbv
           repeat (first | (refine all_show (by first | omega | decide) ?_; cbv) | (refine all_showT (by assumption) (by assumption) (by assumption) (by first | assumption | exact lt_ix (by assumption) (by assumption) (by assumption) | exact lt_ix2 (by assumption) (by assumption) (by assumption) (by assumption) | exact lt_y (by assumption) (by assumption) | exact le_y (by assumption) | exact ge_y (by assumption) | exact cut_le (by assumption) (by assumption) | omega) (by first | assumption | exact cut_hi (by assumption) | exact cut_hi2 (by assumption) (by assumption) | exact cut_hi3 (by assumption) | exact cut_hi4 (by assumption) (by assumption) | omega) ?_; intro D hD hnD g hgD; (try rw [hD] at h); cbv))
           obtain ⟨t, ht, h'⟩ := bind_some h
           clear h; have h := h'; clear h'; (try dsimp only at h)
           obtain ⟨n_c159_0, hn_c159_0⟩ : ∃ n, t.length = n := ⟨_, rfl⟩; obtain ⟨g_t, hg_c159_0⟩ : ∃ g, encL eI t = g := ⟨_, rfl⟩; (try rw [hn_c159_0] at h)
           refine ⟨_, _, (hP ▸ impl_committedValues_ok _ _ _ ht _ (by first | assumption | rfl) _ (by assumption) _ hn_c159_0 _ hg_c159_0 : CallOK P 159 _ _ _ _), ?_⟩; cbv))
    | ((with_reducible show ∃ _ : Nat → List V, _)
       first
        | (refine all_g0 ?_; cbv)
        | (refine all_putS eI (by assumption) (by assumption) (by (first | assumption | exact lt_ix (by assumption) (by assumption) (by assumption) | exact lt_ix2 (by assumption) (by assumption) (by assumption) (by assumption) | exact lt_y (by assumption) (by assumption) | exact le_y (by assumption) | exact ge_y (by assumption) | exact cut_le (by assumption) (by assumption) | omega)) rfl (fun _ => rfl) ?_; intro L hL hnL g hgL; (try rw [hL] at h); (try rw [Option.bind_some] at h); (try rw [hnL] at h); cbv)
        | (refine all_putS e72 (x := ⟨_, _, _⟩) (by assumption) (by assumption) (by (first | assumption | exact lt_ix (by assumption) (by assumption) (by assumption) | exact lt_ix2 (by assumption) (by assumption) (by assumption) (by assumption) | exact lt_y (by assumption) (by assumption) | exact le_y (by assumption) | exact ge_y (by assumption) | exact cut_le (by assumption) (by assumption) | omega)) rfl (fun _ => rfl) ?_; intro L hL hnL g hgL; (try rw [hL] at h); (try rw [Option.bind_some] at h); (try rw [hnL] at h); cbv)
        | (refine all_build1 e72 (x := ⟨_, _, _⟩) rfl ?_; intro g_b hg_b; cbv))
    | ((with_reducible show ∀ _ : Bool, _)
       first
        | (refine all_lt ?_ ?_ <;> (intro hd; first | exact absurd rfl hd | ((first | rw [if_pos hd] at h | rw [if_neg hd] at h | rw [if_pos (by omega)] at h | rw [if_neg (by omega)] at h | skip); (first | (rw [decide_eq_true hd] at h; (try simp only [bs, eq_self, if_true, if_false, reduceIte] at h)) | (rw [decide_eq_false hd] at h; (try simp only [bs, eq_self, if_true, if_false, reduceIte] at h)) | skip); cbv)))
        | (refine all_le ?_ ?_ <;> (intro hd; first | exact absurd rfl hd | ((first | rw [if_pos hd] at h | rw [if_neg hd] at h | rw [if_pos (by omega)] at h | rw [if_neg (by omega)] at h | skip); (first | (rw [decide_eq_true hd] at h; (try simp only [bs, eq_self, if_true, if_false, reduceIte] at h)) | (rw [decide_eq_false hd] at h; (try simp only [bs, eq_self, if_true, if_false, reduceIte] at h)) | skip); cbv)))
        | (refine all_beq ?_ ?_ <;> (intro hd; first | exact absurd rfl hd | ((first | rw [if_pos hd] at h | rw [if_neg hd] at h | rw [if_pos (by omega)] at h | rw [if_neg (by omega)] at h | skip); (first | (rw [beq_pos hd] at h; (try simp only [bs, eq_self, if_true, if_false, reduceIte] at h)) | (rw [beq_neg hd] at h; (try simp only [bs, eq_self, if_true, if_false, reduceIte] at h)) | skip); cbv)))
        | (refine all_bne ?_ ?_ <;> (intro hd; first | exact absurd rfl hd | ((first | rw [if_pos hd] at h | rw [if_neg hd] at h | rw [if_pos (by omega)] at h | rw [if_neg (by omega)] at h | skip); (first | (rw [bne_pos hd] at h; (try simp only [bs, eq_self, if_true, if_false, reduceIte] at h)) | (rw [bne_neg hd] at h; (try simp only [bs, eq_self, if_true, if_false, reduceIte] at h)) | skip); cbv)))
        | (refine all_cells rfl ?_ ?_ <;> (intro hd; (first | (rw [hd] at h; (try simp only [bs, eq_self, if_true, if_false, reduceIte] at h)) | skip); cbv))
        | (refine all_cellsN rfl ?_ ?_ <;> (intro hd; (first | (rw [hd] at h; (try simp only [bs, eq_self, if_true, if_false, reduceIte] at h)) | skip); cbv))
        | (refine all_not_true ?_; cbv)
        | (refine all_not_false ?_; cbv)
        | (refine all_not ?_ ?_ <;> (intro hd; subst hd; (try simp only [bs, eq_self, if_true, if_false, reduceIte] at h); cbv))
        | (refine all_bool ?_ ?_ <;> (intro hd; (try simp only [hd, bs, eq_self, if_true, if_false, reduceIte] at h); cbv)))
    | ((with_reducible show ∀ _ : Int, _)
       first
        | (refine all_u0 ?_; cbv)
        | (refine all_mn ?_; intro y hy; (try rw [hy] at h); cbv)
        | (refine all_mx ?_; intro y hy; (try rw [hy] at h); cbv)
        | (refine all_neg ?_; intro y hy; (try rw [hy] at h); cbv)
        | (refine all_shr40 ?_; intro y hy; (try rw [hy] at h); cbv)
        | (refine all_and ?_; intro y hy; (try rw [hy] at h); cbv)
        | (refine all_wrap_old (by assumption) ?_; cbv)
        | (refine all_wrap ?_; intro y hy; (try rw [hy] at h); cbv)
        | (refine all_len_old (by assumption) ?_; cbv)
        | (refine all_len ?_; intro y hy; (try replace hy : ((_ : Nat) : Int) = y := hy); (try rw [hy] at h); (try rw [show (NatCast.natCast _ : Int) = _ from hy] at h); cbv)
        | (refine all_old (α := Int) (by assumption) ?_; cbv)
        | (refine all_eq (α := Int) ?_; intro y hy; (try replace hy : ((_ : Nat) : Int) = y := hy); (try rw [hy] at h); cbv))
    | ((with_reducible show ∀ _ : Nat, _)
       first
        | (refine @all_cut0 ?_ ?_ ?_ ?_ _ _ _ ?_ ?_ ?_ ?_ ?_
           rotate_left 4
           assumption
           assumption
           (first | assumption | exact lt_ix (by assumption) (by assumption) (by assumption) | exact lt_ix2 (by assumption) (by assumption) (by assumption) (by assumption) | exact lt_y (by assumption) (by assumption) | exact le_y (by assumption) | exact ge_y (by assumption) | exact cut_le (by assumption) (by assumption) | omega)
           (first | assumption | exact cut_hi (by assumption) | exact cut_hi2 (by assumption) (by assumption) | exact cut_hi3 (by assumption) | exact cut_hi4 (by assumption) (by assumption) | omega)
           intro D hD n_D hnD g hgD; (try rw [hD] at h); (try rw [hnD] at h); cbv)
        | (refine @all_cutD ?_ ?_ ?_ ?_ _ _ _ _ ?_ ?_ ?_ ?_ ?_ ?_
           rotate_left 4
           assumption
           assumption
           (first | assumption | exact lt_ix (by assumption) (by assumption) (by assumption) | exact lt_ix2 (by assumption) (by assumption) (by assumption) (by assumption) | exact lt_y (by assumption) (by assumption) | exact le_y (by assumption) | exact ge_y (by assumption) | exact cut_le (by assumption) (by assumption) | omega)
           (first | assumption | exact lt_ix (by assumption) (by assumption) (by assumption) | exact lt_ix2 (by assumption) (by assumption) (by assumption) (by assumption) | exact lt_y (by assumption) (by assumption) | exact le_y (by assumption) | exact ge_y (by assumption) | exact cut_le (by assumption) (by assumption) | omega)
           assumption
           intro D hD n_D hnD g hgD; (try rw [hD] at h); (try rw [hnD] at h); cbv)
        | (refine @all_cut ?_ ?_ ?_ ?_ _ _ _ _ ?_ ?_ ?_ ?_ ?_ ?_
           rotate_left 4
           assumption
           assumption
           (first | assumption | exact lt_ix (by assumption) (by assumption) (by assumption) | exact lt_ix2 (by assumption) (by assumption) (by assumption) (by assumption) | exact lt_y (by assumption) (by assumption) | exact le_y (by assumption) | exact ge_y (by assumption) | exact cut_le (by assumption) (by assumption) | omega)
           (first | assumption | exact lt_ix (by assumption) (by assumption) (by assumption) | exact lt_ix2 (by assumption) (by assumption) (by assumption) (by assumption) | exact lt_y (by assumption) (by assumption) | exact le_y (by assumption) | exact ge_y (by assumption) | exact cut_le (by assumption) (by assumption) | omega)
           (first | assumption | exact cut_hi (by assumption) | exact cut_hi2 (by assumption) (by assumption) | exact cut_hi3 (by assumption) | exact cut_hi4 (by assumption) (by assumption) | omega)
           intro D hD n_D hnD g hgD; (try rw [hD] at h); (try rw [hnD] at h); cbv)
        | (refine all_ix0_old (by assumption) ?_; cbv)
        | (refine all_ix0 ?_; intro q hq; (try rw [hq] at h); cbv)
        | (refine all_app (by first | assumption | exact (rfl : encL _ ([] : List _) = _)) (by first | assumption | rfl) (by assumption) (by first | assumption | rfl) ?_; intro L hL n_L hnL g hgL; (try rw [hL] at h); (try rw [Option.bind_some] at h); (try rw [hnL] at h); cbv)
        | (refine all_appF (by first | assumption | exact (rfl : encL _ ([] : List _) = _)) (by first | assumption | rfl) (by assumption) (by first | assumption | rfl) ?_; intro L hL n_L hnL g hgL; (try rw [hL] at h); (try rw [Option.bind_some] at h); (try rw [hnL] at h); cbv)
        | (refine all_appD (by first | assumption | exact (rfl : encL _ ([] : List _) = _)) (by first | assumption | rfl) (by assumption) (by first | assumption | (simp only [List.length_drop]; omega)) ?_; intro L hL n_L hnL g hgL; (try rw [hL] at h); (try rw [Option.bind_some] at h); (try rw [hnL] at h); cbv)
        | (intro off' n' ho hn'; obtain rfl : off' = _ := ho; (try replace hn' := cut_len hn' (by assumption)); (try replace hn' := cut_len0 hn'); cbv)
        | (refine all_eq (α := Nat) ?_; intro y hy; (try rw [hy] at h); cbv))
    | ((with_reducible show ∀ _ : List V, _)
       first
        | (refine @all_rd_old _ _ eI rd ?_ ?_ ?_ ?_ _ _ _ (fun _ _ => rfl) ?_ ?_ ?_ ?_ ?_ ?_ ?_
           rotate_left 4
           assumption
           assumption
           (first | rfl | assumption)
           (first | assumption | exact lt_ix (by assumption) (by assumption) (by assumption) | exact lt_ix2 (by assumption) (by assumption) (by assumption) (by assumption) | exact lt_y (by assumption) (by assumption) | exact le_y (by assumption) | exact ge_y (by assumption) | exact cut_le (by assumption) (by assumption) | omega)
           (first | assumption | exact lt_ix (by assumption) (by assumption) (by assumption) | exact lt_ix2 (by assumption) (by assumption) (by assumption) (by assumption) | exact lt_y (by assumption) (by assumption) | exact le_y (by assumption) | exact ge_y (by assumption) | exact cut_le (by assumption) (by assumption) | omega)
           assumption
           cbv)
        | (refine @all_rd _ _ eI rd ?_ ?_ ?_ _ _ _ (fun _ _ => rfl) ?_ ?_ ?_ ?_ ?_ ?_
           rotate_left 3
           assumption
           assumption
           (first | rfl | assumption)
           (first | assumption | exact lt_ix (by assumption) (by assumption) (by assumption) | exact lt_ix2 (by assumption) (by assumption) (by assumption) (by assumption) | exact lt_y (by assumption) (by assumption) | exact le_y (by assumption) | exact ge_y (by assumption) | exact cut_le (by assumption) (by assumption) | omega)
           (first | assumption | exact lt_ix (by assumption) (by assumption) (by assumption) | exact lt_ix2 (by assumption) (by assumption) (by assumption) (by assumption) | exact lt_y (by assumption) (by assumption) | exact le_y (by assumption) | exact ge_y (by assumption) | exact cut_le (by assumption) (by assumption) | omega)
           intro z hz
           (try rw [hz] at h); cbv)
        | (refine @all_rd_old _ _ e72 rd_T72 ?_ ?_ ?_ ?_ _ _ _ (fun _ _ => rfl) ?_ ?_ ?_ ?_ ?_ ?_ ?_
           rotate_left 4
           assumption
           assumption
           (first | rfl | assumption)
           (first | assumption | exact lt_ix (by assumption) (by assumption) (by assumption) | exact lt_ix2 (by assumption) (by assumption) (by assumption) (by assumption) | exact lt_y (by assumption) (by assumption) | exact le_y (by assumption) | exact ge_y (by assumption) | exact cut_le (by assumption) (by assumption) | omega)
           (first | assumption | exact lt_ix (by assumption) (by assumption) (by assumption) | exact lt_ix2 (by assumption) (by assumption) (by assumption) (by assumption) | exact lt_y (by assumption) (by assumption) | exact le_y (by assumption) | exact ge_y (by assumption) | exact cut_le (by assumption) (by assumption) | omega)
           assumption
           cbv)
        | (refine @all_rd _ _ e72 rd_T72 ?_ ?_ ?_ _ _ _ (fun _ _ => rfl) ?_ ?_ ?_ ?_ ?_ ?_
           rotate_left 3
           assumption
           assumption
           (first | rfl | assumption)
           (first | assumption | exact lt_ix (by assumption) (by assumption) (by assumption) | exact lt_ix2 (by assumption) (by assumption) (by assumption) (by assumption) | exact lt_y (by assumption) (by assumption) | exact le_y (by assumption) | exact ge_y (by assumption) | exact cut_le (by assumption) (by assumption) | omega)
           (first | assumption | exact lt_ix (by assumption) (by assumption) (by assumption) | exact lt_ix2 (by assumption) (by assumption) (by assumption) (by assumption) | exact lt_y (by assumption) (by assumption) | exact le_y (by assumption) | exact ge_y (by assumption) | exact cut_le (by assumption) (by assumption) | omega)
           intro z hz
           (try rw [hz] at h); cbv))
    | (obtain ⟨hc, h'⟩ := if_none h; clear h; have h := h'; clear h'; (try simp only [List.length_nil, Nat.zero_add] at hc))
    | (obtain ⟨hc, h'⟩ := if_none' h; clear h; have h := h'; clear h')
    | (cases h; done)
    | (simp only [Option.bind_some] at h)
    | (simp only [Option.some.injEq, Prod.mk.injEq] at h; obtain ⟨rfl, rfl⟩ := h)
    | ((with_reducible show ∃ _, _)
       refine side (by first | exact enc_same (by assumption) (by assumption) _ | exact take_s1 (by assumption) (by assumption) (by assumption) | exact take_s2 (by assumption) (by assumption) (by assumption) (by assumption) (by assumption) | exact take_s3 (by assumption) (by assumption) (by assumption) | exact take_s4 (by assumption) (by assumption) (by assumption) | (intro k hk; subst_vars; first | eq_refl | exact enc_drop | exact enc_take hk | exact absurd hk (Nat.not_lt_zero k)) | (subst_vars; first | eq_refl | (simp; done) | (simp; omega)) | (have h1 : Int.toNat 1 = 1 := rfl; have h2 := one_le (by assumption) (by assumption); simp only [List.length_append, List.length_nil, List.length_drop, h1] at *; omega) | (simp only [Nat.cast] at *; omega)) ?_; (try cbv))
    | trivial
    | (exfalso; omega)
    | (simp only [beq_iff_eq] at h; first | rw [if_pos (by assumption)] at h | rw [if_neg (by assumption)] at h))

def spec_CommittedValues.f (k : Nat) (l0 : List (S72)) : Option (List Int × Bool) := (spec_jrGood.f k l0).bind fun t857 => (if t857 = true then ((spec_jrValues.f k l0).bind fun t858 => (some (t858, true))) else (some (([] : List Int), false)))

theorem spec_CommittedValues_ok (k : Nat) (l0 : List (S72)) (r0 : List Int) (r1 : Bool) (h : spec_CommittedValues.f k l0 = some (r0, r1)) (n_l0 : Nat) (hn_l0 : l0.length = n_l0) (g_l0 : Nat → List V) (hg_l0 : encL e72 l0 = g_l0) (n_r0 : Nat) (hn_r0 : r0.length = n_r0) (g_r0 : Nat → List V) (hg_r0 : encL eI r0 = g_r0) : CallOK Try.prog 80 [.fz 3 n_l0 g_l0] [] (.tup [.row 0 0 n_r0, .val (.bool r1)]) [.row 3 1 n_r0 g_r0] := by
  refine CallOK.of_code tabOK Try.func80 rfl rfl ⟨[], []⟩ ?_
  unfold spec_CommittedValues.f at h
  obtain ⟨P, hP⟩ : ∃ P, Try.prog = P := ⟨_, rfl⟩
  rw [hP]
  (try rw [hn_l0] at h); skip
  cbv
  repeat' (first
    | ((with_reducible show ∃ _, _)
       first
        | (refine ⟨trivial, ?_⟩; cbv)
        | (refine all_show (by first | omega | decide) ?_; cbv)
        | (refine side (by first | with_reducible eq_refl | assumption | (intro _ _; with_reducible eq_refl) | exact lt_ix (by assumption) (by assumption) (by assumption) | exact lt_ix2 (by assumption) (by assumption) (by assumption) (by assumption) | exact lt_y (by assumption) (by assumption) | exact le_y (by assumption) | exact ge_y (by assumption) | exact cut_le (by assumption) (by assumption) | omega | (dsimp only; omega)) ?_; (try cbv))
        | (refine bind_side (Eq.refl _) ?_; (try cbv))
        | (refine agree_side (Eq.refl _) ?_; (try cbv))
        | (refine agree_weak (Eq.refl _) ?_; (try cbv))
        | (refine ⟨.kept, side (Eq.refl _) (side (by first | trivial | exact ⟨clean_enc (by assumption) (by assumption) (fun _ => rfl), trivial⟩) ?_)⟩; cbv)
        | (refine ⟨.dead, ?_⟩; cbv)
        | (refine ⟨Frz.own, ?_⟩; cbv)
        | (refine ⟨.row, ?_⟩; cbv))
    | ((with_reducible show ∃ _ : List Nat, _)
       first
        | ((with_reducible (have h0 : Option.bind (spec_jrGood.f _ _) _ = some _ := h; clear h0))
           refine ⟨[], ?_⟩; cbv
           repeat (first | (refine all_show (by first | omega | decide) ?_; cbv) | (refine all_showT (by assumption) (by assumption) (by assumption) (by first | assumption | exact lt_ix (by assumption) (by assumption) (by assumption) | exact lt_ix2 (by assumption) (by assumption) (by assumption) (by assumption) | exact lt_y (by assumption) (by assumption) | exact le_y (by assumption) | exact ge_y (by assumption) | exact cut_le (by assumption) (by assumption) | omega) (by first | assumption | exact cut_hi (by assumption) | exact cut_hi2 (by assumption) (by assumption) | exact cut_hi3 (by assumption) | exact cut_hi4 (by assumption) (by assumption) | omega) ?_; intro D hD hnD g hgD; (try rw [hD] at h); cbv))
           obtain ⟨t, ht, h'⟩ := bind_some h
           clear h; have h := h'; clear h'; (try dsimp only at h)
           refine ⟨_, _, (hP ▸ spec_jrGood_ok _ _ _ ht _ (by first | assumption | rfl) _ (by assumption)  : CallOK P 160 _ _ _ _), ?_⟩
           rcases t with _ | _ <;> (try simp only [bs, eq_self, if_true, if_false, reduceIte] at h) <;> (try (cases h; done)) <;> cbv)
        | ((with_reducible (have h0 : Option.bind (spec_jrValues.f _ _) _ = some _ := h; clear h0))
           refine ⟨[], ?_⟩; cbv
           repeat (first | (refine all_show (by first | omega | decide) ?_; cbv) | (refine all_showT (by assumption) (by assumption) (by assumption) (by first | assumption | exact lt_ix (by assumption) (by assumption) (by assumption) | exact lt_ix2 (by assumption) (by assumption) (by assumption) (by assumption) | exact lt_y (by assumption) (by assumption) | exact le_y (by assumption) | exact ge_y (by assumption) | exact cut_le (by assumption) (by assumption) | omega) (by first | assumption | exact cut_hi (by assumption) | exact cut_hi2 (by assumption) (by assumption) | exact cut_hi3 (by assumption) | exact cut_hi4 (by assumption) (by assumption) | omega) ?_; intro D hD hnD g hgD; (try rw [hD] at h); cbv))
           obtain ⟨t, ht, h'⟩ := bind_some h
           clear h; have h := h'; clear h'; (try dsimp only at h)
           obtain ⟨n_c162_0, hn_c162_0⟩ : ∃ n, t.length = n := ⟨_, rfl⟩; obtain ⟨g_t, hg_c162_0⟩ : ∃ g, encL eI t = g := ⟨_, rfl⟩; (try rw [hn_c162_0] at h)
           refine ⟨_, _, (hP ▸ spec_jrValues_ok _ _ _ ht _ (by first | assumption | rfl) _ (by assumption) _ hn_c162_0 _ hg_c162_0 : CallOK P 162 _ _ _ _), ?_⟩; cbv))
    | ((with_reducible show ∃ _ : Nat → List V, _)
       first
        | (refine all_g0 ?_; cbv)
        | (refine all_putS eI (by assumption) (by assumption) (by (first | assumption | exact lt_ix (by assumption) (by assumption) (by assumption) | exact lt_ix2 (by assumption) (by assumption) (by assumption) (by assumption) | exact lt_y (by assumption) (by assumption) | exact le_y (by assumption) | exact ge_y (by assumption) | exact cut_le (by assumption) (by assumption) | omega)) rfl (fun _ => rfl) ?_; intro L hL hnL g hgL; (try rw [hL] at h); (try rw [Option.bind_some] at h); (try rw [hnL] at h); cbv)
        | (refine all_putS e72 (x := ⟨_, _, _⟩) (by assumption) (by assumption) (by (first | assumption | exact lt_ix (by assumption) (by assumption) (by assumption) | exact lt_ix2 (by assumption) (by assumption) (by assumption) (by assumption) | exact lt_y (by assumption) (by assumption) | exact le_y (by assumption) | exact ge_y (by assumption) | exact cut_le (by assumption) (by assumption) | omega)) rfl (fun _ => rfl) ?_; intro L hL hnL g hgL; (try rw [hL] at h); (try rw [Option.bind_some] at h); (try rw [hnL] at h); cbv)
        | (refine all_build1 e72 (x := ⟨_, _, _⟩) rfl ?_; intro g_b hg_b; cbv))
    | ((with_reducible show ∀ _ : Bool, _)
       first
        | (refine all_lt ?_ ?_ <;> (intro hd; first | exact absurd rfl hd | ((first | rw [if_pos hd] at h | rw [if_neg hd] at h | rw [if_pos (by omega)] at h | rw [if_neg (by omega)] at h | skip); (first | (rw [decide_eq_true hd] at h; (try simp only [bs, eq_self, if_true, if_false, reduceIte] at h)) | (rw [decide_eq_false hd] at h; (try simp only [bs, eq_self, if_true, if_false, reduceIte] at h)) | skip); cbv)))
        | (refine all_le ?_ ?_ <;> (intro hd; first | exact absurd rfl hd | ((first | rw [if_pos hd] at h | rw [if_neg hd] at h | rw [if_pos (by omega)] at h | rw [if_neg (by omega)] at h | skip); (first | (rw [decide_eq_true hd] at h; (try simp only [bs, eq_self, if_true, if_false, reduceIte] at h)) | (rw [decide_eq_false hd] at h; (try simp only [bs, eq_self, if_true, if_false, reduceIte] at h)) | skip); cbv)))
        | (refine all_beq ?_ ?_ <;> (intro hd; first | exact absurd rfl hd | ((first | rw [if_pos hd] at h | rw [if_neg hd] at h | rw [if_pos (by omega)] at h | rw [if_neg (by omega)] at h | skip); (first | (rw [beq_pos hd] at h; (try simp only [bs, eq_self, if_true, if_false, reduceIte] at h)) | (rw [beq_neg hd] at h; (try simp only [bs, eq_self, if_true, if_false, reduceIte] at h)) | skip); cbv)))
        | (refine all_bne ?_ ?_ <;> (intro hd; first | exact absurd rfl hd | ((first | rw [if_pos hd] at h | rw [if_neg hd] at h | rw [if_pos (by omega)] at h | rw [if_neg (by omega)] at h | skip); (first | (rw [bne_pos hd] at h; (try simp only [bs, eq_self, if_true, if_false, reduceIte] at h)) | (rw [bne_neg hd] at h; (try simp only [bs, eq_self, if_true, if_false, reduceIte] at h)) | skip); cbv)))
        | (refine all_cells rfl ?_ ?_ <;> (intro hd; (first | (rw [hd] at h; (try simp only [bs, eq_self, if_true, if_false, reduceIte] at h)) | skip); cbv))
        | (refine all_cellsN rfl ?_ ?_ <;> (intro hd; (first | (rw [hd] at h; (try simp only [bs, eq_self, if_true, if_false, reduceIte] at h)) | skip); cbv))
        | (refine all_not_true ?_; cbv)
        | (refine all_not_false ?_; cbv)
        | (refine all_not ?_ ?_ <;> (intro hd; subst hd; (try simp only [bs, eq_self, if_true, if_false, reduceIte] at h); cbv))
        | (refine all_bool ?_ ?_ <;> (intro hd; (try simp only [hd, bs, eq_self, if_true, if_false, reduceIte] at h); cbv)))
    | ((with_reducible show ∀ _ : Int, _)
       first
        | (refine all_u0 ?_; cbv)
        | (refine all_mn ?_; intro y hy; (try rw [hy] at h); cbv)
        | (refine all_mx ?_; intro y hy; (try rw [hy] at h); cbv)
        | (refine all_neg ?_; intro y hy; (try rw [hy] at h); cbv)
        | (refine all_shr40 ?_; intro y hy; (try rw [hy] at h); cbv)
        | (refine all_and ?_; intro y hy; (try rw [hy] at h); cbv)
        | (refine all_wrap_old (by assumption) ?_; cbv)
        | (refine all_wrap ?_; intro y hy; (try rw [hy] at h); cbv)
        | (refine all_len_old (by assumption) ?_; cbv)
        | (refine all_len ?_; intro y hy; (try replace hy : ((_ : Nat) : Int) = y := hy); (try rw [hy] at h); (try rw [show (NatCast.natCast _ : Int) = _ from hy] at h); cbv)
        | (refine all_old (α := Int) (by assumption) ?_; cbv)
        | (refine all_eq (α := Int) ?_; intro y hy; (try replace hy : ((_ : Nat) : Int) = y := hy); (try rw [hy] at h); cbv))
    | ((with_reducible show ∀ _ : Nat, _)
       first
        | (refine @all_cut0 ?_ ?_ ?_ ?_ _ _ _ ?_ ?_ ?_ ?_ ?_
           rotate_left 4
           assumption
           assumption
           (first | assumption | exact lt_ix (by assumption) (by assumption) (by assumption) | exact lt_ix2 (by assumption) (by assumption) (by assumption) (by assumption) | exact lt_y (by assumption) (by assumption) | exact le_y (by assumption) | exact ge_y (by assumption) | exact cut_le (by assumption) (by assumption) | omega)
           (first | assumption | exact cut_hi (by assumption) | exact cut_hi2 (by assumption) (by assumption) | exact cut_hi3 (by assumption) | exact cut_hi4 (by assumption) (by assumption) | omega)
           intro D hD n_D hnD g hgD; (try rw [hD] at h); (try rw [hnD] at h); cbv)
        | (refine @all_cutD ?_ ?_ ?_ ?_ _ _ _ _ ?_ ?_ ?_ ?_ ?_ ?_
           rotate_left 4
           assumption
           assumption
           (first | assumption | exact lt_ix (by assumption) (by assumption) (by assumption) | exact lt_ix2 (by assumption) (by assumption) (by assumption) (by assumption) | exact lt_y (by assumption) (by assumption) | exact le_y (by assumption) | exact ge_y (by assumption) | exact cut_le (by assumption) (by assumption) | omega)
           (first | assumption | exact lt_ix (by assumption) (by assumption) (by assumption) | exact lt_ix2 (by assumption) (by assumption) (by assumption) (by assumption) | exact lt_y (by assumption) (by assumption) | exact le_y (by assumption) | exact ge_y (by assumption) | exact cut_le (by assumption) (by assumption) | omega)
           assumption
           intro D hD n_D hnD g hgD; (try rw [hD] at h); (try rw [hnD] at h); cbv)
        | (refine @all_cut ?_ ?_ ?_ ?_ _ _ _ _ ?_ ?_ ?_ ?_ ?_ ?_
           rotate_left 4
           assumption
           assumption
           (first | assumption | exact lt_ix (by assumption) (by assumption) (by assumption) | exact lt_ix2 (by assumption) (by assumption) (by assumption) (by assumption) | exact lt_y (by assumption) (by assumption) | exact le_y (by assumption) | exact ge_y (by assumption) | exact cut_le (by assumption) (by assumption) | omega)
           (first | assumption | exact lt_ix (by assumption) (by assumption) (by assumption) | exact lt_ix2 (by assumption) (by assumption) (by assumption) (by assumption) | exact lt_y (by assumption) (by assumption) | exact le_y (by assumption) | exact ge_y (by assumption) | exact cut_le (by assumption) (by assumption) | omega)
           (first | assumption | exact cut_hi (by assumption) | exact cut_hi2 (by assumption) (by assumption) | exact cut_hi3 (by assumption) | exact cut_hi4 (by assumption) (by assumption) | omega)
           intro D hD n_D hnD g hgD; (try rw [hD] at h); (try rw [hnD] at h); cbv)
        | (refine all_ix0_old (by assumption) ?_; cbv)
        | (refine all_ix0 ?_; intro q hq; (try rw [hq] at h); cbv)
        | (refine all_app (by first | assumption | exact (rfl : encL _ ([] : List _) = _)) (by first | assumption | rfl) (by assumption) (by first | assumption | rfl) ?_; intro L hL n_L hnL g hgL; (try rw [hL] at h); (try rw [Option.bind_some] at h); (try rw [hnL] at h); cbv)
        | (refine all_appF (by first | assumption | exact (rfl : encL _ ([] : List _) = _)) (by first | assumption | rfl) (by assumption) (by first | assumption | rfl) ?_; intro L hL n_L hnL g hgL; (try rw [hL] at h); (try rw [Option.bind_some] at h); (try rw [hnL] at h); cbv)
        | (refine all_appD (by first | assumption | exact (rfl : encL _ ([] : List _) = _)) (by first | assumption | rfl) (by assumption) (by first | assumption | (simp only [List.length_drop]; omega)) ?_; intro L hL n_L hnL g hgL; (try rw [hL] at h); (try rw [Option.bind_some] at h); (try rw [hnL] at h); cbv)
        | (intro off' n' ho hn'; obtain rfl : off' = _ := ho; (try replace hn' := cut_len hn' (by assumption)); (try replace hn' := cut_len0 hn'); cbv)
        | (refine all_eq (α := Nat) ?_; intro y hy; (try rw [hy] at h); cbv))
    | ((with_reducible show ∀ _ : List V, _)
       first
        | (refine @all_rd_old _ _ eI rd ?_ ?_ ?_ ?_ _ _ _ (fun _ _ => rfl) ?_ ?_ ?_ ?_ ?_ ?_ ?_
           rotate_left 4
           assumption
           assumption
           (first | rfl | assumption)
           (first | assumption | exact lt_ix (by assumption) (by assumption) (by assumption) | exact lt_ix2 (by assumption) (by assumption) (by assumption) (by assumption) | exact lt_y (by assumption) (by assumption) | exact le_y (by assumption) | exact ge_y (by assumption) | exact cut_le (by assumption) (by assumption) | omega)
           (first | assumption | exact lt_ix (by assumption) (by assumption) (by assumption) | exact lt_ix2 (by assumption) (by assumption) (by assumption) (by assumption) | exact lt_y (by assumption) (by assumption) | exact le_y (by assumption) | exact ge_y (by assumption) | exact cut_le (by assumption) (by assumption) | omega)
           assumption
           cbv)
        | (refine @all_rd _ _ eI rd ?_ ?_ ?_ _ _ _ (fun _ _ => rfl) ?_ ?_ ?_ ?_ ?_ ?_
           rotate_left 3
           assumption
           assumption
           (first | rfl | assumption)
           (first | assumption | exact lt_ix (by assumption) (by assumption) (by assumption) | exact lt_ix2 (by assumption) (by assumption) (by assumption) (by assumption) | exact lt_y (by assumption) (by assumption) | exact le_y (by assumption) | exact ge_y (by assumption) | exact cut_le (by assumption) (by assumption) | omega)
           (first | assumption | exact lt_ix (by assumption) (by assumption) (by assumption) | exact lt_ix2 (by assumption) (by assumption) (by assumption) (by assumption) | exact lt_y (by assumption) (by assumption) | exact le_y (by assumption) | exact ge_y (by assumption) | exact cut_le (by assumption) (by assumption) | omega)
           intro z hz
           (try rw [hz] at h); cbv)
        | (refine @all_rd_old _ _ e72 rd_T72 ?_ ?_ ?_ ?_ _ _ _ (fun _ _ => rfl) ?_ ?_ ?_ ?_ ?_ ?_ ?_
           rotate_left 4
           assumption
           assumption
           (first | rfl | assumption)
           (first | assumption | exact lt_ix (by assumption) (by assumption) (by assumption) | exact lt_ix2 (by assumption) (by assumption) (by assumption) (by assumption) | exact lt_y (by assumption) (by assumption) | exact le_y (by assumption) | exact ge_y (by assumption) | exact cut_le (by assumption) (by assumption) | omega)
           (first | assumption | exact lt_ix (by assumption) (by assumption) (by assumption) | exact lt_ix2 (by assumption) (by assumption) (by assumption) (by assumption) | exact lt_y (by assumption) (by assumption) | exact le_y (by assumption) | exact ge_y (by assumption) | exact cut_le (by assumption) (by assumption) | omega)
           assumption
           cbv)
        | (refine @all_rd _ _ e72 rd_T72 ?_ ?_ ?_ _ _ _ (fun _ _ => rfl) ?_ ?_ ?_ ?_ ?_ ?_
           rotate_left 3
           assumption
           assumption
           (first | rfl | assumption)
           (first | assumption | exact lt_ix (by assumption) (by assumption) (by assumption) | exact lt_ix2 (by assumption) (by assumption) (by assumption) (by assumption) | exact lt_y (by assumption) (by assumption) | exact le_y (by assumption) | exact ge_y (by assumption) | exact cut_le (by assumption) (by assumption) | omega)
           (first | assumption | exact lt_ix (by assumption) (by assumption) (by assumption) | exact lt_ix2 (by assumption) (by assumption) (by assumption) (by assumption) | exact lt_y (by assumption) (by assumption) | exact le_y (by assumption) | exact ge_y (by assumption) | exact cut_le (by assumption) (by assumption) | omega)
           intro z hz
           (try rw [hz] at h); cbv))
    | (obtain ⟨hc, h'⟩ := if_none h; clear h; have h := h'; clear h'; (try simp only [List.length_nil, Nat.zero_add] at hc))
    | (obtain ⟨hc, h'⟩ := if_none' h; clear h; have h := h'; clear h')
    | (cases h; done)
    | (simp only [Option.bind_some] at h)
    | (simp only [Option.some.injEq, Prod.mk.injEq] at h; obtain ⟨rfl, rfl⟩ := h)
    | ((with_reducible show ∃ _, _)
       refine side (by first | exact enc_same (by assumption) (by assumption) _ | exact take_s1 (by assumption) (by assumption) (by assumption) | exact take_s2 (by assumption) (by assumption) (by assumption) (by assumption) (by assumption) | exact take_s3 (by assumption) (by assumption) (by assumption) | exact take_s4 (by assumption) (by assumption) (by assumption) | (intro k hk; subst_vars; first | eq_refl | exact enc_drop | exact enc_take hk | exact absurd hk (Nat.not_lt_zero k)) | (subst_vars; first | eq_refl | (simp; done) | (simp; omega)) | (have h1 : Int.toNat 1 = 1 := rfl; have h2 := one_le (by assumption) (by assumption); simp only [List.length_append, List.length_nil, List.length_drop, h1] at *; omega) | (simp only [Nat.cast] at *; omega)) ?_; (try cbv))
    | trivial
    | (exfalso; omega)
    | (simp only [beq_iff_eq] at h; first | rw [if_pos (by assumption)] at h | rw [if_neg (by assumption)] at h))

def impl_CommittedPart.f (k : Nat) (l0 : List (S72)) : Option ((List (S72)) × Bool) := (impl_areRecords.f k l0).bind fun t861 => (if t861 = true then ((impl_committedPart.f k l0).bind fun t862 => (some (t862, true))) else (some (([] : List (S72)), false)))

theorem impl_CommittedPart_ok (k : Nat) (l0 : List (S72)) (r0 : (List (S72))) (r1 : Bool) (h : impl_CommittedPart.f k l0 = some (r0, r1)) (n_l0 : Nat) (hn_l0 : l0.length = n_l0) (g_l0 : Nat → List V) (hg_l0 : encL e72 l0 = g_l0) (n_r0 : Nat) (hn_r0 : r0.length = n_r0) (g_r0 : Nat → List V) (hg_r0 : encL e72 r0 = g_r0) : CallOK Try.prog 81 [.fz 3 n_l0 g_l0] [] (.tup [.row 0 0 n_r0, .val (.bool r1)]) [.row 72 3 n_r0 g_r0] := by
  refine CallOK.of_code tabOK Try.func81 rfl rfl ⟨[], []⟩ ?_
  unfold impl_CommittedPart.f at h
  obtain ⟨P, hP⟩ : ∃ P, Try.prog = P := ⟨_, rfl⟩
  rw [hP]
  (try rw [hn_l0] at h); skip
  cbv
  repeat' (first
    | ((with_reducible show ∃ _, _)
       first
        | (refine ⟨trivial, ?_⟩; cbv)
        | (refine all_show (by first | omega | decide) ?_; cbv)
        | (refine side (by first | with_reducible eq_refl | assumption | (intro _ _; with_reducible eq_refl) | exact lt_ix (by assumption) (by assumption) (by assumption) | exact lt_ix2 (by assumption) (by assumption) (by assumption) (by assumption) | exact lt_y (by assumption) (by assumption) | exact le_y (by assumption) | exact ge_y (by assumption) | exact cut_le (by assumption) (by assumption) | omega | (dsimp only; omega)) ?_; (try cbv))
        | (refine bind_side (Eq.refl _) ?_; (try cbv))
        | (refine agree_side (Eq.refl _) ?_; (try cbv))
        | (refine agree_weak (Eq.refl _) ?_; (try cbv))
        | (refine ⟨.kept, side (Eq.refl _) (side (by first | trivial | exact ⟨clean_enc (by assumption) (by assumption) (fun _ => rfl), trivial⟩) ?_)⟩; cbv)
        | (refine ⟨.dead, ?_⟩; cbv)
        | (refine ⟨Frz.own, ?_⟩; cbv)
        | (refine ⟨.row, ?_⟩; cbv))
    | ((with_reducible show ∃ _ : List Nat, _)
       first
        | ((with_reducible (have h0 : Option.bind (impl_areRecords.f _ _) _ = some _ := h; clear h0))
           refine ⟨[], ?_⟩; cbv
           repeat (first | (refine all_show (by first | omega | decide) ?_; cbv) | (refine all_showT (by assumption) (by assumption) (by assumption) (by first | assumption | exact lt_ix (by assumption) (by assumption) (by assumption) | exact lt_ix2 (by assumption) (by assumption) (by assumption) (by assumption) | exact lt_y (by assumption) (by assumption) | exact le_y (by assumption) | exact ge_y (by assumption) | exact cut_le (by assumption) (by assumption) | omega) (by first | assumption | exact cut_hi (by assumption) | exact cut_hi2 (by assumption) (by assumption) | exact cut_hi3 (by assumption) | exact cut_hi4 (by assumption) (by assumption) | omega) ?_; intro D hD hnD g hgD; (try rw [hD] at h); cbv))
           obtain ⟨t, ht, h'⟩ := bind_some h
           clear h; have h := h'; clear h'; (try dsimp only at h)
           refine ⟨_, _, (hP ▸ impl_areRecords_ok _ _ _ ht _ (by first | assumption | rfl) _ (by assumption)  : CallOK P 157 _ _ _ _), ?_⟩
           rcases t with _ | _ <;> (try simp only [bs, eq_self, if_true, if_false, reduceIte] at h) <;> (try (cases h; done)) <;> cbv)
        | ((with_reducible (have h0 : Option.bind (impl_committedPart.f _ _) _ = some _ := h; clear h0))
           refine ⟨[], ?_⟩; cbv
           repeat (first | (refine all_show (by first | omega | decide) ?_; cbv) | (refine all_showT (by assumption) (by assumption) (by assumption) (by first | assumption | exact lt_ix (by assumption) (by assumption) (by assumption) | exact lt_ix2 (by assumption) (by assumption) (by assumption) (by assumption) | exact lt_y (by assumption) (by assumption) | exact le_y (by assumption) | exact ge_y (by assumption) | exact cut_le (by assumption) (by assumption) | omega) (by first | assumption | exact cut_hi (by assumption) | exact cut_hi2 (by assumption) (by assumption) | exact cut_hi3 (by assumption) | exact cut_hi4 (by assumption) (by assumption) | omega) ?_; intro D hD hnD g hgD; (try rw [hD] at h); cbv))
           obtain ⟨t, ht, h'⟩ := bind_some h
           clear h; have h := h'; clear h'; (try dsimp only at h)
           obtain ⟨n_c179_0, hn_c179_0⟩ : ∃ n, t.length = n := ⟨_, rfl⟩; obtain ⟨g_t, hg_c179_0⟩ : ∃ g, encL e72 t = g := ⟨_, rfl⟩; (try rw [hn_c179_0] at h)
           refine ⟨_, _, (hP ▸ impl_committedPart_ok _ _ _ ht _ (by first | assumption | rfl) _ (by assumption) _ hn_c179_0 _ hg_c179_0 : CallOK P 179 _ _ _ _), ?_⟩; cbv))
    | ((with_reducible show ∃ _ : Nat → List V, _)
       first
        | (refine all_g0 ?_; cbv)
        | (refine all_putS e72 (x := ⟨_, _, _⟩) (by assumption) (by assumption) (by (first | assumption | exact lt_ix (by assumption) (by assumption) (by assumption) | exact lt_ix2 (by assumption) (by assumption) (by assumption) (by assumption) | exact lt_y (by assumption) (by assumption) | exact le_y (by assumption) | exact ge_y (by assumption) | exact cut_le (by assumption) (by assumption) | omega)) rfl (fun _ => rfl) ?_; intro L hL hnL g hgL; (try rw [hL] at h); (try rw [Option.bind_some] at h); (try rw [hnL] at h); cbv)
        | (refine all_build1 e72 (x := ⟨_, _, _⟩) rfl ?_; intro g_b hg_b; cbv))
    | ((with_reducible show ∀ _ : Bool, _)
       first
        | (refine all_lt ?_ ?_ <;> (intro hd; first | exact absurd rfl hd | ((first | rw [if_pos hd] at h | rw [if_neg hd] at h | rw [if_pos (by omega)] at h | rw [if_neg (by omega)] at h | skip); (first | (rw [decide_eq_true hd] at h; (try simp only [bs, eq_self, if_true, if_false, reduceIte] at h)) | (rw [decide_eq_false hd] at h; (try simp only [bs, eq_self, if_true, if_false, reduceIte] at h)) | skip); cbv)))
        | (refine all_le ?_ ?_ <;> (intro hd; first | exact absurd rfl hd | ((first | rw [if_pos hd] at h | rw [if_neg hd] at h | rw [if_pos (by omega)] at h | rw [if_neg (by omega)] at h | skip); (first | (rw [decide_eq_true hd] at h; (try simp only [bs, eq_self, if_true, if_false, reduceIte] at h)) | (rw [decide_eq_false hd] at h; (try simp only [bs, eq_self, if_true, if_false, reduceIte] at h)) | skip); cbv)))
        | (refine all_beq ?_ ?_ <;> (intro hd; first | exact absurd rfl hd | ((first | rw [if_pos hd] at h | rw [if_neg hd] at h | rw [if_pos (by omega)] at h | rw [if_neg (by omega)] at h | skip); (first | (rw [beq_pos hd] at h; (try simp only [bs, eq_self, if_true, if_false, reduceIte] at h)) | (rw [beq_neg hd] at h; (try simp only [bs, eq_self, if_true, if_false, reduceIte] at h)) | skip); cbv)))
        | (refine all_bne ?_ ?_ <;> (intro hd; first | exact absurd rfl hd | ((first | rw [if_pos hd] at h | rw [if_neg hd] at h | rw [if_pos (by omega)] at h | rw [if_neg (by omega)] at h | skip); (first | (rw [bne_pos hd] at h; (try simp only [bs, eq_self, if_true, if_false, reduceIte] at h)) | (rw [bne_neg hd] at h; (try simp only [bs, eq_self, if_true, if_false, reduceIte] at h)) | skip); cbv)))
        | (refine all_cells rfl ?_ ?_ <;> (intro hd; (first | (rw [hd] at h; (try simp only [bs, eq_self, if_true, if_false, reduceIte] at h)) | skip); cbv))
        | (refine all_cellsN rfl ?_ ?_ <;> (intro hd; (first | (rw [hd] at h; (try simp only [bs, eq_self, if_true, if_false, reduceIte] at h)) | skip); cbv))
        | (refine all_not_true ?_; cbv)
        | (refine all_not_false ?_; cbv)
        | (refine all_not ?_ ?_ <;> (intro hd; subst hd; (try simp only [bs, eq_self, if_true, if_false, reduceIte] at h); cbv))
        | (refine all_bool ?_ ?_ <;> (intro hd; (try simp only [hd, bs, eq_self, if_true, if_false, reduceIte] at h); cbv)))
    | ((with_reducible show ∀ _ : Int, _)
       first
        | (refine all_u0 ?_; cbv)
        | (refine all_mn ?_; intro y hy; (try rw [hy] at h); cbv)
        | (refine all_mx ?_; intro y hy; (try rw [hy] at h); cbv)
        | (refine all_neg ?_; intro y hy; (try rw [hy] at h); cbv)
        | (refine all_shr40 ?_; intro y hy; (try rw [hy] at h); cbv)
        | (refine all_and ?_; intro y hy; (try rw [hy] at h); cbv)
        | (refine all_wrap_old (by assumption) ?_; cbv)
        | (refine all_wrap ?_; intro y hy; (try rw [hy] at h); cbv)
        | (refine all_len_old (by assumption) ?_; cbv)
        | (refine all_len ?_; intro y hy; (try replace hy : ((_ : Nat) : Int) = y := hy); (try rw [hy] at h); (try rw [show (NatCast.natCast _ : Int) = _ from hy] at h); cbv)
        | (refine all_old (α := Int) (by assumption) ?_; cbv)
        | (refine all_eq (α := Int) ?_; intro y hy; (try replace hy : ((_ : Nat) : Int) = y := hy); (try rw [hy] at h); cbv))
    | ((with_reducible show ∀ _ : Nat, _)
       first
        | (refine @all_cut0 ?_ ?_ ?_ ?_ _ _ _ ?_ ?_ ?_ ?_ ?_
           rotate_left 4
           assumption
           assumption
           (first | assumption | exact lt_ix (by assumption) (by assumption) (by assumption) | exact lt_ix2 (by assumption) (by assumption) (by assumption) (by assumption) | exact lt_y (by assumption) (by assumption) | exact le_y (by assumption) | exact ge_y (by assumption) | exact cut_le (by assumption) (by assumption) | omega)
           (first | assumption | exact cut_hi (by assumption) | exact cut_hi2 (by assumption) (by assumption) | exact cut_hi3 (by assumption) | exact cut_hi4 (by assumption) (by assumption) | omega)
           intro D hD n_D hnD g hgD; (try rw [hD] at h); (try rw [hnD] at h); cbv)
        | (refine @all_cutD ?_ ?_ ?_ ?_ _ _ _ _ ?_ ?_ ?_ ?_ ?_ ?_
           rotate_left 4
           assumption
           assumption
           (first | assumption | exact lt_ix (by assumption) (by assumption) (by assumption) | exact lt_ix2 (by assumption) (by assumption) (by assumption) (by assumption) | exact lt_y (by assumption) (by assumption) | exact le_y (by assumption) | exact ge_y (by assumption) | exact cut_le (by assumption) (by assumption) | omega)
           (first | assumption | exact lt_ix (by assumption) (by assumption) (by assumption) | exact lt_ix2 (by assumption) (by assumption) (by assumption) (by assumption) | exact lt_y (by assumption) (by assumption) | exact le_y (by assumption) | exact ge_y (by assumption) | exact cut_le (by assumption) (by assumption) | omega)
           assumption
           intro D hD n_D hnD g hgD; (try rw [hD] at h); (try rw [hnD] at h); cbv)
        | (refine @all_cut ?_ ?_ ?_ ?_ _ _ _ _ ?_ ?_ ?_ ?_ ?_ ?_
           rotate_left 4
           assumption
           assumption
           (first | assumption | exact lt_ix (by assumption) (by assumption) (by assumption) | exact lt_ix2 (by assumption) (by assumption) (by assumption) (by assumption) | exact lt_y (by assumption) (by assumption) | exact le_y (by assumption) | exact ge_y (by assumption) | exact cut_le (by assumption) (by assumption) | omega)
           (first | assumption | exact lt_ix (by assumption) (by assumption) (by assumption) | exact lt_ix2 (by assumption) (by assumption) (by assumption) (by assumption) | exact lt_y (by assumption) (by assumption) | exact le_y (by assumption) | exact ge_y (by assumption) | exact cut_le (by assumption) (by assumption) | omega)
           (first | assumption | exact cut_hi (by assumption) | exact cut_hi2 (by assumption) (by assumption) | exact cut_hi3 (by assumption) | exact cut_hi4 (by assumption) (by assumption) | omega)
           intro D hD n_D hnD g hgD; (try rw [hD] at h); (try rw [hnD] at h); cbv)
        | (refine all_ix0_old (by assumption) ?_; cbv)
        | (refine all_ix0 ?_; intro q hq; (try rw [hq] at h); cbv)
        | (refine all_app (by first | assumption | exact (rfl : encL _ ([] : List _) = _)) (by first | assumption | rfl) (by assumption) (by first | assumption | rfl) ?_; intro L hL n_L hnL g hgL; (try rw [hL] at h); (try rw [Option.bind_some] at h); (try rw [hnL] at h); cbv)
        | (refine all_appF (by first | assumption | exact (rfl : encL _ ([] : List _) = _)) (by first | assumption | rfl) (by assumption) (by first | assumption | rfl) ?_; intro L hL n_L hnL g hgL; (try rw [hL] at h); (try rw [Option.bind_some] at h); (try rw [hnL] at h); cbv)
        | (refine all_appD (by first | assumption | exact (rfl : encL _ ([] : List _) = _)) (by first | assumption | rfl) (by assumption) (by first | assumption | (simp only [List.length_drop]; omega)) ?_; intro L hL n_L hnL g hgL; (try rw [hL] at h); (try rw [Option.bind_some] at h); (try rw [hnL] at h); cbv)
        | (intro off' n' ho hn'; obtain rfl : off' = _ := ho; (try replace hn' := cut_len hn' (by assumption)); (try replace hn' := cut_len0 hn'); cbv)
        | (refine all_eq (α := Nat) ?_; intro y hy; (try rw [hy] at h); cbv))
    | ((with_reducible show ∀ _ : List V, _)
       first
        | (refine @all_rd_old _ _ e72 rd_T72 ?_ ?_ ?_ ?_ _ _ _ (fun _ _ => rfl) ?_ ?_ ?_ ?_ ?_ ?_ ?_
           rotate_left 4
           assumption
           assumption
           (first | rfl | assumption)
           (first | assumption | exact lt_ix (by assumption) (by assumption) (by assumption) | exact lt_ix2 (by assumption) (by assumption) (by assumption) (by assumption) | exact lt_y (by assumption) (by assumption) | exact le_y (by assumption) | exact ge_y (by assumption) | exact cut_le (by assumption) (by assumption) | omega)
           (first | assumption | exact lt_ix (by assumption) (by assumption) (by assumption) | exact lt_ix2 (by assumption) (by assumption) (by assumption) (by assumption) | exact lt_y (by assumption) (by assumption) | exact le_y (by assumption) | exact ge_y (by assumption) | exact cut_le (by assumption) (by assumption) | omega)
           assumption
           cbv)
        | (refine @all_rd _ _ e72 rd_T72 ?_ ?_ ?_ _ _ _ (fun _ _ => rfl) ?_ ?_ ?_ ?_ ?_ ?_
           rotate_left 3
           assumption
           assumption
           (first | rfl | assumption)
           (first | assumption | exact lt_ix (by assumption) (by assumption) (by assumption) | exact lt_ix2 (by assumption) (by assumption) (by assumption) (by assumption) | exact lt_y (by assumption) (by assumption) | exact le_y (by assumption) | exact ge_y (by assumption) | exact cut_le (by assumption) (by assumption) | omega)
           (first | assumption | exact lt_ix (by assumption) (by assumption) (by assumption) | exact lt_ix2 (by assumption) (by assumption) (by assumption) (by assumption) | exact lt_y (by assumption) (by assumption) | exact le_y (by assumption) | exact ge_y (by assumption) | exact cut_le (by assumption) (by assumption) | omega)
           intro z hz
           (try rw [hz] at h); cbv))
    | (obtain ⟨hc, h'⟩ := if_none h; clear h; have h := h'; clear h'; (try simp only [List.length_nil, Nat.zero_add] at hc))
    | (obtain ⟨hc, h'⟩ := if_none' h; clear h; have h := h'; clear h')
    | (cases h; done)
    | (simp only [Option.bind_some] at h)
    | (simp only [Option.some.injEq, Prod.mk.injEq] at h; obtain ⟨rfl, rfl⟩ := h)
    | ((with_reducible show ∃ _, _)
       refine side (by first | exact enc_same (by assumption) (by assumption) _ | exact take_s1 (by assumption) (by assumption) (by assumption) | exact take_s2 (by assumption) (by assumption) (by assumption) (by assumption) (by assumption) | exact take_s3 (by assumption) (by assumption) (by assumption) | exact take_s4 (by assumption) (by assumption) (by assumption) | (intro k hk; subst_vars; first | eq_refl | exact enc_drop | exact enc_take hk | exact absurd hk (Nat.not_lt_zero k)) | (subst_vars; first | eq_refl | (simp; done) | (simp; omega)) | (have h1 : Int.toNat 1 = 1 := rfl; have h2 := one_le (by assumption) (by assumption); simp only [List.length_append, List.length_nil, List.length_drop, h1] at *; omega) | (simp only [Nat.cast] at *; omega)) ?_; (try cbv))
    | trivial
    | (exfalso; omega)
    | (simp only [beq_iff_eq] at h; first | rw [if_pos (by assumption)] at h | rw [if_neg (by assumption)] at h))

def spec_CommittedPart.f (k : Nat) (l0 : List (S72)) : Option ((List (S72)) × Bool) := (spec_jrGood.f k l0).bind fun t865 => (if t865 = true then ((spec_jrCommitted.f k l0).bind fun t866 => (some (t866, true))) else (some (([] : List (S72)), false)))

theorem spec_CommittedPart_ok (k : Nat) (l0 : List (S72)) (r0 : (List (S72))) (r1 : Bool) (h : spec_CommittedPart.f k l0 = some (r0, r1)) (n_l0 : Nat) (hn_l0 : l0.length = n_l0) (g_l0 : Nat → List V) (hg_l0 : encL e72 l0 = g_l0) (n_r0 : Nat) (hn_r0 : r0.length = n_r0) (g_r0 : Nat → List V) (hg_r0 : encL e72 r0 = g_r0) : CallOK Try.prog 82 [.fz 3 n_l0 g_l0] [] (.tup [.row 0 0 n_r0, .val (.bool r1)]) [.row 72 3 n_r0 g_r0] := by
  refine CallOK.of_code tabOK Try.func82 rfl rfl ⟨[], []⟩ ?_
  unfold spec_CommittedPart.f at h
  obtain ⟨P, hP⟩ : ∃ P, Try.prog = P := ⟨_, rfl⟩
  rw [hP]
  (try rw [hn_l0] at h); skip
  cbv
  repeat' (first
    | ((with_reducible show ∃ _, _)
       first
        | (refine ⟨trivial, ?_⟩; cbv)
        | (refine all_show (by first | omega | decide) ?_; cbv)
        | (refine side (by first | with_reducible eq_refl | assumption | (intro _ _; with_reducible eq_refl) | exact lt_ix (by assumption) (by assumption) (by assumption) | exact lt_ix2 (by assumption) (by assumption) (by assumption) (by assumption) | exact lt_y (by assumption) (by assumption) | exact le_y (by assumption) | exact ge_y (by assumption) | exact cut_le (by assumption) (by assumption) | omega | (dsimp only; omega)) ?_; (try cbv))
        | (refine bind_side (Eq.refl _) ?_; (try cbv))
        | (refine agree_side (Eq.refl _) ?_; (try cbv))
        | (refine agree_weak (Eq.refl _) ?_; (try cbv))
        | (refine ⟨.kept, side (Eq.refl _) (side (by first | trivial | exact ⟨clean_enc (by assumption) (by assumption) (fun _ => rfl), trivial⟩) ?_)⟩; cbv)
        | (refine ⟨.dead, ?_⟩; cbv)
        | (refine ⟨Frz.own, ?_⟩; cbv)
        | (refine ⟨.row, ?_⟩; cbv))
    | ((with_reducible show ∃ _ : List Nat, _)
       first
        | ((with_reducible (have h0 : Option.bind (spec_jrGood.f _ _) _ = some _ := h; clear h0))
           refine ⟨[], ?_⟩; cbv
           repeat (first | (refine all_show (by first | omega | decide) ?_; cbv) | (refine all_showT (by assumption) (by assumption) (by assumption) (by first | assumption | exact lt_ix (by assumption) (by assumption) (by assumption) | exact lt_ix2 (by assumption) (by assumption) (by assumption) (by assumption) | exact lt_y (by assumption) (by assumption) | exact le_y (by assumption) | exact ge_y (by assumption) | exact cut_le (by assumption) (by assumption) | omega) (by first | assumption | exact cut_hi (by assumption) | exact cut_hi2 (by assumption) (by assumption) | exact cut_hi3 (by assumption) | exact cut_hi4 (by assumption) (by assumption) | omega) ?_; intro D hD hnD g hgD; (try rw [hD] at h); cbv))
           obtain ⟨t, ht, h'⟩ := bind_some h
           clear h; have h := h'; clear h'; (try dsimp only at h)
           refine ⟨_, _, (hP ▸ spec_jrGood_ok _ _ _ ht _ (by first | assumption | rfl) _ (by assumption)  : CallOK P 160 _ _ _ _), ?_⟩
           rcases t with _ | _ <;> (try simp only [bs, eq_self, if_true, if_false, reduceIte] at h) <;> (try (cases h; done)) <;> cbv)
        | ((with_reducible (have h0 : Option.bind (spec_jrCommitted.f _ _) _ = some _ := h; clear h0))
           refine ⟨[], ?_⟩; cbv
           repeat (first | (refine all_show (by first | omega | decide) ?_; cbv) | (refine all_showT (by assumption) (by assumption) (by assumption) (by first | assumption | exact lt_ix (by assumption) (by assumption) (by assumption) | exact lt_ix2 (by assumption) (by assumption) (by assumption) (by assumption) | exact lt_y (by assumption) (by assumption) | exact le_y (by assumption) | exact ge_y (by assumption) | exact cut_le (by assumption) (by assumption) | omega) (by first | assumption | exact cut_hi (by assumption) | exact cut_hi2 (by assumption) (by assumption) | exact cut_hi3 (by assumption) | exact cut_hi4 (by assumption) (by assumption) | omega) ?_; intro D hD hnD g hgD; (try rw [hD] at h); cbv))
           obtain ⟨t, ht, h'⟩ := bind_some h
           clear h; have h := h'; clear h'; (try dsimp only at h)
           obtain ⟨n_c180_0, hn_c180_0⟩ : ∃ n, t.length = n := ⟨_, rfl⟩; obtain ⟨g_t, hg_c180_0⟩ : ∃ g, encL e72 t = g := ⟨_, rfl⟩; (try rw [hn_c180_0] at h)
           refine ⟨_, _, (hP ▸ spec_jrCommitted_ok _ _ _ ht _ (by first | assumption | rfl) _ (by assumption) _ hn_c180_0 _ hg_c180_0 : CallOK P 180 _ _ _ _), ?_⟩; cbv))
    | ((with_reducible show ∃ _ : Nat → List V, _)
       first
        | (refine all_g0 ?_; cbv)
        | (refine all_putS e72 (x := ⟨_, _, _⟩) (by assumption) (by assumption) (by (first | assumption | exact lt_ix (by assumption) (by assumption) (by assumption) | exact lt_ix2 (by assumption) (by assumption) (by assumption) (by assumption) | exact lt_y (by assumption) (by assumption) | exact le_y (by assumption) | exact ge_y (by assumption) | exact cut_le (by assumption) (by assumption) | omega)) rfl (fun _ => rfl) ?_; intro L hL hnL g hgL; (try rw [hL] at h); (try rw [Option.bind_some] at h); (try rw [hnL] at h); cbv)
        | (refine all_build1 e72 (x := ⟨_, _, _⟩) rfl ?_; intro g_b hg_b; cbv))
    | ((with_reducible show ∀ _ : Bool, _)
       first
        | (refine all_lt ?_ ?_ <;> (intro hd; first | exact absurd rfl hd | ((first | rw [if_pos hd] at h | rw [if_neg hd] at h | rw [if_pos (by omega)] at h | rw [if_neg (by omega)] at h | skip); (first | (rw [decide_eq_true hd] at h; (try simp only [bs, eq_self, if_true, if_false, reduceIte] at h)) | (rw [decide_eq_false hd] at h; (try simp only [bs, eq_self, if_true, if_false, reduceIte] at h)) | skip); cbv)))
        | (refine all_le ?_ ?_ <;> (intro hd; first | exact absurd rfl hd | ((first | rw [if_pos hd] at h | rw [if_neg hd] at h | rw [if_pos (by omega)] at h | rw [if_neg (by omega)] at h | skip); (first | (rw [decide_eq_true hd] at h; (try simp only [bs, eq_self, if_true, if_false, reduceIte] at h)) | (rw [decide_eq_false hd] at h; (try simp only [bs, eq_self, if_true, if_false, reduceIte] at h)) | skip); cbv)))
        | (refine all_beq ?_ ?_ <;> (intro hd; first | exact absurd rfl hd | ((first | rw [if_pos hd] at h | rw [if_neg hd] at h | rw [if_pos (by omega)] at h | rw [if_neg (by omega)] at h | skip); (first | (rw [beq_pos hd] at h; (try simp only [bs, eq_self, if_true, if_false, reduceIte] at h)) | (rw [beq_neg hd] at h; (try simp only [bs, eq_self, if_true, if_false, reduceIte] at h)) | skip); cbv)))
        | (refine all_bne ?_ ?_ <;> (intro hd; first | exact absurd rfl hd | ((first | rw [if_pos hd] at h | rw [if_neg hd] at h | rw [if_pos (by omega)] at h | rw [if_neg (by omega)] at h | skip); (first | (rw [bne_pos hd] at h; (try simp only [bs, eq_self, if_true, if_false, reduceIte] at h)) | (rw [bne_neg hd] at h; (try simp only [bs, eq_self, if_true, if_false, reduceIte] at h)) | skip); cbv)))
        | (refine all_cells rfl ?_ ?_ <;> (intro hd; (first | (rw [hd] at h; (try simp only [bs, eq_self, if_true, if_false, reduceIte] at h)) | skip); cbv))
        | (refine all_cellsN rfl ?_ ?_ <;> (intro hd; (first | (rw [hd] at h; (try simp only [bs, eq_self, if_true, if_false, reduceIte] at h)) | skip); cbv))
        | (refine all_not_true ?_; cbv)
        | (refine all_not_false ?_; cbv)
        | (refine all_not ?_ ?_ <;> (intro hd; subst hd; (try simp only [bs, eq_self, if_true, if_false, reduceIte] at h); cbv))
        | (refine all_bool ?_ ?_ <;> (intro hd; (try simp only [hd, bs, eq_self, if_true, if_false, reduceIte] at h); cbv)))
    | ((with_reducible show ∀ _ : Int, _)
       first
        | (refine all_u0 ?_; cbv)
        | (refine all_mn ?_; intro y hy; (try rw [hy] at h); cbv)
        | (refine all_mx ?_; intro y hy; (try rw [hy] at h); cbv)
        | (refine all_neg ?_; intro y hy; (try rw [hy] at h); cbv)
        | (refine all_shr40 ?_; intro y hy; (try rw [hy] at h); cbv)
        | (refine all_and ?_; intro y hy; (try rw [hy] at h); cbv)
        | (refine all_wrap_old (by assumption) ?_; cbv)
        | (refine all_wrap ?_; intro y hy; (try rw [hy] at h); cbv)
        | (refine all_len_old (by assumption) ?_; cbv)
        | (refine all_len ?_; intro y hy; (try replace hy : ((_ : Nat) : Int) = y := hy); (try rw [hy] at h); (try rw [show (NatCast.natCast _ : Int) = _ from hy] at h); cbv)
        | (refine all_old (α := Int) (by assumption) ?_; cbv)
        | (refine all_eq (α := Int) ?_; intro y hy; (try replace hy : ((_ : Nat) : Int) = y := hy); (try rw [hy] at h); cbv))
    | ((with_reducible show ∀ _ : Nat, _)
       first
        | (refine @all_cut0 ?_ ?_ ?_ ?_ _ _ _ ?_ ?_ ?_ ?_ ?_
           rotate_left 4
           assumption
           assumption
           (first | assumption | exact lt_ix (by assumption) (by assumption) (by assumption) | exact lt_ix2 (by assumption) (by assumption) (by assumption) (by assumption) | exact lt_y (by assumption) (by assumption) | exact le_y (by assumption) | exact ge_y (by assumption) | exact cut_le (by assumption) (by assumption) | omega)
           (first | assumption | exact cut_hi (by assumption) | exact cut_hi2 (by assumption) (by assumption) | exact cut_hi3 (by assumption) | exact cut_hi4 (by assumption) (by assumption) | omega)
           intro D hD n_D hnD g hgD; (try rw [hD] at h); (try rw [hnD] at h); cbv)
        | (refine @all_cutD ?_ ?_ ?_ ?_ _ _ _ _ ?_ ?_ ?_ ?_ ?_ ?_
           rotate_left 4
           assumption
           assumption
           (first | assumption | exact lt_ix (by assumption) (by assumption) (by assumption) | exact lt_ix2 (by assumption) (by assumption) (by assumption) (by assumption) | exact lt_y (by assumption) (by assumption) | exact le_y (by assumption) | exact ge_y (by assumption) | exact cut_le (by assumption) (by assumption) | omega)
           (first | assumption | exact lt_ix (by assumption) (by assumption) (by assumption) | exact lt_ix2 (by assumption) (by assumption) (by assumption) (by assumption) | exact lt_y (by assumption) (by assumption) | exact le_y (by assumption) | exact ge_y (by assumption) | exact cut_le (by assumption) (by assumption) | omega)
           assumption
           intro D hD n_D hnD g hgD; (try rw [hD] at h); (try rw [hnD] at h); cbv)
        | (refine @all_cut ?_ ?_ ?_ ?_ _ _ _ _ ?_ ?_ ?_ ?_ ?_ ?_
           rotate_left 4
           assumption
           assumption
           (first | assumption | exact lt_ix (by assumption) (by assumption) (by assumption) | exact lt_ix2 (by assumption) (by assumption) (by assumption) (by assumption) | exact lt_y (by assumption) (by assumption) | exact le_y (by assumption) | exact ge_y (by assumption) | exact cut_le (by assumption) (by assumption) | omega)
           (first | assumption | exact lt_ix (by assumption) (by assumption) (by assumption) | exact lt_ix2 (by assumption) (by assumption) (by assumption) (by assumption) | exact lt_y (by assumption) (by assumption) | exact le_y (by assumption) | exact ge_y (by assumption) | exact cut_le (by assumption) (by assumption) | omega)
           (first | assumption | exact cut_hi (by assumption) | exact cut_hi2 (by assumption) (by assumption) | exact cut_hi3 (by assumption) | exact cut_hi4 (by assumption) (by assumption) | omega)
           intro D hD n_D hnD g hgD; (try rw [hD] at h); (try rw [hnD] at h); cbv)
        | (refine all_ix0_old (by assumption) ?_; cbv)
        | (refine all_ix0 ?_; intro q hq; (try rw [hq] at h); cbv)
        | (refine all_app (by first | assumption | exact (rfl : encL _ ([] : List _) = _)) (by first | assumption | rfl) (by assumption) (by first | assumption | rfl) ?_; intro L hL n_L hnL g hgL; (try rw [hL] at h); (try rw [Option.bind_some] at h); (try rw [hnL] at h); cbv)
        | (refine all_appF (by first | assumption | exact (rfl : encL _ ([] : List _) = _)) (by first | assumption | rfl) (by assumption) (by first | assumption | rfl) ?_; intro L hL n_L hnL g hgL; (try rw [hL] at h); (try rw [Option.bind_some] at h); (try rw [hnL] at h); cbv)
        | (refine all_appD (by first | assumption | exact (rfl : encL _ ([] : List _) = _)) (by first | assumption | rfl) (by assumption) (by first | assumption | (simp only [List.length_drop]; omega)) ?_; intro L hL n_L hnL g hgL; (try rw [hL] at h); (try rw [Option.bind_some] at h); (try rw [hnL] at h); cbv)
        | (intro off' n' ho hn'; obtain rfl : off' = _ := ho; (try replace hn' := cut_len hn' (by assumption)); (try replace hn' := cut_len0 hn'); cbv)
        | (refine all_eq (α := Nat) ?_; intro y hy; (try rw [hy] at h); cbv))
    | ((with_reducible show ∀ _ : List V, _)
       first
        | (refine @all_rd_old _ _ e72 rd_T72 ?_ ?_ ?_ ?_ _ _ _ (fun _ _ => rfl) ?_ ?_ ?_ ?_ ?_ ?_ ?_
           rotate_left 4
           assumption
           assumption
           (first | rfl | assumption)
           (first | assumption | exact lt_ix (by assumption) (by assumption) (by assumption) | exact lt_ix2 (by assumption) (by assumption) (by assumption) (by assumption) | exact lt_y (by assumption) (by assumption) | exact le_y (by assumption) | exact ge_y (by assumption) | exact cut_le (by assumption) (by assumption) | omega)
           (first | assumption | exact lt_ix (by assumption) (by assumption) (by assumption) | exact lt_ix2 (by assumption) (by assumption) (by assumption) (by assumption) | exact lt_y (by assumption) (by assumption) | exact le_y (by assumption) | exact ge_y (by assumption) | exact cut_le (by assumption) (by assumption) | omega)
           assumption
           cbv)
        | (refine @all_rd _ _ e72 rd_T72 ?_ ?_ ?_ _ _ _ (fun _ _ => rfl) ?_ ?_ ?_ ?_ ?_ ?_
           rotate_left 3
           assumption
           assumption
           (first | rfl | assumption)
           (first | assumption | exact lt_ix (by assumption) (by assumption) (by assumption) | exact lt_ix2 (by assumption) (by assumption) (by assumption) (by assumption) | exact lt_y (by assumption) (by assumption) | exact le_y (by assumption) | exact ge_y (by assumption) | exact cut_le (by assumption) (by assumption) | omega)
           (first | assumption | exact lt_ix (by assumption) (by assumption) (by assumption) | exact lt_ix2 (by assumption) (by assumption) (by assumption) (by assumption) | exact lt_y (by assumption) (by assumption) | exact le_y (by assumption) | exact ge_y (by assumption) | exact cut_le (by assumption) (by assumption) | omega)
           intro z hz
           (try rw [hz] at h); cbv))
    | (obtain ⟨hc, h'⟩ := if_none h; clear h; have h := h'; clear h'; (try simp only [List.length_nil, Nat.zero_add] at hc))
    | (obtain ⟨hc, h'⟩ := if_none' h; clear h; have h := h'; clear h')
    | (cases h; done)
    | (simp only [Option.bind_some] at h)
    | (simp only [Option.some.injEq, Prod.mk.injEq] at h; obtain ⟨rfl, rfl⟩ := h)
    | ((with_reducible show ∃ _, _)
       refine side (by first | exact enc_same (by assumption) (by assumption) _ | exact take_s1 (by assumption) (by assumption) (by assumption) | exact take_s2 (by assumption) (by assumption) (by assumption) (by assumption) (by assumption) | exact take_s3 (by assumption) (by assumption) (by assumption) | exact take_s4 (by assumption) (by assumption) (by assumption) | (intro k hk; subst_vars; first | eq_refl | exact enc_drop | exact enc_take hk | exact absurd hk (Nat.not_lt_zero k)) | (subst_vars; first | eq_refl | (simp; done) | (simp; omega)) | (have h1 : Int.toNat 1 = 1 := rfl; have h2 := one_le (by assumption) (by assumption); simp only [List.length_append, List.length_nil, List.length_drop, h1] at *; omega) | (simp only [Nat.cast] at *; omega)) ?_; (try cbv))
    | trivial
    | (exfalso; omega)
    | (simp only [beq_iff_eq] at h; first | rw [if_pos (by assumption)] at h | rw [if_neg (by assumption)] at h))

def impl_JournalNumbers.f (k : Nat) (l0 : List (S72)) : Option (List Int × Bool) := (impl_areRecords.f k l0).bind fun t869 => (if t869 = true then ((impl_journalNumbers.f k l0).bind fun t870 => (some (t870, true))) else (some (([] : List Int), false)))

theorem impl_JournalNumbers_ok (k : Nat) (l0 : List (S72)) (r0 : List Int) (r1 : Bool) (h : impl_JournalNumbers.f k l0 = some (r0, r1)) (n_l0 : Nat) (hn_l0 : l0.length = n_l0) (g_l0 : Nat → List V) (hg_l0 : encL e72 l0 = g_l0) (n_r0 : Nat) (hn_r0 : r0.length = n_r0) (g_r0 : Nat → List V) (hg_r0 : encL eI r0 = g_r0) : CallOK Try.prog 83 [.fz 3 n_l0 g_l0] [] (.tup [.row 0 0 n_r0, .val (.bool r1)]) [.row 3 1 n_r0 g_r0] := by
  refine CallOK.of_code tabOK Try.func83 rfl rfl ⟨[], []⟩ ?_
  unfold impl_JournalNumbers.f at h
  obtain ⟨P, hP⟩ : ∃ P, Try.prog = P := ⟨_, rfl⟩
  rw [hP]
  (try rw [hn_l0] at h); skip
  cbv
  repeat' (first
    | ((with_reducible show ∃ _, _)
       first
        | (refine ⟨trivial, ?_⟩; cbv)
        | (refine all_show (by first | omega | decide) ?_; cbv)
        | (refine side (by first | with_reducible eq_refl | assumption | (intro _ _; with_reducible eq_refl) | exact lt_ix (by assumption) (by assumption) (by assumption) | exact lt_ix2 (by assumption) (by assumption) (by assumption) (by assumption) | exact lt_y (by assumption) (by assumption) | exact le_y (by assumption) | exact ge_y (by assumption) | exact cut_le (by assumption) (by assumption) | omega | (dsimp only; omega)) ?_; (try cbv))
        | (refine bind_side (Eq.refl _) ?_; (try cbv))
        | (refine agree_side (Eq.refl _) ?_; (try cbv))
        | (refine agree_weak (Eq.refl _) ?_; (try cbv))
        | (refine ⟨.kept, side (Eq.refl _) (side (by first | trivial | exact ⟨clean_enc (by assumption) (by assumption) (fun _ => rfl), trivial⟩) ?_)⟩; cbv)
        | (refine ⟨.dead, ?_⟩; cbv)
        | (refine ⟨Frz.own, ?_⟩; cbv)
        | (refine ⟨.row, ?_⟩; cbv))
    | ((with_reducible show ∃ _ : List Nat, _)
       first
        | ((with_reducible (have h0 : Option.bind (impl_areRecords.f _ _) _ = some _ := h; clear h0))
           refine ⟨[], ?_⟩; cbv
           repeat (first | (refine all_show (by first | omega | decide) ?_; cbv) | (refine all_showT (by assumption) (by assumption) (by assumption) (by first | assumption | exact lt_ix (by assumption) (by assumption) (by assumption) | exact lt_ix2 (by assumption) (by assumption) (by assumption) (by assumption) | exact lt_y (by assumption) (by assumption) | exact le_y (by assumption) | exact ge_y (by assumption) | exact cut_le (by assumption) (by assumption) | omega) (by first | assumption | exact cut_hi (by assumption) | exact cut_hi2 (by assumption) (by assumption) | exact cut_hi3 (by assumption) | exact cut_hi4 (by assumption) (by assumption) | omega) ?_; intro D hD hnD g hgD; (try rw [hD] at h); cbv))
           obtain ⟨t, ht, h'⟩ := bind_some h
           clear h; have h := h'; clear h'; (try dsimp only at h)
           refine ⟨_, _, (hP ▸ impl_areRecords_ok _ _ _ ht _ (by first | assumption | rfl) _ (by assumption)  : CallOK P 157 _ _ _ _), ?_⟩
           rcases t with _ | _ <;> (try simp only [bs, eq_self, if_true, if_false, reduceIte] at h) <;> (try (cases h; done)) <;> cbv)
        | ((with_reducible (have h0 : Option.bind (impl_journalNumbers.f _ _) _ = some _ := h; clear h0))
           refine ⟨[], ?_⟩; cbv
           repeat (first | (refine all_show (by first | omega | decide) ?_; cbv) | (refine all_showT (by assumption) (by assumption) (by assumption) (by first | assumption | exact lt_ix (by assumption) (by assumption) (by assumption) | exact lt_ix2 (by assumption) (by assumption) (by assumption) (by assumption) | exact lt_y (by assumption) (by assumption) | exact le_y (by assumption) | exact ge_y (by assumption) | exact cut_le (by assumption) (by assumption) | omega) (by first | assumption | exact cut_hi (by assumption) | exact cut_hi2 (by assumption) (by assumption) | exact cut_hi3 (by assumption) | exact cut_hi4 (by assumption) (by assumption) | omega) ?_; intro D hD hnD g hgD; (try rw [hD] at h); cbv))
           obtain ⟨t, ht, h'⟩ := bind_some h
           clear h; have h := h'; clear h'; (try dsimp only at h)
           obtain ⟨n_c158_0, hn_c158_0⟩ : ∃ n, t.length = n := ⟨_, rfl⟩; obtain ⟨g_t, hg_c158_0⟩ : ∃ g, encL eI t = g := ⟨_, rfl⟩; (try rw [hn_c158_0] at h)
           refine ⟨_, _, (hP ▸ impl_journalNumbers_ok _ _ _ ht _ (by first | assumption | rfl) _ (by assumption) _ hn_c158_0 _ hg_c158_0 : CallOK P 158 _ _ _ _), ?_⟩; cbv))
    | ((with_reducible show ∃ _ : Nat → List V, _)
       first
        | (refine all_g0 ?_; cbv)
        | (refine all_putS eI (by assumption) (by assumption) (by (first | assumption | exact lt_ix (by assumption) (by assumption) (by assumption) | exact lt_ix2 (by assumption) (by assumption) (by assumption) (by assumption) | exact lt_y (by assumption) (by assumption) | exact le_y (by assumption) | exact ge_y (by assumption) | exact cut_le (by assumption) (by assumption) | omega)) rfl (fun _ => rfl) ?_; intro L hL hnL g hgL; (try rw [hL] at h); (try rw [Option.bind_some] at h); (try rw [hnL] at h); cbv)
        | (refine all_putS e72 (x := ⟨_, _, _⟩) (by assumption) (by assumption) (by (first | assumption | exact lt_ix (by assumption) (by assumption) (by assumption) | exact lt_ix2 (by assumption) (by assumption) (by assumption) (by assumption) | exact lt_y (by assumption) (by assumption) | exact le_y (by assumption) | exact ge_y (by assumption) | exact cut_le (by assumption) (by assumption) | omega)) rfl (fun _ => rfl) ?_; intro L hL hnL g hgL; (try rw [hL] at h); (try rw [Option.bind_some] at h); (try rw [hnL] at h); cbv)
        | (refine all_build1 e72 (x := ⟨_, _, _⟩) rfl ?_; intro g_b hg_b; cbv))
    | ((with_reducible show ∀ _ : Bool, _)
       first
        | (refine all_lt ?_ ?_ <;> (intro hd; first | exact absurd rfl hd | ((first | rw [if_pos hd] at h | rw [if_neg hd] at h | rw [if_pos (by omega)] at h | rw [if_neg (by omega)] at h | skip); (first | (rw [decide_eq_true hd] at h; (try simp only [bs, eq_self, if_true, if_false, reduceIte] at h)) | (rw [decide_eq_false hd] at h; (try simp only [bs, eq_self, if_true, if_false, reduceIte] at h)) | skip); cbv)))
        | (refine all_le ?_ ?_ <;> (intro hd; first | exact absurd rfl hd | ((first | rw [if_pos hd] at h | rw [if_neg hd] at h | rw [if_pos (by omega)] at h | rw [if_neg (by omega)] at h | skip); (first | (rw [decide_eq_true hd] at h; (try simp only [bs, eq_self, if_true, if_false, reduceIte] at h)) | (rw [decide_eq_false hd] at h; (try simp only [bs, eq_self, if_true, if_false, reduceIte] at h)) | skip); cbv)))
        | (refine all_beq ?_ ?_ <;> (intro hd; first | exact absurd rfl hd | ((first | rw [if_pos hd] at h | rw [if_neg hd] at h | rw [if_pos (by omega)] at h | rw [if_neg (by omega)] at h | skip); (first | (rw [beq_pos hd] at h; (try simp only [bs, eq_self, if_true, if_false, reduceIte] at h)) | (rw [beq_neg hd] at h; (try simp only [bs, eq_self, if_true, if_false, reduceIte] at h)) | skip); cbv)))
        | (refine all_bne ?_ ?_ <;> (intro hd; first | exact absurd rfl hd | ((first | rw [if_pos hd] at h | rw [if_neg hd] at h | rw [if_pos (by omega)] at h | rw [if_neg (by omega)] at h | skip); (first | (rw [bne_pos hd] at h; (try simp only [bs, eq_self, if_true, if_false, reduceIte] at h)) | (rw [bne_neg hd] at h; (try simp only [bs, eq_self, if_true, if_false, reduceIte] at h)) | skip); cbv)))
        | (refine all_cells rfl ?_ ?_ <;> (intro hd; (first | (rw [hd] at h; (try simp only [bs, eq_self, if_true, if_false, reduceIte] at h)) | skip); cbv))
        | (refine all_cellsN rfl ?_ ?_ <;> (intro hd; (first | (rw [hd] at h; (try simp only [bs, eq_self, if_true, if_false, reduceIte] at h)) | skip); cbv))
        | (refine all_not_true ?_; cbv)
        | (refine all_not_false ?_; cbv)
        | (refine all_not ?_ ?_ <;> (intro hd; subst hd; (try simp only [bs, eq_self, if_true, if_false, reduceIte] at h); cbv))
        | (refine all_bool ?_ ?_ <;> (intro hd; (try simp only [hd, bs, eq_self, if_true, if_false, reduceIte] at h); cbv)))
    | ((with_reducible show ∀ _ : Int, _)
       first
        | (refine all_u0 ?_; cbv)
        | (refine all_mn ?_; intro y hy; (try rw [hy] at h); cbv)
        | (refine all_mx ?_; intro y hy; (try rw [hy] at h); cbv)
        | (refine all_neg ?_; intro y hy; (try rw [hy] at h); cbv)
        | (refine all_shr40 ?_; intro y hy; (try rw [hy] at h); cbv)
        | (refine all_and ?_; intro y hy; (try rw [hy] at h); cbv)
        | (refine all_wrap_old (by assumption) ?_; cbv)
        | (refine all_wrap ?_; intro y hy; (try rw [hy] at h); cbv)
        | (refine all_len_old (by assumption) ?_; cbv)
        | (refine all_len ?_; intro y hy; (try replace hy : ((_ : Nat) : Int) = y := hy); (try rw [hy] at h); (try rw [show (NatCast.natCast _ : Int) = _ from hy] at h); cbv)
        | (refine all_old (α := Int) (by assumption) ?_; cbv)
        | (refine all_eq (α := Int) ?_; intro y hy; (try replace hy : ((_ : Nat) : Int) = y := hy); (try rw [hy] at h); cbv))
    | ((with_reducible show ∀ _ : Nat, _)
       first
        | (refine @all_cut0 ?_ ?_ ?_ ?_ _ _ _ ?_ ?_ ?_ ?_ ?_
           rotate_left 4
           assumption
           assumption
           (first | assumption | exact lt_ix (by assumption) (by assumption) (by assumption) | exact lt_ix2 (by assumption) (by assumption) (by assumption) (by assumption) | exact lt_y (by assumption) (by assumption) | exact le_y (by assumption) | exact ge_y (by assumption) | exact cut_le (by assumption) (by assumption) | omega)
           (first | assumption | exact cut_hi (by assumption) | exact cut_hi2 (by assumption) (by assumption) | exact cut_hi3 (by assumption) | exact cut_hi4 (by assumption) (by assumption) | omega)
           intro D hD n_D hnD g hgD; (try rw [hD] at h); (try rw [hnD] at h); cbv)
        | (refine @all_cutD ?_ ?_ ?_ ?_ _ _ _ _ ?_ ?_ ?_ ?_ ?_ ?_
           rotate_left 4
           assumption
           assumption
           (first | assumption | exact lt_ix (by assumption) (by assumption) (by assumption) | exact lt_ix2 (by assumption) (by assumption) (by assumption) (by assumption) | exact lt_y (by assumption) (by assumption) | exact le_y (by assumption) | exact ge_y (by assumption) | exact cut_le (by assumption) (by assumption) | omega)
           (first | assumption | exact lt_ix (by assumption) (by assumption) (by assumption) | exact lt_ix2 (by assumption) (by assumption) (by assumption) (by assumption) | exact lt_y (by assumption) (by assumption) | exact le_y (by assumption) | exact ge_y (by assumption) | exact cut_le (by assumption) (by assumption) | omega)
           assumption
           intro D hD n_D hnD g hgD; (try rw [hD] at h); (try rw [hnD] at h); cbv)
        | (refine @all_cut ?_ ?_ ?_ ?_ _ _ _ _ ?_ ?_ ?_ ?_ ?_ ?_
           rotate_left 4
           assumption
           assumption
           (first | assumption | exact lt_ix (by assumption) (by assumption) (by assumption) | exact lt_ix2 (by assumption) (by assumption) (by assumption) (by assumption) | exact lt_y (by assumption) (by assumption) | exact le_y (by assumption) | exact ge_y (by assumption) | exact cut_le (by assumption) (by assumption) | omega)
           (first | assumption | exact lt_ix (by assumption) (by assumption) (by assumption) | exact lt_ix2 (by assumption) (by assumption) (by assumption) (by assumption) | exact lt_y (by assumption) (by assumption) | exact le_y (by assumption) | exact ge_y (by assumption) | exact cut_le (by assumption) (by assumption) | omega)
           (first | assumption | exact cut_hi (by assumption) | exact cut_hi2 (by assumption) (by assumption) | exact cut_hi3 (by assumption) | exact cut_hi4 (by assumption) (by assumption) | omega)
           intro D hD n_D hnD g hgD; (try rw [hD] at h); (try rw [hnD] at h); cbv)
        | (refine all_ix0_old (by assumption) ?_; cbv)
        | (refine all_ix0 ?_; intro q hq; (try rw [hq] at h); cbv)
        | (refine all_app (by first | assumption | exact (rfl : encL _ ([] : List _) = _)) (by first | assumption | rfl) (by assumption) (by first | assumption | rfl) ?_; intro L hL n_L hnL g hgL; (try rw [hL] at h); (try rw [Option.bind_some] at h); (try rw [hnL] at h); cbv)
        | (refine all_appF (by first | assumption | exact (rfl : encL _ ([] : List _) = _)) (by first | assumption | rfl) (by assumption) (by first | assumption | rfl) ?_; intro L hL n_L hnL g hgL; (try rw [hL] at h); (try rw [Option.bind_some] at h); (try rw [hnL] at h); cbv)
        | (refine all_appD (by first | assumption | exact (rfl : encL _ ([] : List _) = _)) (by first | assumption | rfl) (by assumption) (by first | assumption | (simp only [List.length_drop]; omega)) ?_; intro L hL n_L hnL g hgL; (try rw [hL] at h); (try rw [Option.bind_some] at h); (try rw [hnL] at h); cbv)
        | (intro off' n' ho hn'; obtain rfl : off' = _ := ho; (try replace hn' := cut_len hn' (by assumption)); (try replace hn' := cut_len0 hn'); cbv)
        | (refine all_eq (α := Nat) ?_; intro y hy; (try rw [hy] at h); cbv))
    | ((with_reducible show ∀ _ : List V, _)
       first
        | (refine @all_rd_old _ _ eI rd ?_ ?_ ?_ ?_ _ _ _ (fun _ _ => rfl) ?_ ?_ ?_ ?_ ?_ ?_ ?_
           rotate_left 4
           assumption
           assumption
           (first | rfl | assumption)
           (first | assumption | exact lt_ix (by assumption) (by assumption) (by assumption) | exact lt_ix2 (by assumption) (by assumption) (by assumption) (by assumption) | exact lt_y (by assumption) (by assumption) | exact le_y (by assumption) | exact ge_y (by assumption) | exact cut_le (by assumption) (by assumption) | omega)
           (first | assumption | exact lt_ix (by assumption) (by assumption) (by assumption) | exact lt_ix2 (by assumption) (by assumption) (by assumption) (by assumption) | exact lt_y (by assumption) (by assumption) | exact le_y (by assumption) | exact ge_y (by assumption) | exact cut_le (by assumption) (by assumption) | omega)
           assumption
           cbv)
        | (refine @all_rd _ _ eI rd ?_ ?_ ?_ _ _ _ (fun _ _ => rfl) ?_ ?_ ?_ ?_ ?_ ?_
           rotate_left 3
           assumption
           assumption
           (first | rfl | assumption)
           (first | assumption | exact lt_ix (by assumption) (by assumption) (by assumption) | exact lt_ix2 (by assumption) (by assumption) (by assumption) (by assumption) | exact lt_y (by assumption) (by assumption) | exact le_y (by assumption) | exact ge_y (by assumption) | exact cut_le (by assumption) (by assumption) | omega)
           (first | assumption | exact lt_ix (by assumption) (by assumption) (by assumption) | exact lt_ix2 (by assumption) (by assumption) (by assumption) (by assumption) | exact lt_y (by assumption) (by assumption) | exact le_y (by assumption) | exact ge_y (by assumption) | exact cut_le (by assumption) (by assumption) | omega)
           intro z hz
           (try rw [hz] at h); cbv)
        | (refine @all_rd_old _ _ e72 rd_T72 ?_ ?_ ?_ ?_ _ _ _ (fun _ _ => rfl) ?_ ?_ ?_ ?_ ?_ ?_ ?_
           rotate_left 4
           assumption
           assumption
           (first | rfl | assumption)
           (first | assumption | exact lt_ix (by assumption) (by assumption) (by assumption) | exact lt_ix2 (by assumption) (by assumption) (by assumption) (by assumption) | exact lt_y (by assumption) (by assumption) | exact le_y (by assumption) | exact ge_y (by assumption) | exact cut_le (by assumption) (by assumption) | omega)
           (first | assumption | exact lt_ix (by assumption) (by assumption) (by assumption) | exact lt_ix2 (by assumption) (by assumption) (by assumption) (by assumption) | exact lt_y (by assumption) (by assumption) | exact le_y (by assumption) | exact ge_y (by assumption) | exact cut_le (by assumption) (by assumption) | omega)
           assumption
           cbv)
        | (refine @all_rd _ _ e72 rd_T72 ?_ ?_ ?_ _ _ _ (fun _ _ => rfl) ?_ ?_ ?_ ?_ ?_ ?_
           rotate_left 3
           assumption
           assumption
           (first | rfl | assumption)
           (first | assumption | exact lt_ix (by assumption) (by assumption) (by assumption) | exact lt_ix2 (by assumption) (by assumption) (by assumption) (by assumption) | exact lt_y (by assumption) (by assumption) | exact le_y (by assumption) | exact ge_y (by assumption) | exact cut_le (by assumption) (by assumption) | omega)
           (first | assumption | exact lt_ix (by assumption) (by assumption) (by assumption) | exact lt_ix2 (by assumption) (by assumption) (by assumption) (by assumption) | exact lt_y (by assumption) (by assumption) | exact le_y (by assumption) | exact ge_y (by assumption) | exact cut_le (by assumption) (by assumption) | omega)
           intro z hz
           (try rw [hz] at h); cbv))
    | (obtain ⟨hc, h'⟩ := if_none h; clear h; have h := h'; clear h'; (try simp only [List.length_nil, Nat.zero_add] at hc))
    | (obtain ⟨hc, h'⟩ := if_none' h; clear h; have h := h'; clear h')
    | (cases h; done)
    | (simp only [Option.bind_some] at h)
    | (simp only [Option.some.injEq, Prod.mk.injEq] at h; obtain ⟨rfl, rfl⟩ := h)
    | ((with_reducible show ∃ _, _)
       refine side (by first | exact enc_same (by assumption) (by assumption) _ | exact take_s1 (by assumption) (by assumption) (by assumption) | exact take_s2 (by assumption) (by assumption) (by assumption) (by assumption) (by assumption) | exact take_s3 (by assumption) (by assumption) (by assumption) | exact take_s4 (by assumption) (by assumption) (by assumption) | (intro k hk; subst_vars; first | eq_refl | exact enc_drop | exact enc_take hk | exact absurd hk (Nat.not_lt_zero k)) | (subst_vars; first | eq_refl | (simp; done) | (simp; omega)) | (have h1 : Int.toNat 1 = 1 := rfl; have h2 := one_le (by assumption) (by assumption); simp only [List.length_append, List.length_nil, List.length_drop, h1] at *; omega) | (simp only [Nat.cast] at *; omega)) ?_; (try cbv))
    | trivial
    | (exfalso; omega)
    | (simp only [beq_iff_eq] at h; first | rw [if_pos (by assumption)] at h | rw [if_neg (by assumption)] at h))

def spec_jrAll.l0 : Nat → List Int → List (S72) → Int → Int → Option (List Int)
  | 0, _, _, _, _ => none
  | k + 1, x3, x6, x7, x8 => if x8 < x7 then (if 0 ≤ x8 then (if x8 < (x6.length : Int) then ((spec_jrOf.f ((rd_T72 x6 x8).f0) ((rd_T72 x6 x8).f1) ((rd_T72 x6 x8).f2) x8).bind fun t191 => (if x3.length + t191.length < 17592186044416 then (spec_jrAll.l0 k (x3 ++ t191) x6 x7 (wrap64 (x8 + 1))) else (none))) else (none)) else (none)) else (some x3)
def spec_jrAll.f (k : Nat) (l0 : List (S72)) : Option (List Int) := spec_jrAll.l0 k ([] : List Int) l0 (l0.length : Int) 0

theorem spec_jrAll_ok (k : Nat) (l0 : List (S72)) (r0 : List Int) (h : spec_jrAll.f k l0 = some r0) (n_l0 : Nat) (hn_l0 : l0.length = n_l0) (g_l0 : Nat → List V) (hg_l0 : encL e72 l0 = g_l0) (n_r0 : Nat) (hn_r0 : r0.length = n_r0) (g_r0 : Nat → List V) (hg_r0 : encL eI r0 = g_r0) : CallOK Try.prog 161 [.fz 3 n_l0 g_l0] [] (.row 0 0 n_r0) [.row 3 1 n_r0 g_r0] := by
  refine CallOK.of_code tabOK Try.func161 rfl rfl ⟨[(6, [3, 6, 7, 8]), (7, [3])], []⟩ ?_
  unfold spec_jrAll.f at h
  obtain ⟨P, hP⟩ : ∃ P, Try.prog = P := ⟨_, rfl⟩
  rw [hP]
  (try rw [hn_l0] at h); skip
  cbv
  repeat' (first
    | ((with_reducible show ∃ _, _)
       first
        | (refine ⟨trivial, ?_⟩; cbv)
        | (refine side (by first | with_reducible eq_refl | assumption | (intro _ _; with_reducible eq_refl) | exact lt_ix (by assumption) (by assumption) (by assumption) | exact lt_ix2 (by assumption) (by assumption) (by assumption) (by assumption) | exact lt_y (by assumption) (by assumption) | exact le_y (by assumption) | exact ge_y (by assumption) | exact cut_le (by assumption) (by assumption) | omega) ?_; (try cbv))
        | (refine bind_side (Eq.refl _) ?_; (try cbv))
        | (refine ⟨Frz.own, ?_⟩; cbv)
        | (refine ⟨.row, ?_⟩; cbv))
    | ((with_reducible show ∃ _ : Nat, _)
       first
        | (refine ⟨_, [3, 6, 7, 8], Nat.lt_succ_self _, ?_⟩; cbv; exact ⟨_, _, _, _, _, _, _, _, h, by first | assumption | rfl, by first | assumption | rfl, by first | assumption | rfl, by first | assumption | rfl, rfl⟩))
    | ((with_reducible show ∃ _ : List Nat, _)
       first
        | ((with_reducible (have h0 : Option.bind (spec_jrOf.f _ _ _ _) _ = some _ := h; clear h0))
           refine ⟨[], ?_⟩; cbv
           repeat (first | (refine all_show (by first | omega | decide) ?_; cbv) | (refine all_showT (by assumption) (by assumption) (by assumption) (by first | assumption | exact lt_ix (by assumption) (by assumption) (by assumption) | exact lt_ix2 (by assumption) (by assumption) (by assumption) (by assumption) | exact lt_y (by assumption) (by assumption) | exact le_y (by assumption) | exact ge_y (by assumption) | exact cut_le (by assumption) (by assumption) | omega) (by first | assumption | exact cut_hi (by assumption) | exact cut_hi2 (by assumption) (by assumption) | omega) ?_; intro D hD hnD g hgD; (try rw [hD] at h); cbv))
           obtain ⟨t, ht, h'⟩ := bind_some h
           clear h; have h := h'; clear h'; (try dsimp only at h)
           obtain ⟨n_c166_0, hn_c166_0⟩ : ∃ n, t.length = n := ⟨_, rfl⟩; obtain ⟨g_t, hg_c166_0⟩ : ∃ g, encL eI t = g := ⟨_, rfl⟩; (try rw [hn_c166_0] at h)
           refine ⟨_, _, (hP ▸ spec_jrOf_ok _ _ _ _ _ ht  _ hn_c166_0 _ hg_c166_0 : CallOK P 166 _ _ _ _), ?_⟩; cbv))
    | ((with_reducible show ∃ _ : Nat → St → Prop, _)
       first
        | (refine ⟨fun k1 s => ∃ x3 x6 x7 x8 n_x3 g_x3 n_x6 g_x6, spec_jrAll.l0 k1 x3 x6 x7 x8 = some r0 ∧ x3.length = n_x3 ∧ encL eI x3 = g_x3 ∧ x6.length = n_x6 ∧ encL e72 x6 = g_x6 ∧ s = ⟨⟨20, (upd 20 (upd 20 (upd 20 (upd 20 noT 8 (.val (.int .i64 x8))) 7 (.val (.int .i64 x7))) 6 (.fz 3 n_x6 g_x6)) 3 (.row 0 0 n_x3))⟩, [.row 3 1 n_x3 g_x3]⟩, ?_, [], ?_⟩
           rotate_left
           · cbv; exact ⟨_, [3, 6, 7, 8], by cbv; exact ⟨_, _, _, _, _, _, _, _, h, by first | assumption | rfl, by first | assumption | rfl, by first | assumption | rfl, by first | assumption | rfl, rfl⟩⟩
           clear h
           rintro (_ | k1) s1 ⟨x3, x6, x7, x8, n_x3, g_x3, n_x6, g_x6, h, hn_x3, hg_x3, hn_x6, hg_x6, rfl⟩
           · cases h
           unfold spec_jrAll.l0 at h
           (try rw [hn_x3] at h); (try rw [hn_x6] at h); skip
           cbv))
    | ((with_reducible show ∀ _ : Bool, _)
       first
        | (refine all_lt ?_ ?_ <;> (intro hd; first | exact absurd rfl hd | ((first | rw [if_pos hd] at h | rw [if_neg hd] at h | rw [if_pos (by omega)] at h | rw [if_neg (by omega)] at h | skip); (first | (rw [decide_eq_true hd] at h; (try simp only [bs, eq_self, if_true, if_false, reduceIte] at h)) | (rw [decide_eq_false hd] at h; (try simp only [bs, eq_self, if_true, if_false, reduceIte] at h)) | skip); cbv))))
    | ((with_reducible show ∀ _ : Int, _)
       first
        | (refine all_wrap ?_; intro y hy; (try rw [hy] at h); cbv)
        | (refine all_len ?_; intro y hy; (try replace hy : ((_ : Nat) : Int) = y := hy); (try rw [hy] at h); (try rw [show (NatCast.natCast _ : Int) = _ from hy] at h); cbv))
    | ((with_reducible show ∀ _ : Nat, _)
       first
        | (refine all_app (by first | assumption | exact (rfl : encL _ ([] : List _) = _)) (by first | assumption | rfl) (by assumption) (by first | assumption | rfl) ?_; intro L hL n_L hnL g hgL; (try rw [hL] at h); (try rw [Option.bind_some] at h); (try rw [hnL] at h); cbv))
    | ((with_reducible show ∀ _ : List V, _)
       first
        | (refine @all_rd _ _ e72 rd_T72 ?_ ?_ ?_ _ _ _ (fun _ _ => rfl) ?_ ?_ ?_ ?_ ?_ ?_
           rotate_left 3
           assumption
           assumption
           (first | rfl | assumption)
           (first | assumption | exact lt_ix (by assumption) (by assumption) (by assumption) | exact lt_ix2 (by assumption) (by assumption) (by assumption) (by assumption) | exact lt_y (by assumption) (by assumption) | exact le_y (by assumption) | exact ge_y (by assumption) | exact cut_le (by assumption) (by assumption) | omega)
           (first | assumption | exact lt_ix (by assumption) (by assumption) (by assumption) | exact lt_ix2 (by assumption) (by assumption) (by assumption) (by assumption) | exact lt_y (by assumption) (by assumption) | exact le_y (by assumption) | exact ge_y (by assumption) | exact cut_le (by assumption) (by assumption) | omega)
           intro z hz
           (try rw [hz] at h); cbv))
    | (obtain ⟨hc, h'⟩ := if_none h; clear h; have h := h'; clear h')
    | (simp only [Option.some.injEq, Prod.mk.injEq] at h; subst h)
    | ((with_reducible show ∃ _, _)
       refine side (by first | exact enc_same (by assumption) (by assumption) _ | exact take_s1 (by assumption) (by assumption) (by assumption) | exact take_s2 (by assumption) (by assumption) (by assumption) (by assumption) (by assumption) | exact take_s3 (by assumption) (by assumption) (by assumption) | exact take_s4 (by assumption) (by assumption) (by assumption) | (intro k hk; subst_vars; first | eq_refl | exact enc_drop | exact enc_take hk | exact absurd hk (Nat.not_lt_zero k)) | (subst_vars; first | eq_refl | (simp; done) | (simp; omega)) | (have h1 : Int.toNat 1 = 1 := rfl; have h2 := one_le (by assumption) (by assumption); simp only [List.length_append, List.length_nil, List.length_drop, h1] at *; omega) | (simp only [Nat.cast] at *; omega)) ?_; (try cbv)))

def spec_JournalNumbers.f (k : Nat) (l0 : List (S72)) : Option (List Int × Bool) := (spec_jrGood.f k l0).bind fun t873 => (if t873 = true then ((spec_jrAll.f k l0).bind fun t874 => (some (t874, true))) else (some (([] : List Int), false)))

theorem spec_JournalNumbers_ok (k : Nat) (l0 : List (S72)) (r0 : List Int) (r1 : Bool) (h : spec_JournalNumbers.f k l0 = some (r0, r1)) (n_l0 : Nat) (hn_l0 : l0.length = n_l0) (g_l0 : Nat → List V) (hg_l0 : encL e72 l0 = g_l0) (n_r0 : Nat) (hn_r0 : r0.length = n_r0) (g_r0 : Nat → List V) (hg_r0 : encL eI r0 = g_r0) : CallOK Try.prog 84 [.fz 3 n_l0 g_l0] [] (.tup [.row 0 0 n_r0, .val (.bool r1)]) [.row 3 1 n_r0 g_r0] := by
  refine CallOK.of_code tabOK Try.func84 rfl rfl ⟨[], []⟩ ?_
  unfold spec_JournalNumbers.f at h
  obtain ⟨P, hP⟩ : ∃ P, Try.prog = P := ⟨_, rfl⟩
  rw [hP]
  (try rw [hn_l0] at h); skip
  cbv
  repeat' (first
    | ((with_reducible show ∃ _, _)
       first
        | (refine ⟨trivial, ?_⟩; cbv)
        | (refine all_show (by first | omega | decide) ?_; cbv)
        | (refine side (by first | with_reducible eq_refl | assumption | (intro _ _; with_reducible eq_refl) | exact lt_ix (by assumption) (by assumption) (by assumption) | exact lt_ix2 (by assumption) (by assumption) (by assumption) (by assumption) | exact lt_y (by assumption) (by assumption) | exact le_y (by assumption) | exact ge_y (by assumption) | exact cut_le (by assumption) (by assumption) | omega | (dsimp only; omega)) ?_; (try cbv))
        | (refine bind_side (Eq.refl _) ?_; (try cbv))
        | (refine agree_side (Eq.refl _) ?_; (try cbv))
        | (refine agree_weak (Eq.refl _) ?_; (try cbv))
        | (refine ⟨.kept, side (Eq.refl _) (side (by first | trivial | exact ⟨clean_enc (by assumption) (by assumption) (fun _ => rfl), trivial⟩) ?_)⟩; cbv)
        | (refine ⟨.dead, ?_⟩; cbv)
        | (refine ⟨Frz.own, ?_⟩; cbv)
        | (refine ⟨.row, ?_⟩; cbv))
    | ((with_reducible show ∃ _ : List Nat, _)
       first
        | ((with_reducible (have h0 : Option.bind (spec_jrGood.f _ _) _ = some _ := h; clear h0))
           refine ⟨[], ?_⟩; cbv
           repeat (first | (refine all_show (by first | omega | decide) ?_; cbv) | (refine all_showT (by assumption) (by assumption) (by assumption) (by first | assumption | exact lt_ix (by assumption) (by assumption) (by assumption) | exact lt_ix2 (by assumption) (by assumption) (by assumption) (by assumption) | exact lt_y (by assumption) (by assumption) | exact le_y (by assumption) | exact ge_y (by assumption) | exact cut_le (by assumption) (by assumption) | omega) (by first | assumption | exact cut_hi (by assumption) | exact cut_hi2 (by assumption) (by assumption) | exact cut_hi3 (by assumption) | exact cut_hi4 (by assumption) (by assumption) | omega) ?_; intro D hD hnD g hgD; (try rw [hD] at h); cbv))
           obtain ⟨t, ht, h'⟩ := bind_some h
           clear h; have h := h'; clear h'; (try dsimp only at h)
           refine ⟨_, _, (hP ▸ spec_jrGood_ok _ _ _ ht _ (by first | assumption | rfl) _ (by assumption)  : CallOK P 160 _ _ _ _), ?_⟩
           rcases t with _ | _ <;> (try simp only [bs, eq_self, if_true, if_false, reduceIte] at h) <;> (try (cases h; done)) <;> cbv)
        | ((with_reducible (have h0 : Option.bind (spec_jrAll.f _ _) _ = some _ := h; clear h0))
           refine ⟨[], ?_⟩; cbv
           repeat (first | (refine all_show (by first | omega | decide) ?_; cbv) | (refine all_showT (by assumption) (by assumption) (by assumption) (by first | assumption | exact lt_ix (by assumption) (by assumption) (by assumption) | exact lt_ix2 (by assumption) (by assumption) (by assumption) (by assumption) | exact lt_y (by assumption) (by assumption) | exact le_y (by assumption) | exact ge_y (by assumption) | exact cut_le (by assumption) (by assumption) | omega) (by first | assumption | exact cut_hi (by assumption) | exact cut_hi2 (by assumption) (by assumption) | exact cut_hi3 (by assumption) | exact cut_hi4 (by assumption) (by assumption) | omega) ?_; intro D hD hnD g hgD; (try rw [hD] at h); cbv))
           obtain ⟨t, ht, h'⟩ := bind_some h
           clear h; have h := h'; clear h'; (try dsimp only at h)
           obtain ⟨n_c161_0, hn_c161_0⟩ : ∃ n, t.length = n := ⟨_, rfl⟩; obtain ⟨g_t, hg_c161_0⟩ : ∃ g, encL eI t = g := ⟨_, rfl⟩; (try rw [hn_c161_0] at h)
           refine ⟨_, _, (hP ▸ spec_jrAll_ok _ _ _ ht _ (by first | assumption | rfl) _ (by assumption) _ hn_c161_0 _ hg_c161_0 : CallOK P 161 _ _ _ _), ?_⟩; cbv))
    | ((with_reducible show ∃ _ : Nat → List V, _)
       first
        | (refine all_g0 ?_; cbv)
        | (refine all_putS eI (by assumption) (by assumption) (by (first | assumption | exact lt_ix (by assumption) (by assumption) (by assumption) | exact lt_ix2 (by assumption) (by assumption) (by assumption) (by assumption) | exact lt_y (by assumption) (by assumption) | exact le_y (by assumption) | exact ge_y (by assumption) | exact cut_le (by assumption) (by assumption) | omega)) rfl (fun _ => rfl) ?_; intro L hL hnL g hgL; (try rw [hL] at h); (try rw [Option.bind_some] at h); (try rw [hnL] at h); cbv)
        | (refine all_putS e72 (x := ⟨_, _, _⟩) (by assumption) (by assumption) (by (first | assumption | exact lt_ix (by assumption) (by assumption) (by assumption) | exact lt_ix2 (by assumption) (by assumption) (by assumption) (by assumption) | exact lt_y (by assumption) (by assumption) | exact le_y (by assumption) | exact ge_y (by assumption) | exact cut_le (by assumption) (by assumption) | omega)) rfl (fun _ => rfl) ?_; intro L hL hnL g hgL; (try rw [hL] at h); (try rw [Option.bind_some] at h); (try rw [hnL] at h); cbv)
        | (refine all_build1 e72 (x := ⟨_, _, _⟩) rfl ?_; intro g_b hg_b; cbv))
    | ((with_reducible show ∀ _ : Bool, _)
       first
        | (refine all_lt ?_ ?_ <;> (intro hd; first | exact absurd rfl hd | ((first | rw [if_pos hd] at h | rw [if_neg hd] at h | rw [if_pos (by omega)] at h | rw [if_neg (by omega)] at h | skip); (first | (rw [decide_eq_true hd] at h; (try simp only [bs, eq_self, if_true, if_false, reduceIte] at h)) | (rw [decide_eq_false hd] at h; (try simp only [bs, eq_self, if_true, if_false, reduceIte] at h)) | skip); cbv)))
        | (refine all_le ?_ ?_ <;> (intro hd; first | exact absurd rfl hd | ((first | rw [if_pos hd] at h | rw [if_neg hd] at h | rw [if_pos (by omega)] at h | rw [if_neg (by omega)] at h | skip); (first | (rw [decide_eq_true hd] at h; (try simp only [bs, eq_self, if_true, if_false, reduceIte] at h)) | (rw [decide_eq_false hd] at h; (try simp only [bs, eq_self, if_true, if_false, reduceIte] at h)) | skip); cbv)))
        | (refine all_beq ?_ ?_ <;> (intro hd; first | exact absurd rfl hd | ((first | rw [if_pos hd] at h | rw [if_neg hd] at h | rw [if_pos (by omega)] at h | rw [if_neg (by omega)] at h | skip); (first | (rw [beq_pos hd] at h; (try simp only [bs, eq_self, if_true, if_false, reduceIte] at h)) | (rw [beq_neg hd] at h; (try simp only [bs, eq_self, if_true, if_false, reduceIte] at h)) | skip); cbv)))
        | (refine all_bne ?_ ?_ <;> (intro hd; first | exact absurd rfl hd | ((first | rw [if_pos hd] at h | rw [if_neg hd] at h | rw [if_pos (by omega)] at h | rw [if_neg (by omega)] at h | skip); (first | (rw [bne_pos hd] at h; (try simp only [bs, eq_self, if_true, if_false, reduceIte] at h)) | (rw [bne_neg hd] at h; (try simp only [bs, eq_self, if_true, if_false, reduceIte] at h)) | skip); cbv)))
        | (refine all_cells rfl ?_ ?_ <;> (intro hd; (first | (rw [hd] at h; (try simp only [bs, eq_self, if_true, if_false, reduceIte] at h)) | skip); cbv))
        | (refine all_cellsN rfl ?_ ?_ <;> (intro hd; (first | (rw [hd] at h; (try simp only [bs, eq_self, if_true, if_false, reduceIte] at h)) | skip); cbv))
        | (refine all_not_true ?_; cbv)
        | (refine all_not_false ?_; cbv)
        | (refine all_not ?_ ?_ <;> (intro hd; subst hd; (try simp only [bs, eq_self, if_true, if_false, reduceIte] at h); cbv))
        | (refine all_bool ?_ ?_ <;> (intro hd; (try simp only [hd, bs, eq_self, if_true, if_false, reduceIte] at h); cbv)))
    | ((with_reducible show ∀ _ : Int, _)
       first
        | (refine all_u0 ?_; cbv)
        | (refine all_mn ?_; intro y hy; (try rw [hy] at h); cbv)
        | (refine all_mx ?_; intro y hy; (try rw [hy] at h); cbv)
        | (refine all_neg ?_; intro y hy; (try rw [hy] at h); cbv)
        | (refine all_shr40 ?_; intro y hy; (try rw [hy] at h); cbv)
        | (refine all_and ?_; intro y hy; (try rw [hy] at h); cbv)
        | (refine all_wrap_old (by assumption) ?_; cbv)
        | (refine all_wrap ?_; intro y hy; (try rw [hy] at h); cbv)
        | (refine all_len_old (by assumption) ?_; cbv)
        | (refine all_len ?_; intro y hy; (try replace hy : ((_ : Nat) : Int) = y := hy); (try rw [hy] at h); (try rw [show (NatCast.natCast _ : Int) = _ from hy] at h); cbv)
        | (refine all_old (α := Int) (by assumption) ?_; cbv)
        | (refine all_eq (α := Int) ?_; intro y hy; (try replace hy : ((_ : Nat) : Int) = y := hy); (try rw [hy] at h); cbv))
    | ((with_reducible show ∀ _ : Nat, _)
       first
        | (refine @all_cut0 ?_ ?_ ?_ ?_ _ _ _ ?_ ?_ ?_ ?_ ?_
           rotate_left 4
           assumption
           assumption
           (first | assumption | exact lt_ix (by assumption) (by assumption) (by assumption) | exact lt_ix2 (by assumption) (by assumption) (by assumption) (by assumption) | exact lt_y (by assumption) (by assumption) | exact le_y (by assumption) | exact ge_y (by assumption) | exact cut_le (by assumption) (by assumption) | omega)
           (first | assumption | exact cut_hi (by assumption) | exact cut_hi2 (by assumption) (by assumption) | exact cut_hi3 (by assumption) | exact cut_hi4 (by assumption) (by assumption) | omega)
           intro D hD n_D hnD g hgD; (try rw [hD] at h); (try rw [hnD] at h); cbv)
        | (refine @all_cutD ?_ ?_ ?_ ?_ _ _ _ _ ?_ ?_ ?_ ?_ ?_ ?_
           rotate_left 4
           assumption
           assumption
           (first | assumption | exact lt_ix (by assumption) (by assumption) (by assumption) | exact lt_ix2 (by assumption) (by assumption) (by assumption) (by assumption) | exact lt_y (by assumption) (by assumption) | exact le_y (by assumption) | exact ge_y (by assumption) | exact cut_le (by assumption) (by assumption) | omega)
           (first | assumption | exact lt_ix (by assumption) (by assumption) (by assumption) | exact lt_ix2 (by assumption) (by assumption) (by assumption) (by assumption) | exact lt_y (by assumption) (by assumption) | exact le_y (by assumption) | exact ge_y (by assumption) | exact cut_le (by assumption) (by assumption) | omega)
           assumption
           intro D hD n_D hnD g hgD; (try rw [hD] at h); (try rw [hnD] at h); cbv)
        | (refine @all_cut ?_ ?_ ?_ ?_ _ _ _ _ ?_ ?_ ?_ ?_ ?_ ?_
           rotate_left 4
           assumption
           assumption
           (first | assumption | exact lt_ix (by assumption) (by assumption) (by assumption) | exact lt_ix2 (by assumption) (by assumption) (by assumption) (by assumption) | exact lt_y (by assumption) (by assumption) | exact le_y (by assumption) | exact ge_y (by assumption) | exact cut_le (by assumption) (by assumption) | omega)
           (first | assumption | exact lt_ix (by assumption) (by assumption) (by assumption) | exact lt_ix2 (by assumption) (by assumption) (by assumption) (by assumption) | exact lt_y (by assumption) (by assumption) | exact le_y (by assumption) | exact ge_y (by assumption) | exact cut_le (by assumption) (by assumption) | omega)
           (first | assumption | exact cut_hi (by assumption) | exact cut_hi2 (by assumption) (by assumption) | exact cut_hi3 (by assumption) | exact cut_hi4 (by assumption) (by assumption) | omega)
           intro D hD n_D hnD g hgD; (try rw [hD] at h); (try rw [hnD] at h); cbv)
        | (refine all_ix0_old (by assumption) ?_; cbv)
        | (refine all_ix0 ?_; intro q hq; (try rw [hq] at h); cbv)
        | (refine all_app (by first | assumption | exact (rfl : encL _ ([] : List _) = _)) (by first | assumption | rfl) (by assumption) (by first | assumption | rfl) ?_; intro L hL n_L hnL g hgL; (try rw [hL] at h); (try rw [Option.bind_some] at h); (try rw [hnL] at h); cbv)
        | (refine all_appF (by first | assumption | exact (rfl : encL _ ([] : List _) = _)) (by first | assumption | rfl) (by assumption) (by first | assumption | rfl) ?_; intro L hL n_L hnL g hgL; (try rw [hL] at h); (try rw [Option.bind_some] at h); (try rw [hnL] at h); cbv)
        | (refine all_appD (by first | assumption | exact (rfl : encL _ ([] : List _) = _)) (by first | assumption | rfl) (by assumption) (by first | assumption | (simp only [List.length_drop]; omega)) ?_; intro L hL n_L hnL g hgL; (try rw [hL] at h); (try rw [Option.bind_some] at h); (try rw [hnL] at h); cbv)
        | (intro off' n' ho hn'; obtain rfl : off' = _ := ho; (try replace hn' := cut_len hn' (by assumption)); (try replace hn' := cut_len0 hn'); cbv)
        | (refine all_eq (α := Nat) ?_; intro y hy; (try rw [hy] at h); cbv))
    | ((with_reducible show ∀ _ : List V, _)
       first
        | (refine @all_rd_old _ _ eI rd ?_ ?_ ?_ ?_ _ _ _ (fun _ _ => rfl) ?_ ?_ ?_ ?_ ?_ ?_ ?_
           rotate_left 4
           assumption
           assumption
           (first | rfl | assumption)
           (first | assumption | exact lt_ix (by assumption) (by assumption) (by assumption) | exact lt_ix2 (by assumption) (by assumption) (by assumption) (by assumption) | exact lt_y (by assumption) (by assumption) | exact le_y (by assumption) | exact ge_y (by assumption) | exact cut_le (by assumption) (by assumption) | omega)
           (first | assumption | exact lt_ix (by assumption) (by assumption) (by assumption) | exact lt_ix2 (by assumption) (by assumption) (by assumption) (by assumption) | exact lt_y (by assumption) (by assumption) | exact le_y (by assumption) | exact ge_y (by assumption) | exact cut_le (by assumption) (by assumption) | omega)
           assumption
           cbv)
        | (refine @all_rd _ _ eI rd ?_ ?_ ?_ _ _ _ (fun _ _ => rfl) ?_ ?_ ?_ ?_ ?_ ?_
           rotate_left 3
           assumption
           assumption
           (first | rfl | assumption)
           (first | assumption | exact lt_ix (by assumption) (by assumption) (by assumption) | exact lt_ix2 (by assumption) (by assumption) (by assumption) (by assumption) | exact lt_y (by assumption) (by assumption) | exact le_y (by assumption) | exact ge_y (by assumption) | exact cut_le (by assumption) (by assumption) | omega)
           (first | assumption | exact lt_ix (by assumption) (by assumption) (by assumption) | exact lt_ix2 (by assumption) (by assumption) (by assumption) (by assumption) | exact lt_y (by assumption) (by assumption) | exact le_y (by assumption) | exact ge_y (by assumption) | exact cut_le (by assumption) (by assumption) | omega)
           intro z hz
           (try rw [hz] at h); cbv)
        | (refine @all_rd_old _ _ e72 rd_T72 ?_ ?_ ?_ ?_ _ _ _ (fun _ _ => rfl) ?_ ?_ ?_ ?_ ?_ ?_ ?_
           rotate_left 4
           assumption
           assumption
           (first | rfl | assumption)
           (first | assumption | exact lt_ix (by assumption) (by assumption) (by assumption) | exact lt_ix2 (by assumption) (by assumption) (by assumption) (by assumption) | exact lt_y (by assumption) (by assumption) | exact le_y (by assumption) | exact ge_y (by assumption) | exact cut_le (by assumption) (by assumption) | omega)
           (first | assumption | exact lt_ix (by assumption) (by assumption) (by assumption) | exact lt_ix2 (by assumption) (by assumption) (by assumption) (by assumption) | exact lt_y (by assumption) (by assumption) | exact le_y (by assumption) | exact ge_y (by assumption) | exact cut_le (by assumption) (by assumption) | omega)
           assumption
           cbv)
        | (refine @all_rd _ _ e72 rd_T72 ?_ ?_ ?_ _ _ _ (fun _ _ => rfl) ?_ ?_ ?_ ?_ ?_ ?_
           rotate_left 3
           assumption
           assumption
           (first | rfl | assumption)
           (first | assumption | exact lt_ix (by assumption) (by assumption) (by assumption) | exact lt_ix2 (by assumption) (by assumption) (by assumption) (by assumption) | exact lt_y (by assumption) (by assumption) | exact le_y (by assumption) | exact ge_y (by assumption) | exact cut_le (by assumption) (by assumption) | omega)
           (first | assumption | exact lt_ix (by assumption) (by assumption) (by assumption) | exact lt_ix2 (by assumption) (by assumption) (by assumption) (by assumption) | exact lt_y (by assumption) (by assumption) | exact le_y (by assumption) | exact ge_y (by assumption) | exact cut_le (by assumption) (by assumption) | omega)
           intro z hz
           (try rw [hz] at h); cbv))
    | (obtain ⟨hc, h'⟩ := if_none h; clear h; have h := h'; clear h'; (try simp only [List.length_nil, Nat.zero_add] at hc))
    | (obtain ⟨hc, h'⟩ := if_none' h; clear h; have h := h'; clear h')
    | (cases h; done)
    | (simp only [Option.bind_some] at h)
    | (simp only [Option.some.injEq, Prod.mk.injEq] at h; obtain ⟨rfl, rfl⟩ := h)
    | ((with_reducible show ∃ _, _)
       refine side (by first | exact enc_same (by assumption) (by assumption) _ | exact take_s1 (by assumption) (by assumption) (by assumption) | exact take_s2 (by assumption) (by assumption) (by assumption) (by assumption) (by assumption) | exact take_s3 (by assumption) (by assumption) (by assumption) | exact take_s4 (by assumption) (by assumption) (by assumption) | (intro k hk; subst_vars; first | eq_refl | exact enc_drop | exact enc_take hk | exact absurd hk (Nat.not_lt_zero k)) | (subst_vars; first | eq_refl | (simp; done) | (simp; omega)) | (have h1 : Int.toNat 1 = 1 := rfl; have h2 := one_le (by assumption) (by assumption); simp only [List.length_append, List.length_nil, List.length_drop, h1] at *; omega) | (simp only [Nat.cast] at *; omega)) ?_; (try cbv))
    | trivial
    | (exfalso; omega)
    | (simp only [beq_iff_eq] at h; first | rw [if_pos (by assumption)] at h | rw [if_neg (by assumption)] at h))

def spec_l1Cur_numbers.l0 : Nat → List Int → Int → List Int → Int → Int → Option (List Int × Int × Int)
  | 0, _, _, _, _, _ => none
  | k + 1, x4, x5, x1000, x1001, x1002 => if (x4.length : Int) < x5 then (if x4.length < 17592186044416 then (spec_l1Cur_numbers.l0 k (x4 ++ [1]) x5 x1000 x1001 x1002) else (none)) else (some (x4, x1001, x1002))
def spec_l1Cur_numbers.j1 : Nat → List Int → Int → Bool → List Int → Int → Int → Option (List Int × Int × Int)
  | 0, _, _, _, _, _, _ => none
  | k + 1, x4, x16, x17, x1000, x1001, x1002 => if x17 = true then ((spec_l1Cur_pick.f x1000 x1001 x1002 (wrap64 ((x4.length : Int) + 1))).bind fun bt212 => (if 0 ≤ bt212.1 then (if bt212.1 ≤ (x4.length : Int) then (some ((x4.take (bt212.1 : Int).toNat), bt212.2.1, bt212.2.2)) else (none)) else (none))) else (if x16 = 2 then (if (x4.length : Int) > 0 then ((spec_l1Cur_pick.f x1000 x1001 x1002 (x4.length : Int)).bind fun bt218 => ((spec_l1Cur_pick.f x1000 bt218.2.1 bt218.2.2 1000).bind fun bt221 => ((spec_l1Cur_among.f x1000 bt221.2.1 bt221.2.2 (([0, 1, 2, bt221.1, 9999] : List Int))).bind fun bt227 => (if 0 ≤ bt218.1 then (if bt218.1 < (x4.length : Int) then (some ((x4.set (bt218.1 : Int).toNat bt227.1), bt227.2.1, bt227.2.2)) else (none)) else (none))))) else (some (x4, x1001, x1002))) else (if x16 = 3 then (if (x4.length : Int) < 200 then ((spec_l1Cur_pick.f x1000 x1001 x1002 3).bind fun bt231 => (if x4.length < 17592186044416 then (some ((x4 ++ [bt231.1]), bt231.2.1, bt231.2.2)) else (none))) else (some (x4, x1001, x1002))) else (if x16 = 4 then ((spec_l1Cur_pick.f x1000 x1001 x1002 8).bind fun bt237 => (if bt237.1 = 0 then ((spec_l1Cur_pick.f x1000 bt237.2.1 bt237.2.2 2).bind fun bt240 => (spec_l1Cur_numbers.l0 k x4 (wrap64 (200 + bt240.1)) x1000 bt240.2.1 bt240.2.2)) else (if bt237.1 = 1 then ((spec_l1Cur_among.f x1000 bt237.2.1 bt237.2.2 (([(-1), 10000] : List Int))).bind fun bt249 => (if x4.length < 17592186044416 then (some ((x4 ++ [bt249.1]), bt249.2.1, bt249.2.2)) else (none))) else (some (x4, bt237.2.1, bt237.2.2))))) else (some (x4, x1001, x1002)))))
def spec_l1Cur_numbers.j0 : Nat → List (S72) → List Int → Int → Int → Option (List Int × Int × Int)
  | 0, _, _, _, _ => none
  | k + 1, x3, x1000, x1001, x1002 => (spec_jrAll.f k x3).bind fun t206 => ((spec_l1Cur_pick.f x1000 x1001 x1002 6).bind fun bt209 => (if bt209.1 = 0 then (spec_l1Cur_numbers.j1 k t206 bt209.1 (bt209.1 == 0) x1000 bt209.2.1 bt209.2.2) else (spec_l1Cur_numbers.j1 k t206 bt209.1 (bt209.1 == 1) x1000 bt209.2.1 bt209.2.2)))
def spec_l1Cur_numbers.f (k : Nat) (s0_0 : List Int) (s0_1 : Int) (s0_2 : Int) : Option (List Int × Int × Int) := (spec_l1Cur_journalRecords.f k s0_0 s0_1 s0_2).bind fun bt197 => ((spec_jrGood.f k bt197.1).bind fun t202 => (if t202 = true then (spec_l1Cur_numbers.j0 k bt197.1 s0_0 bt197.2.1 bt197.2.2) else (spec_l1Cur_numbers.j0 k (([(⟨1, 2, 5⟩ : S72)] : List (S72))) s0_0 bt197.2.1 bt197.2.2)))

theorem spec_l1Cur_numbers_ok (k : Nat) (s0_0 : List Int) (s0_1 : Int) (s0_2 : Int) (r0 : List Int) (r1 : Int) (r2 : Int) (h : spec_l1Cur_numbers.f k s0_0 s0_1 s0_2 = some (r0, r1, r2)) (n_s0_0 : Nat) (hn_s0_0 : s0_0.length = n_s0_0) (g_s0_0 : Nat → List V) (hg_s0_0 : encL eU s0_0 = g_s0_0) (n_r0 : Nat) (hn_r0 : r0.length = n_r0) (g_r0 : Nat → List V) (hg_r0 : encL eI r0 = g_r0) : CallOK Try.prog 147 [.ptr 0 0] [.box 139 [.fz 1 n_s0_0 g_s0_0, .val (.int .i64 s0_1), .val (.int .u64 s0_2)]] (.row 1 0 n_r0) [.box 139 [.fz 1 n_s0_0 g_s0_0, .val (.int .i64 r1), .val (.int .u64 r2)], .row 3 1 n_r0 g_r0] := by
  refine CallOK.of_code tabOK Try.func147 rfl rfl ⟨[(5, [0, 4]), (11, [0, 4]), (13, [0, 4]), (15, [0, 4, 16]), (23, [4])], []⟩ ?_
  unfold spec_l1Cur_numbers.f at h
  obtain ⟨P, hP⟩ : ∃ P, Try.prog = P := ⟨_, rfl⟩
  rw [hP]
  (try rw [hn_s0_0] at h); skip
  cbv
  repeat' (first
    | ((with_reducible show ∃ _, _)
       first
        | (refine ⟨trivial, ?_⟩; cbv)
        | (refine side (by first | with_reducible eq_refl | assumption | (intro _ _; with_reducible eq_refl) | exact lt_ix (by assumption) (by assumption) (by assumption) | exact lt_ix2 (by assumption) (by assumption) (by assumption) (by assumption) | exact lt_y (by assumption) (by assumption) | exact le_y (by assumption) | exact ge_y (by assumption) | exact cut_le (by assumption) (by assumption) | omega) ?_; (try cbv))
        | (refine bind_side (Eq.refl _) ?_; (try cbv))
        | (refine ⟨.kept, side (Eq.refl _) (side (by first | trivial | exact ⟨clean_enc (by assumption) (by assumption) (fun _ => rfl), trivial⟩) ?_)⟩; cbv)
        | (refine ⟨.dead, ?_⟩; cbv)
        | (refine ⟨Frz.own, ?_⟩; cbv)
        | (refine ⟨.row, ?_⟩; cbv))
    | ((with_reducible show ∃ _ : Nat, _)
       first
        | (refine ⟨_, [4, 5], Nat.lt_succ_self _, ?_⟩; cbv; exact ⟨_, _, _, _, _, _, h, by first | assumption | rfl, by first | assumption | rfl, rfl⟩))
    | ((with_reducible show ∃ _ : List Nat, _)
       first
        | ((with_reducible (have h0 : Option.bind (spec_l1Cur_pick.f _ _ _ _) _ = some _ := h; clear h0))
           refine ⟨[0], ?_⟩; cbv
           repeat (first | (refine all_show (by first | omega | decide) ?_; cbv) | (refine all_showT (by assumption) (by assumption) (by assumption) (by first | assumption | exact lt_ix (by assumption) (by assumption) (by assumption) | exact lt_ix2 (by assumption) (by assumption) (by assumption) (by assumption) | exact lt_y (by assumption) (by assumption) | exact le_y (by assumption) | exact ge_y (by assumption) | exact cut_le (by assumption) (by assumption) | omega) (by first | assumption | exact cut_hi (by assumption) | exact cut_hi2 (by assumption) (by assumption) | omega) ?_; intro D hD hnD g hgD; (try rw [hD] at h); cbv))
           obtain ⟨⟨t0, t1, t2⟩, ht, h'⟩ := bind_some h
           clear h; have h := h'; clear h'; (try dsimp only at h)
           refine ⟨_, _, (hP ▸ spec_l1Cur_pick_ok _ _ _ _ _ _ _ ht _ (by first | assumption | rfl) _ (by assumption)  : CallOK P 122 _ _ _ _), ?_⟩; cbv)
        | ((with_reducible (have h0 : Option.bind (spec_l1Cur_among.f _ _ _ _) _ = some _ := h; clear h0))
           refine ⟨[0], ?_⟩; cbv
           repeat (first | (refine all_show (by first | omega | decide) ?_; cbv) | (refine all_showT (by assumption) (by assumption) (by assumption) (by first | assumption | exact lt_ix (by assumption) (by assumption) (by assumption) | exact lt_ix2 (by assumption) (by assumption) (by assumption) (by assumption) | exact lt_y (by assumption) (by assumption) | exact le_y (by assumption) | exact ge_y (by assumption) | exact cut_le (by assumption) (by assumption) | omega) (by first | assumption | exact cut_hi (by assumption) | exact cut_hi2 (by assumption) (by assumption) | omega) ?_; intro D hD hnD g hgD; (try rw [hD] at h); cbv))
           obtain ⟨⟨t0, t1, t2⟩, ht, h'⟩ := bind_some h
           clear h; have h := h'; clear h'; (try dsimp only at h)
           refine ⟨_, _, (hP ▸ spec_l1Cur_among_ok _ _ _ _ _ _ _ ht _ (by first | assumption | rfl) _ (by assumption) _ (by first | assumption | rfl) _ (by assumption)  : CallOK P 136 _ _ _ _), ?_⟩; cbv)
        | ((with_reducible (have h0 : Option.bind (spec_l1Cur_journalRecords.f _ _ _ _) _ = some _ := h; clear h0))
           refine ⟨[0], ?_⟩; cbv
           repeat (first | (refine all_show (by first | omega | decide) ?_; cbv) | (refine all_showT (by assumption) (by assumption) (by assumption) (by first | assumption | exact lt_ix (by assumption) (by assumption) (by assumption) | exact lt_ix2 (by assumption) (by assumption) (by assumption) (by assumption) | exact lt_y (by assumption) (by assumption) | exact le_y (by assumption) | exact ge_y (by assumption) | exact cut_le (by assumption) (by assumption) | omega) (by first | assumption | exact cut_hi (by assumption) | exact cut_hi2 (by assumption) (by assumption) | omega) ?_; intro D hD hnD g hgD; (try rw [hD] at h); cbv))
           obtain ⟨⟨t0, t1, t2⟩, ht, h'⟩ := bind_some h
           clear h; have h := h'; clear h'; (try dsimp only at h)
           obtain ⟨n_c156_0, hn_c156_0⟩ : ∃ n, t0.length = n := ⟨_, rfl⟩; obtain ⟨g_t, hg_c156_0⟩ : ∃ g, encL e72 t0 = g := ⟨_, rfl⟩; (try rw [hn_c156_0] at h)
           refine ⟨_, _, (hP ▸ spec_l1Cur_journalRecords_ok _ _ _ _ _ _ _ ht _ (by first | assumption | rfl) _ (by assumption) _ hn_c156_0 _ hg_c156_0 : CallOK P 156 _ _ _ _), ?_⟩; cbv)
        | ((with_reducible (have h0 : Option.bind (spec_jrGood.f _ _) _ = some _ := h; clear h0))
           refine ⟨[], ?_⟩; cbv
           repeat (first | (refine all_show (by first | omega | decide) ?_; cbv) | (refine all_showT (by assumption) (by assumption) (by assumption) (by first | assumption | exact lt_ix (by assumption) (by assumption) (by assumption) | exact lt_ix2 (by assumption) (by assumption) (by assumption) (by assumption) | exact lt_y (by assumption) (by assumption) | exact le_y (by assumption) | exact ge_y (by assumption) | exact cut_le (by assumption) (by assumption) | omega) (by first | assumption | exact cut_hi (by assumption) | exact cut_hi2 (by assumption) (by assumption) | omega) ?_; intro D hD hnD g hgD; (try rw [hD] at h); cbv))
           obtain ⟨t, ht, h'⟩ := bind_some h
           clear h; have h := h'; clear h'; (try dsimp only at h)
           refine ⟨_, _, (hP ▸ spec_jrGood_ok _ _ _ ht _ (by first | assumption | rfl) _ (by assumption)  : CallOK P 160 _ _ _ _), ?_⟩
           rcases t with _ | _ <;> (try simp only [bs, eq_self, if_true, if_false, reduceIte] at h) <;> (try (cases h; done)) <;> cbv)
        | ((with_reducible (have h0 : Option.bind (spec_jrAll.f _ _) _ = some _ := h; clear h0))
           refine ⟨[], ?_⟩; cbv
           repeat (first | (refine all_show (by first | omega | decide) ?_; cbv) | (refine all_showT (by assumption) (by assumption) (by assumption) (by first | assumption | exact lt_ix (by assumption) (by assumption) (by assumption) | exact lt_ix2 (by assumption) (by assumption) (by assumption) (by assumption) | exact lt_y (by assumption) (by assumption) | exact le_y (by assumption) | exact ge_y (by assumption) | exact cut_le (by assumption) (by assumption) | omega) (by first | assumption | exact cut_hi (by assumption) | exact cut_hi2 (by assumption) (by assumption) | omega) ?_; intro D hD hnD g hgD; (try rw [hD] at h); cbv))
           obtain ⟨t, ht, h'⟩ := bind_some h
           clear h; have h := h'; clear h'; (try dsimp only at h)
           obtain ⟨n_c161_0, hn_c161_0⟩ : ∃ n, t.length = n := ⟨_, rfl⟩; obtain ⟨g_t, hg_c161_0⟩ : ∃ g, encL eI t = g := ⟨_, rfl⟩; (try rw [hn_c161_0] at h)
           refine ⟨_, _, (hP ▸ spec_jrAll_ok _ _ _ ht _ (by first | assumption | rfl) _ (by assumption) _ hn_c161_0 _ hg_c161_0 : CallOK P 161 _ _ _ _), ?_⟩; cbv))
    | ((with_reducible show ∃ _ : Nat → List V, _)
       first
        | (refine all_buildI1 ?_; intro g_b hg_b; cbv)
        | (refine all_buildI2 ?_; intro g_b hg_b; cbv)
        | (refine all_buildI5 ?_; intro g_b hg_b; cbv)
        | (refine all_putS eI (by assumption) (by assumption) (by (first | assumption | exact lt_ix (by assumption) (by assumption) (by assumption) | exact lt_ix2 (by assumption) (by assumption) (by assumption) (by assumption) | exact lt_y (by assumption) (by assumption) | exact le_y (by assumption) | exact ge_y (by assumption) | exact cut_le (by assumption) (by assumption) | omega)) rfl (fun _ => rfl) ?_; intro L hL hnL g hgL; (try rw [hL] at h); (try rw [Option.bind_some] at h); (try rw [hnL] at h); cbv)
        | (refine all_build1 e72 (x := ⟨_, _, _⟩) rfl ?_; intro g_b hg_b; cbv))
    | ((with_reducible show ∃ _ : Nat → St → Prop, _)
       first
        | (refine ⟨fun k1 s => ∃ x4 x5 x1001 x1002 n_x4 g_x4, spec_l1Cur_numbers.l0 k1 x4 x5 s0_0 x1001 x1002 = some (r0, r1, r2) ∧ x4.length = n_x4 ∧ encL eI x4 = g_x4 ∧ s = ⟨⟨78, (upd 78 (upd 78 noT 5 (.val (.int .i64 x5))) 4 (.row 1 0 n_x4))⟩, [.box 139 [.fz 1 n_s0_0 g_s0_0, .val (.int .i64 x1001), .val (.int .u64 x1002)], .row 3 1 n_x4 g_x4]⟩, ?_, [], ?_⟩
           rotate_left
           · cbv; exact ⟨_, [4, 5], by cbv; exact ⟨_, _, _, _, _, _, h, by first | assumption | rfl, by first | assumption | rfl, rfl⟩⟩
           clear h
           rintro (_ | k1) s1 ⟨x4, x5, x1001, x1002, n_x4, g_x4, h, hn_x4, hg_x4, rfl⟩
           · cases h
           unfold spec_l1Cur_numbers.l0 at h
           (try rw [hn_x4] at h); skip
           cbv))
    | ((with_reducible (have h0 : spec_l1Cur_numbers.j0 _ _ _ _ _ = some _ := h; clear h0))
       first
        | (unfold spec_l1Cur_numbers.j0 at h
           rcases k with _ | k
           · cases h
           (try dsimp only at h); (try simp only [bs, eq_self, if_true, if_false, reduceIte] at h); (try rw [hn_s0_0] at h); (try rw [show (Nat.cast n_s0_0 : Int) = _ from (by assumption)] at h); (try rw [show (NatCast.natCast n_s0_0 : Int) = _ from (by assumption)] at h); (try (simp only [Nat.cast] at h; rw [show (NatCast.natCast n_s0_0 : Int) = _ from (by assumption)] at h)); (try rw [hn_c156_0] at h); (try rw [show (Nat.cast n_c156_0 : Int) = _ from (by assumption)] at h); (try rw [show (NatCast.natCast n_c156_0 : Int) = _ from (by assumption)] at h); (try (simp only [Nat.cast] at h; rw [show (NatCast.natCast n_c156_0 : Int) = _ from (by assumption)] at h)); (try rw [hn_c161_0] at h); (try rw [show (Nat.cast n_c161_0 : Int) = _ from (by assumption)] at h); (try rw [show (NatCast.natCast n_c161_0 : Int) = _ from (by assumption)] at h); (try (simp only [Nat.cast] at h; rw [show (NatCast.natCast n_c161_0 : Int) = _ from (by assumption)] at h)); (try rw [hn_x4] at h); (try rw [show (Nat.cast n_x4 : Int) = _ from (by assumption)] at h); (try rw [show (NatCast.natCast n_x4 : Int) = _ from (by assumption)] at h); (try (simp only [Nat.cast] at h; rw [show (NatCast.natCast n_x4 : Int) = _ from (by assumption)] at h)); (try rw [hn_x1000] at h); (try rw [show (Nat.cast n_x1000 : Int) = _ from (by assumption)] at h); (try rw [show (NatCast.natCast n_x1000 : Int) = _ from (by assumption)] at h); (try (simp only [Nat.cast] at h; rw [show (NatCast.natCast n_x1000 : Int) = _ from (by assumption)] at h))))
    | ((with_reducible (have h0 : spec_l1Cur_numbers.j1 _ _ _ _ _ _ _ = some _ := h; clear h0))
       first
        | (unfold spec_l1Cur_numbers.j1 at h
           rcases k with _ | k
           · cases h
           (try dsimp only at h); (try simp only [bs, eq_self, if_true, if_false, reduceIte] at h); (try rw [hn_s0_0] at h); (try rw [show (Nat.cast n_s0_0 : Int) = _ from (by assumption)] at h); (try rw [show (NatCast.natCast n_s0_0 : Int) = _ from (by assumption)] at h); (try (simp only [Nat.cast] at h; rw [show (NatCast.natCast n_s0_0 : Int) = _ from (by assumption)] at h)); (try rw [hn_c156_0] at h); (try rw [show (Nat.cast n_c156_0 : Int) = _ from (by assumption)] at h); (try rw [show (NatCast.natCast n_c156_0 : Int) = _ from (by assumption)] at h); (try (simp only [Nat.cast] at h; rw [show (NatCast.natCast n_c156_0 : Int) = _ from (by assumption)] at h)); (try rw [hn_c161_0] at h); (try rw [show (Nat.cast n_c161_0 : Int) = _ from (by assumption)] at h); (try rw [show (NatCast.natCast n_c161_0 : Int) = _ from (by assumption)] at h); (try (simp only [Nat.cast] at h; rw [show (NatCast.natCast n_c161_0 : Int) = _ from (by assumption)] at h)); (try rw [hn_x4] at h); (try rw [show (Nat.cast n_x4 : Int) = _ from (by assumption)] at h); (try rw [show (NatCast.natCast n_x4 : Int) = _ from (by assumption)] at h); (try (simp only [Nat.cast] at h; rw [show (NatCast.natCast n_x4 : Int) = _ from (by assumption)] at h)); (try rw [hn_x1000] at h); (try rw [show (Nat.cast n_x1000 : Int) = _ from (by assumption)] at h); (try rw [show (NatCast.natCast n_x1000 : Int) = _ from (by assumption)] at h); (try (simp only [Nat.cast] at h; rw [show (NatCast.natCast n_x1000 : Int) = _ from (by assumption)] at h))))
    | ((with_reducible show ∀ _ : Bool, _)
       first
        | (refine all_lt ?_ ?_ <;> (intro hd; first | exact absurd rfl hd | ((first | rw [if_pos hd] at h | rw [if_neg hd] at h | rw [if_pos (by omega)] at h | rw [if_neg (by omega)] at h | skip); (first | (rw [decide_eq_true hd] at h; (try simp only [bs, eq_self, if_true, if_false, reduceIte] at h)) | (rw [decide_eq_false hd] at h; (try simp only [bs, eq_self, if_true, if_false, reduceIte] at h)) | skip); cbv)))
        | (refine all_beq ?_ ?_ <;> (intro hd; first | exact absurd rfl hd | ((first | rw [if_pos hd] at h | rw [if_neg hd] at h | rw [if_pos (by omega)] at h | rw [if_neg (by omega)] at h | skip); (first | (rw [beq_pos hd] at h; (try simp only [bs, eq_self, if_true, if_false, reduceIte] at h)) | (rw [beq_neg hd] at h; (try simp only [bs, eq_self, if_true, if_false, reduceIte] at h)) | skip); cbv))))
    | ((with_reducible show ∀ _ : Int, _)
       first
        | (refine all_wrap ?_; intro y hy; (try rw [hy] at h); cbv)
        | (refine all_len_old (by assumption) ?_; cbv)
        | (refine all_len ?_; intro y hy; (try replace hy : ((_ : Nat) : Int) = y := hy); (try rw [hy] at h); (try rw [show (NatCast.natCast _ : Int) = _ from hy] at h); cbv))
    | ((with_reducible show ∀ _ : Nat, _)
       first
        | (refine all_ix0 ?_; intro q hq; (try rw [hq] at h); cbv)
        | (refine all_app (by first | assumption | exact (rfl : encL _ ([] : List _) = _)) (by first | assumption | rfl) (by assumption) (by first | assumption | rfl) ?_; intro L hL n_L hnL g hgL; (try rw [hL] at h); (try rw [Option.bind_some] at h); (try rw [hnL] at h); cbv)
        | (intro off' n' ho hn'; obtain rfl : off' = _ := ho; (try replace hn' := cut_len hn' (by assumption)); (try replace hn' := cut_len0 hn'); cbv))
    | (obtain ⟨hc, h'⟩ := if_none h; clear h; have h := h'; clear h')
    | (simp only [Option.some.injEq, Prod.mk.injEq] at h; obtain ⟨rfl, rfl, rfl⟩ := h)
    | ((with_reducible show ∃ _, _)
       refine side (by first | exact enc_same (by assumption) (by assumption) _ | exact take_s1 (by assumption) (by assumption) (by assumption) | exact take_s2 (by assumption) (by assumption) (by assumption) (by assumption) (by assumption) | exact take_s3 (by assumption) (by assumption) (by assumption) | exact take_s4 (by assumption) (by assumption) (by assumption) | (intro k hk; subst_vars; first | eq_refl | exact enc_drop | exact enc_take hk | exact absurd hk (Nat.not_lt_zero k)) | (subst_vars; first | eq_refl | (simp; done) | (simp; omega)) | (have h1 : Int.toNat 1 = 1 := rfl; have h2 := one_le (by assumption) (by assumption); simp only [List.length_append, List.length_nil, List.length_drop, h1] at *; omega) | (simp only [Nat.cast] at *; omega)) ?_; (try cbv)))

def spec_l1Most.f (a0 : Int) (a1 : Int) : Option (Int) := if a0 > a1 then (some a0) else (some a1)

theorem spec_l1Most_ok  (a0 : Int) (a1 : Int) (r0 : Int) (h : spec_l1Most.f a0 a1 = some r0)   : CallOK Try.prog 174 [.val (.int .i64 a0), .val (.int .i64 a1)] [] (.val (.int .i64 r0)) [] := by
  refine CallOK.of_code tabOK Try.func174 rfl rfl ⟨[], []⟩ ?_
  unfold spec_l1Most.f at h
  obtain ⟨P, hP⟩ : ∃ P, Try.prog = P := ⟨_, rfl⟩
  rw [hP]
  skip
  cbv
  repeat' (first
    | ((with_reducible show ∃ _, _)
       first
        | (refine ⟨trivial, ?_⟩; cbv)
        | (refine all_show (by first | omega | decide) ?_; cbv)
        | (refine side (by first | with_reducible eq_refl | assumption | (intro _ _; with_reducible eq_refl) | exact lt_ix (by assumption) (by assumption) (by assumption) | exact lt_ix2 (by assumption) (by assumption) (by assumption) (by assumption) | exact lt_y (by assumption) (by assumption) | exact le_y (by assumption) | exact ge_y (by assumption) | exact cut_le (by assumption) (by assumption) | omega | (dsimp only; omega)) ?_; (try cbv))
        | (refine bind_side (Eq.refl _) ?_; (try cbv))
        | (refine agree_side (Eq.refl _) ?_; (try cbv))
        | (refine agree_weak (Eq.refl _) ?_; (try cbv))
        | (refine ⟨.kept, side (Eq.refl _) (side (by first | trivial | exact ⟨clean_enc (by assumption) (by assumption) (fun _ => rfl), trivial⟩) ?_)⟩; cbv)
        | (refine ⟨.dead, ?_⟩; cbv)
        | (refine ⟨Frz.own, ?_⟩; cbv)
        | (refine ⟨.row, ?_⟩; cbv))
    | ((with_reducible show ∃ _ : Nat → List V, _)
       first
        | (refine all_g0 ?_; cbv))
    | ((with_reducible show ∀ _ : Bool, _)
       first
        | (refine all_lt ?_ ?_ <;> (intro hd; first | exact absurd rfl hd | ((first | rw [if_pos hd] at h | rw [if_neg hd] at h | rw [if_pos (by omega)] at h | rw [if_neg (by omega)] at h | skip); (first | (rw [decide_eq_true hd] at h; (try simp only [bs, eq_self, if_true, if_false, reduceIte] at h)) | (rw [decide_eq_false hd] at h; (try simp only [bs, eq_self, if_true, if_false, reduceIte] at h)) | skip); cbv)))
        | (refine all_le ?_ ?_ <;> (intro hd; first | exact absurd rfl hd | ((first | rw [if_pos hd] at h | rw [if_neg hd] at h | rw [if_pos (by omega)] at h | rw [if_neg (by omega)] at h | skip); (first | (rw [decide_eq_true hd] at h; (try simp only [bs, eq_self, if_true, if_false, reduceIte] at h)) | (rw [decide_eq_false hd] at h; (try simp only [bs, eq_self, if_true, if_false, reduceIte] at h)) | skip); cbv)))
        | (refine all_beq ?_ ?_ <;> (intro hd; first | exact absurd rfl hd | ((first | rw [if_pos hd] at h | rw [if_neg hd] at h | rw [if_pos (by omega)] at h | rw [if_neg (by omega)] at h | skip); (first | (rw [beq_pos hd] at h; (try simp only [bs, eq_self, if_true, if_false, reduceIte] at h)) | (rw [beq_neg hd] at h; (try simp only [bs, eq_self, if_true, if_false, reduceIte] at h)) | skip); cbv)))
        | (refine all_bne ?_ ?_ <;> (intro hd; first | exact absurd rfl hd | ((first | rw [if_pos hd] at h | rw [if_neg hd] at h | rw [if_pos (by omega)] at h | rw [if_neg (by omega)] at h | skip); (first | (rw [bne_pos hd] at h; (try simp only [bs, eq_self, if_true, if_false, reduceIte] at h)) | (rw [bne_neg hd] at h; (try simp only [bs, eq_self, if_true, if_false, reduceIte] at h)) | skip); cbv)))
        | (refine all_cells rfl ?_ ?_ <;> (intro hd; (first | (rw [hd] at h; (try simp only [bs, eq_self, if_true, if_false, reduceIte] at h)) | skip); cbv))
        | (refine all_cellsN rfl ?_ ?_ <;> (intro hd; (first | (rw [hd] at h; (try simp only [bs, eq_self, if_true, if_false, reduceIte] at h)) | skip); cbv))
        | (refine all_not_true ?_; cbv)
        | (refine all_not_false ?_; cbv)
        | (refine all_not ?_ ?_ <;> (intro hd; subst hd; (try simp only [bs, eq_self, if_true, if_false, reduceIte] at h); cbv))
        | (refine all_bool ?_ ?_ <;> (intro hd; (try simp only [hd, bs, eq_self, if_true, if_false, reduceIte] at h); cbv)))
    | ((with_reducible show ∀ _ : Int, _)
       first
        | (refine all_u0 ?_; cbv)
        | (refine all_mn ?_; intro y hy; (try rw [hy] at h); cbv)
        | (refine all_mx ?_; intro y hy; (try rw [hy] at h); cbv)
        | (refine all_neg ?_; intro y hy; (try rw [hy] at h); cbv)
        | (refine all_shr40 ?_; intro y hy; (try rw [hy] at h); cbv)
        | (refine all_and ?_; intro y hy; (try rw [hy] at h); cbv)
        | (refine all_wrap_old (by assumption) ?_; cbv)
        | (refine all_wrap ?_; intro y hy; (try rw [hy] at h); cbv)
        | (refine all_len_old (by assumption) ?_; cbv)
        | (refine all_len ?_; intro y hy; (try replace hy : ((_ : Nat) : Int) = y := hy); (try rw [hy] at h); (try rw [show (NatCast.natCast _ : Int) = _ from hy] at h); cbv)
        | (refine all_old (α := Int) (by assumption) ?_; cbv)
        | (refine all_eq (α := Int) ?_; intro y hy; (try replace hy : ((_ : Nat) : Int) = y := hy); (try rw [hy] at h); cbv))
    | ((with_reducible show ∀ _ : Nat, _)
       first
        | (refine @all_cut0 ?_ ?_ ?_ ?_ _ _ _ ?_ ?_ ?_ ?_ ?_
           rotate_left 4
           assumption
           assumption
           (first | assumption | exact lt_ix (by assumption) (by assumption) (by assumption) | exact lt_ix2 (by assumption) (by assumption) (by assumption) (by assumption) | exact lt_y (by assumption) (by assumption) | exact le_y (by assumption) | exact ge_y (by assumption) | exact cut_le (by assumption) (by assumption) | omega)
           (first | assumption | exact cut_hi (by assumption) | exact cut_hi2 (by assumption) (by assumption) | exact cut_hi3 (by assumption) | exact cut_hi4 (by assumption) (by assumption) | omega)
           intro D hD n_D hnD g hgD; (try rw [hD] at h); (try rw [hnD] at h); cbv)
        | (refine @all_cutD ?_ ?_ ?_ ?_ _ _ _ _ ?_ ?_ ?_ ?_ ?_ ?_
           rotate_left 4
           assumption
           assumption
           (first | assumption | exact lt_ix (by assumption) (by assumption) (by assumption) | exact lt_ix2 (by assumption) (by assumption) (by assumption) (by assumption) | exact lt_y (by assumption) (by assumption) | exact le_y (by assumption) | exact ge_y (by assumption) | exact cut_le (by assumption) (by assumption) | omega)
           (first | assumption | exact lt_ix (by assumption) (by assumption) (by assumption) | exact lt_ix2 (by assumption) (by assumption) (by assumption) (by assumption) | exact lt_y (by assumption) (by assumption) | exact le_y (by assumption) | exact ge_y (by assumption) | exact cut_le (by assumption) (by assumption) | omega)
           assumption
           intro D hD n_D hnD g hgD; (try rw [hD] at h); (try rw [hnD] at h); cbv)
        | (refine @all_cut ?_ ?_ ?_ ?_ _ _ _ _ ?_ ?_ ?_ ?_ ?_ ?_
           rotate_left 4
           assumption
           assumption
           (first | assumption | exact lt_ix (by assumption) (by assumption) (by assumption) | exact lt_ix2 (by assumption) (by assumption) (by assumption) (by assumption) | exact lt_y (by assumption) (by assumption) | exact le_y (by assumption) | exact ge_y (by assumption) | exact cut_le (by assumption) (by assumption) | omega)
           (first | assumption | exact lt_ix (by assumption) (by assumption) (by assumption) | exact lt_ix2 (by assumption) (by assumption) (by assumption) (by assumption) | exact lt_y (by assumption) (by assumption) | exact le_y (by assumption) | exact ge_y (by assumption) | exact cut_le (by assumption) (by assumption) | omega)
           (first | assumption | exact cut_hi (by assumption) | exact cut_hi2 (by assumption) (by assumption) | exact cut_hi3 (by assumption) | exact cut_hi4 (by assumption) (by assumption) | omega)
           intro D hD n_D hnD g hgD; (try rw [hD] at h); (try rw [hnD] at h); cbv)
        | (refine all_ix0_old (by assumption) ?_; cbv)
        | (refine all_ix0 ?_; intro q hq; (try rw [hq] at h); cbv)
        | (refine all_app (by first | assumption | exact (rfl : encL _ ([] : List _) = _)) (by first | assumption | rfl) (by assumption) (by first | assumption | rfl) ?_; intro L hL n_L hnL g hgL; (try rw [hL] at h); (try rw [Option.bind_some] at h); (try rw [hnL] at h); cbv)
        | (refine all_appF (by first | assumption | exact (rfl : encL _ ([] : List _) = _)) (by first | assumption | rfl) (by assumption) (by first | assumption | rfl) ?_; intro L hL n_L hnL g hgL; (try rw [hL] at h); (try rw [Option.bind_some] at h); (try rw [hnL] at h); cbv)
        | (refine all_appD (by first | assumption | exact (rfl : encL _ ([] : List _) = _)) (by first | assumption | rfl) (by assumption) (by first | assumption | (simp only [List.length_drop]; omega)) ?_; intro L hL n_L hnL g hgL; (try rw [hL] at h); (try rw [Option.bind_some] at h); (try rw [hnL] at h); cbv)
        | (intro off' n' ho hn'; obtain rfl : off' = _ := ho; (try replace hn' := cut_len hn' (by assumption)); (try replace hn' := cut_len0 hn'); cbv)
        | (refine all_eq (α := Nat) ?_; intro y hy; (try rw [hy] at h); cbv))
    | (obtain ⟨hc, h'⟩ := if_none h; clear h; have h := h'; clear h'; (try simp only [List.length_nil, Nat.zero_add] at hc))
    | (obtain ⟨hc, h'⟩ := if_none' h; clear h; have h := h'; clear h')
    | (cases h; done)
    | (simp only [Option.bind_some] at h)
    | (simp only [Option.some.injEq, Prod.mk.injEq] at h; subst h)
    | ((with_reducible show ∃ _, _)
       refine side (by first | exact enc_same (by assumption) (by assumption) _ | exact take_s1 (by assumption) (by assumption) (by assumption) | exact take_s2 (by assumption) (by assumption) (by assumption) (by assumption) (by assumption) | exact take_s3 (by assumption) (by assumption) (by assumption) | exact take_s4 (by assumption) (by assumption) (by assumption) | (intro k hk; subst_vars; first | eq_refl | exact enc_drop | exact enc_take hk | exact absurd hk (Nat.not_lt_zero k)) | (subst_vars; first | eq_refl | (simp; done) | (simp; omega)) | (have h1 : Int.toNat 1 = 1 := rfl; have h2 := one_le (by assumption) (by assumption); simp only [List.length_append, List.length_nil, List.length_drop, h1] at *; omega) | (simp only [Nat.cast] at *; omega)) ?_; (try cbv))
    | trivial
    | (exfalso; omega)
    | (simp only [beq_iff_eq] at h; first | rw [if_pos (by assumption)] at h | rw [if_neg (by assumption)] at h))

end Go.Proofs.Ythhoobpmjgpkkaa.E
