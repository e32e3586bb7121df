/- The functions and what they answer, proved over the engine; printed by a program. -/
import Derived.Test.YthhoobpmjgpkkaaQ2
set_option linter.unusedVariables false
set_option linter.unusedSimpArgs false
set_option maxRecDepth 10000
set_option maxHeartbeats 40000000
namespace Go.Proofs.Ythhoobpmjgpkkaa.E
open Go Go.Sim Go.Proofs Go.RowKit Go.Proofs.YthhoobpmjgpkkaaW.PrintWords Go.Proofs.YthhoobpmjgpkkaaW.PrintMore
def spec_DrawAppendCommit.l1 : Nat → List Int → List (S72) → Int → Option (List Int × (List (S72)))
  | 0, _, _, _ => none
  | k + 1, x5, x6, x10 => if (x6.length : Int) < x10 then (if x6.length < 5864062014805 then (spec_DrawAppendCommit.l1 k x5 (x6 ++ [(⟨1, 1, (x6.length : Int)⟩ : S72)]) x10) else (none)) else (some (x5, x6))
def spec_DrawAppendCommit.j1 : Nat → List Int → List (S72) → Int → List Int → Int → Int → Option (List Int × (List (S72)))
  | 0, _, _, _, _, _, _ => none
  | k + 1, x5, x6, x9, x878000, x878001, x878002 => (spec_l1Most.f 0 (wrap64 (39 - x9))).bind fun t909 => ((spec_l1Cur_pick.f x878000 x878001 x878002 2).bind fun bt910 => (spec_DrawAppendCommit.l1 k x5 x6 (wrap64 (t909 + bt910.1))))
def spec_DrawAppendCommit.l0 : Nat → List Int → List (S72) → List (S72) → Int → Int → List Int → Int → Int → Option (List Int × (List (S72)))
  | 0, _, _, _, _, _, _, _, _ => none
  | k + 1, x5, x6, x17, x18, x19, x878000, x878001, x878002 => if x19 < x18 then (if 0 ≤ x19 then (if x19 < (x17.length : Int) then (if ((rd_T72 x17 x19).f0) = 2 then ((spec_l1Cur_one.f x878000 x878001 x878002 12).bind fun bt890 => (if bt890.1 = true then (if x6.length < 5864062014805 then (spec_DrawAppendCommit.l0 k x5 (x6 ++ [(⟨(rd_T72 x17 x19).f0, (rd_T72 x17 x19).f1, (rd_T72 x17 x19).f2⟩ : S72)]) x17 x18 (wrap64 (x19 + 1)) x878000 bt890.2.1 bt890.2.2) else (none)) else (spec_DrawAppendCommit.l0 k x5 x6 x17 x18 (wrap64 (x19 + 1)) x878000 bt890.2.1 bt890.2.2))) else (if x6.length < 5864062014805 then (spec_DrawAppendCommit.l0 k x5 (x6 ++ [(⟨(rd_T72 x17 x19).f0, (rd_T72 x17 x19).f1, (rd_T72 x17 x19).f2⟩ : S72)]) x17 x18 (wrap64 (x19 + 1)) x878000 x878001 x878002) else (none))) else (none)) else (none)) else ((spec_l1Cur_one.f x878000 x878001 x878002 12).bind fun bt899 => (if bt899.1 = true then ((spec_jrList.f k x5).bind fun t902 => (if t902 = true then ((spec_jrRecover.f k x5).bind fun t903 => ((spec_jrCommitted.f k t903).bind fun t906 => (spec_DrawAppendCommit.j1 k x5 ([] : List (S72)) (t906.length : Int) x878000 bt899.2.1 bt899.2.2))) else (spec_DrawAppendCommit.j1 k x5 ([] : List (S72)) 0 x878000 bt899.2.1 bt899.2.2))) else (some (x5, x6))))
def spec_DrawAppendCommit.f (k : Nat) (l0 : List Int) : Option (List Int × (List (S72))) := (spec_l1Cur_numbers.f k l0 0 0).bind fun bt878 => ((spec_l1Cur_journalRecords.f k l0 bt878.2.1 bt878.2.2).bind fun bt883 => (spec_DrawAppendCommit.l0 k bt878.1 ([] : List (S72)) bt883.1 (bt883.1.length : Int) 0 l0 bt883.2.1 bt883.2.2))

theorem spec_DrawAppendCommit_ok (k : Nat) (l0 : List Int) (r0 : List Int) (r1 : (List (S72))) (h : spec_DrawAppendCommit.f k l0 = some (r0, r1)) (n_l0 : Nat) (hn_l0 : l0.length = n_l0) (g_l0 : Nat → List V) (hg_l0 : encL eU l0 = g_l0) (n_r0 : Nat) (hn_r0 : r0.length = n_r0) (g_r0 : Nat → List V) (hg_r0 : encL eI r0 = g_r0) (n_r1 : Nat) (hn_r1 : r1.length = n_r1) (g_r1 : Nat → List V) (hg_r1 : encL e72 r1 = g_r1) : CallOK Try.prog 85 [.fz 1 n_l0 g_l0] [] (.tup [.row 0 0 n_r0, .row 1 0 n_r1]) [.row 3 1 n_r0 g_r0, .row 72 3 n_r1 g_r1] := by
  refine CallOK.of_code tabOK Try.func85 rfl rfl ⟨[(8, [4, 5, 6, 8, 17, 18, 19]), (9, [4, 5, 6, 17, 18, 19]), (10, [4, 5, 6]), (15, [4, 5, 6, 9]), (18, [5, 6])], []⟩ ?_
  unfold spec_DrawAppendCommit.f at h
  obtain ⟨P, hP⟩ : ∃ P, Try.prog = P := ⟨_, rfl⟩
  rw [hP]
  (try rw [hn_l0] at h); skip
  cbv
  repeat' (first
    | ((with_reducible show ∃ _, _)
       first
        | (refine ⟨trivial, ?_⟩; cbv)
        | (refine all_show (by first | omega | decide) ?_; cbv)
        | (refine side (by first | with_reducible eq_refl | assumption | (intro _ _; with_reducible eq_refl) | exact lt_ix (by assumption) (by assumption) (by assumption) | exact lt_ix2 (by assumption) (by assumption) (by assumption) (by assumption) | exact lt_y (by assumption) (by assumption) | exact le_y (by assumption) | exact ge_y (by assumption) | exact cut_le (by assumption) (by assumption) | omega | (dsimp only; omega)) ?_; (try cbv))
        | (refine bind_side (Eq.refl _) ?_; (try cbv))
        | (refine agree_side (Eq.refl _) ?_; (try cbv))
        | (refine agree_weak (Eq.refl _) ?_; (try cbv))
        | (refine ⟨.kept, side (Eq.refl _) (side (by first | trivial | exact ⟨clean_enc (by assumption) (by assumption) (fun _ => rfl), trivial⟩) ?_)⟩; cbv)
        | (refine ⟨.dead, ?_⟩; cbv)
        | (refine ⟨Frz.own, ?_⟩; cbv)
        | (refine ⟨.row, ?_⟩; cbv))
    | ((with_reducible show ∃ _ : Nat, _)
       first
        | (refine ⟨_, [5, 6, 10], Nat.lt_succ_self _, ?_⟩; cbv; exact ⟨_, _, _, _, _, _, _, h, by first | assumption | rfl, by first | assumption | rfl, by first | assumption | rfl, by first | assumption | rfl, rfl⟩)
        | (refine ⟨k1 + 2, [5, 6, 10], (by omega), ?_⟩; cbv; exact ⟨_, _, _, _, _, _, _, h, by first | assumption | rfl, by first | assumption | rfl, by first | assumption | rfl, by first | assumption | rfl, rfl⟩)
        | (refine ⟨k1 + 1, [5, 6, 10], (by omega), ?_⟩; cbv; exact ⟨_, _, _, _, _, _, _, h, by first | assumption | rfl, by first | assumption | rfl, by first | assumption | rfl, by first | assumption | rfl, rfl⟩)
        | (refine ⟨k1, [5, 6, 10], (by omega), ?_⟩; cbv; exact ⟨_, _, _, _, _, _, _, h, by first | assumption | rfl, by first | assumption | rfl, by first | assumption | rfl, by first | assumption | rfl, rfl⟩)
        | (refine ⟨_, [4, 5, 6, 17, 18, 19], Nat.lt_succ_self _, ?_⟩; cbv; exact ⟨_, _, _, _, _, _, _, _, _, _, _, _, _, _, _, _, h, by first | assumption | rfl, by first | assumption | rfl, by first | assumption | rfl, by first | assumption | rfl, by first | assumption | rfl, by first | assumption | rfl, by first | assumption | rfl, by first | assumption | rfl, rfl⟩)
        | (refine ⟨k1 + 2, [4, 5, 6, 17, 18, 19], (by omega), ?_⟩; cbv; exact ⟨_, _, _, _, _, _, _, _, _, _, _, _, _, _, _, _, h, by first | assumption | rfl, by first | assumption | rfl, by first | assumption | rfl, by first | assumption | rfl, by first | assumption | rfl, by first | assumption | rfl, by first | assumption | rfl, by first | assumption | rfl, rfl⟩)
        | (refine ⟨k1 + 1, [4, 5, 6, 17, 18, 19], (by omega), ?_⟩; cbv; exact ⟨_, _, _, _, _, _, _, _, _, _, _, _, _, _, _, _, h, by first | assumption | rfl, by first | assumption | rfl, by first | assumption | rfl, by first | assumption | rfl, by first | assumption | rfl, by first | assumption | rfl, by first | assumption | rfl, by first | assumption | rfl, rfl⟩)
        | (refine ⟨k1, [4, 5, 6, 17, 18, 19], (by omega), ?_⟩; cbv; exact ⟨_, _, _, _, _, _, _, _, _, _, _, _, _, _, _, _, h, by first | assumption | rfl, by first | assumption | rfl, by first | assumption | rfl, by first | assumption | rfl, by first | assumption | rfl, by first | assumption | rfl, by first | assumption | rfl, by first | assumption | rfl, rfl⟩))
    | ((with_reducible show ∃ _ : List Nat, _)
       first
        | ((with_reducible (have h0 : Option.bind (spec_l1Cur_one.f _ _ _ _) _ = some _ := h; clear h0))
           refine ⟨[0], ?_⟩; cbv
           repeat (first | (refine all_show (by first | omega | decide) ?_; cbv) | (refine all_showT (by assumption) (by assumption) (by assumption) (by first | assumption | exact lt_ix (by assumption) (by assumption) (by assumption) | exact lt_ix2 (by assumption) (by assumption) (by assumption) (by assumption) | exact lt_y (by assumption) (by assumption) | exact le_y (by assumption) | exact ge_y (by assumption) | exact cut_le (by assumption) (by assumption) | omega) (by first | assumption | exact cut_hi (by assumption) | exact cut_hi2 (by assumption) (by assumption) | exact cut_hi3 (by assumption) | exact cut_hi4 (by assumption) (by assumption) | omega) ?_; intro D hD hnD g hgD; (try rw [hD] at h); cbv))
           obtain ⟨⟨t0, t1, t2⟩, ht, h'⟩ := bind_some h
           clear h; have h := h'; clear h'; (try dsimp only at h)
           refine ⟨_, _, (hP ▸ spec_l1Cur_one_ok _ _ _ _ _ _ _ ht _ (by first | assumption | rfl) _ (by assumption)  : CallOK P 121 _ _ _ _), ?_⟩
           rcases t0 with _ | _ <;> (try simp only [bs, eq_self, if_true, if_false, reduceIte] at h) <;> (try (cases h; done)) <;> cbv)
        | ((with_reducible (have h0 : Option.bind (spec_l1Cur_one.f _ _ _ _) _ = some _ := h; clear h0))
           refine ⟨[1], ?_⟩; cbv
           repeat (first | (refine all_show (by first | omega | decide) ?_; cbv) | (refine all_showT (by assumption) (by assumption) (by assumption) (by first | assumption | exact lt_ix (by assumption) (by assumption) (by assumption) | exact lt_ix2 (by assumption) (by assumption) (by assumption) (by assumption) | exact lt_y (by assumption) (by assumption) | exact le_y (by assumption) | exact ge_y (by assumption) | exact cut_le (by assumption) (by assumption) | omega) (by first | assumption | exact cut_hi (by assumption) | exact cut_hi2 (by assumption) (by assumption) | exact cut_hi3 (by assumption) | exact cut_hi4 (by assumption) (by assumption) | omega) ?_; intro D hD hnD g hgD; (try rw [hD] at h); cbv))
           obtain ⟨⟨t0, t1, t2⟩, ht, h'⟩ := bind_some h
           clear h; have h := h'; clear h'; (try dsimp only at h)
           refine ⟨_, _, (hP ▸ spec_l1Cur_one_ok _ _ _ _ _ _ _ ht _ (by first | assumption | rfl) _ (by assumption)  : CallOK P 121 _ _ _ _), ?_⟩
           rcases t0 with _ | _ <;> (try simp only [bs, eq_self, if_true, if_false, reduceIte] at h) <;> (try (cases h; done)) <;> cbv)
        | ((with_reducible (have h0 : Option.bind (spec_l1Cur_one.f _ _ _ _) _ = some _ := h; clear h0))
           refine ⟨[2], ?_⟩; cbv
           repeat (first | (refine all_show (by first | omega | decide) ?_; cbv) | (refine all_showT (by assumption) (by assumption) (by assumption) (by first | assumption | exact lt_ix (by assumption) (by assumption) (by assumption) | exact lt_ix2 (by assumption) (by assumption) (by assumption) (by assumption) | exact lt_y (by assumption) (by assumption) | exact le_y (by assumption) | exact ge_y (by assumption) | exact cut_le (by assumption) (by assumption) | omega) (by first | assumption | exact cut_hi (by assumption) | exact cut_hi2 (by assumption) (by assumption) | exact cut_hi3 (by assumption) | exact cut_hi4 (by assumption) (by assumption) | omega) ?_; intro D hD hnD g hgD; (try rw [hD] at h); cbv))
           obtain ⟨⟨t0, t1, t2⟩, ht, h'⟩ := bind_some h
           clear h; have h := h'; clear h'; (try dsimp only at h)
           refine ⟨_, _, (hP ▸ spec_l1Cur_one_ok _ _ _ _ _ _ _ ht _ (by first | assumption | rfl) _ (by assumption)  : CallOK P 121 _ _ _ _), ?_⟩
           rcases t0 with _ | _ <;> (try simp only [bs, eq_self, if_true, if_false, reduceIte] at h) <;> (try (cases h; done)) <;> cbv)
        | ((with_reducible (have h0 : Option.bind (spec_l1Cur_pick.f _ _ _ _) _ = some _ := h; clear h0))
           refine ⟨[0], ?_⟩; cbv
           repeat (first | (refine all_show (by first | omega | decide) ?_; cbv) | (refine all_showT (by assumption) (by assumption) (by assumption) (by first | assumption | exact lt_ix (by assumption) (by assumption) (by assumption) | exact lt_ix2 (by assumption) (by assumption) (by assumption) (by assumption) | exact lt_y (by assumption) (by assumption) | exact le_y (by assumption) | exact ge_y (by assumption) | exact cut_le (by assumption) (by assumption) | omega) (by first | assumption | exact cut_hi (by assumption) | exact cut_hi2 (by assumption) (by assumption) | exact cut_hi3 (by assumption) | exact cut_hi4 (by assumption) (by assumption) | omega) ?_; intro D hD hnD g hgD; (try rw [hD] at h); cbv))
           obtain ⟨⟨t0, t1, t2⟩, ht, h'⟩ := bind_some h
           clear h; have h := h'; clear h'; (try dsimp only at h)
           refine ⟨_, _, (hP ▸ spec_l1Cur_pick_ok _ _ _ _ _ _ _ ht _ (by first | assumption | rfl) _ (by assumption)  : CallOK P 122 _ _ _ _), ?_⟩; cbv)
        | ((with_reducible (have h0 : Option.bind (spec_l1Cur_pick.f _ _ _ _) _ = some _ := h; clear h0))
           refine ⟨[1], ?_⟩; cbv
           repeat (first | (refine all_show (by first | omega | decide) ?_; cbv) | (refine all_showT (by assumption) (by assumption) (by assumption) (by first | assumption | exact lt_ix (by assumption) (by assumption) (by assumption) | exact lt_ix2 (by assumption) (by assumption) (by assumption) (by assumption) | exact lt_y (by assumption) (by assumption) | exact le_y (by assumption) | exact ge_y (by assumption) | exact cut_le (by assumption) (by assumption) | omega) (by first | assumption | exact cut_hi (by assumption) | exact cut_hi2 (by assumption) (by assumption) | exact cut_hi3 (by assumption) | exact cut_hi4 (by assumption) (by assumption) | omega) ?_; intro D hD hnD g hgD; (try rw [hD] at h); cbv))
           obtain ⟨⟨t0, t1, t2⟩, ht, h'⟩ := bind_some h
           clear h; have h := h'; clear h'; (try dsimp only at h)
           refine ⟨_, _, (hP ▸ spec_l1Cur_pick_ok _ _ _ _ _ _ _ ht _ (by first | assumption | rfl) _ (by assumption)  : CallOK P 122 _ _ _ _), ?_⟩; cbv)
        | ((with_reducible (have h0 : Option.bind (spec_l1Cur_pick.f _ _ _ _) _ = some _ := h; clear h0))
           refine ⟨[2], ?_⟩; cbv
           repeat (first | (refine all_show (by first | omega | decide) ?_; cbv) | (refine all_showT (by assumption) (by assumption) (by assumption) (by first | assumption | exact lt_ix (by assumption) (by assumption) (by assumption) | exact lt_ix2 (by assumption) (by assumption) (by assumption) (by assumption) | exact lt_y (by assumption) (by assumption) | exact le_y (by assumption) | exact ge_y (by assumption) | exact cut_le (by assumption) (by assumption) | omega) (by first | assumption | exact cut_hi (by assumption) | exact cut_hi2 (by assumption) (by assumption) | exact cut_hi3 (by assumption) | exact cut_hi4 (by assumption) (by assumption) | omega) ?_; intro D hD hnD g hgD; (try rw [hD] at h); cbv))
           obtain ⟨⟨t0, t1, t2⟩, ht, h'⟩ := bind_some h
           clear h; have h := h'; clear h'; (try dsimp only at h)
           refine ⟨_, _, (hP ▸ spec_l1Cur_pick_ok _ _ _ _ _ _ _ ht _ (by first | assumption | rfl) _ (by assumption)  : CallOK P 122 _ _ _ _), ?_⟩; cbv)
        | ((with_reducible (have h0 : Option.bind (spec_l1Cur_numbers.f _ _ _ _) _ = some _ := h; clear h0))
           refine ⟨[0], ?_⟩; cbv
           repeat (first | (refine all_show (by first | omega | decide) ?_; cbv) | (refine all_showT (by assumption) (by assumption) (by assumption) (by first | assumption | exact lt_ix (by assumption) (by assumption) (by assumption) | exact lt_ix2 (by assumption) (by assumption) (by assumption) (by assumption) | exact lt_y (by assumption) (by assumption) | exact le_y (by assumption) | exact ge_y (by assumption) | exact cut_le (by assumption) (by assumption) | omega) (by first | assumption | exact cut_hi (by assumption) | exact cut_hi2 (by assumption) (by assumption) | exact cut_hi3 (by assumption) | exact cut_hi4 (by assumption) (by assumption) | omega) ?_; intro D hD hnD g hgD; (try rw [hD] at h); cbv))
           obtain ⟨⟨t0, t1, t2⟩, ht, h'⟩ := bind_some h
           clear h; have h := h'; clear h'; (try dsimp only at h)
           obtain ⟨n_c147_0, hn_c147_0⟩ : ∃ n, t0.length = n := ⟨_, rfl⟩; obtain ⟨g_t, hg_c147_0⟩ : ∃ g, encL eI t0 = g := ⟨_, rfl⟩; (try rw [hn_c147_0] at h)
           refine ⟨_, _, (hP ▸ spec_l1Cur_numbers_ok _ _ _ _ _ _ _ ht _ (by first | assumption | rfl) _ (by assumption) _ hn_c147_0 _ hg_c147_0 : CallOK P 147 _ _ _ _), ?_⟩; cbv)
        | ((with_reducible (have h0 : Option.bind (spec_l1Cur_numbers.f _ _ _ _) _ = some _ := h; clear h0))
           refine ⟨[1], ?_⟩; cbv
           repeat (first | (refine all_show (by first | omega | decide) ?_; cbv) | (refine all_showT (by assumption) (by assumption) (by assumption) (by first | assumption | exact lt_ix (by assumption) (by assumption) (by assumption) | exact lt_ix2 (by assumption) (by assumption) (by assumption) (by assumption) | exact lt_y (by assumption) (by assumption) | exact le_y (by assumption) | exact ge_y (by assumption) | exact cut_le (by assumption) (by assumption) | omega) (by first | assumption | exact cut_hi (by assumption) | exact cut_hi2 (by assumption) (by assumption) | exact cut_hi3 (by assumption) | exact cut_hi4 (by assumption) (by assumption) | omega) ?_; intro D hD hnD g hgD; (try rw [hD] at h); cbv))
           obtain ⟨⟨t0, t1, t2⟩, ht, h'⟩ := bind_some h
           clear h; have h := h'; clear h'; (try dsimp only at h)
           obtain ⟨n_c147_0, hn_c147_0⟩ : ∃ n, t0.length = n := ⟨_, rfl⟩; obtain ⟨g_t, hg_c147_0⟩ : ∃ g, encL eI t0 = g := ⟨_, rfl⟩; (try rw [hn_c147_0] at h)
           refine ⟨_, _, (hP ▸ spec_l1Cur_numbers_ok _ _ _ _ _ _ _ ht _ (by first | assumption | rfl) _ (by assumption) _ hn_c147_0 _ hg_c147_0 : CallOK P 147 _ _ _ _), ?_⟩; cbv)
        | ((with_reducible (have h0 : Option.bind (spec_l1Cur_numbers.f _ _ _ _) _ = some _ := h; clear h0))
           refine ⟨[2], ?_⟩; cbv
           repeat (first | (refine all_show (by first | omega | decide) ?_; cbv) | (refine all_showT (by assumption) (by assumption) (by assumption) (by first | assumption | exact lt_ix (by assumption) (by assumption) (by assumption) | exact lt_ix2 (by assumption) (by assumption) (by assumption) (by assumption) | exact lt_y (by assumption) (by assumption) | exact le_y (by assumption) | exact ge_y (by assumption) | exact cut_le (by assumption) (by assumption) | omega) (by first | assumption | exact cut_hi (by assumption) | exact cut_hi2 (by assumption) (by assumption) | exact cut_hi3 (by assumption) | exact cut_hi4 (by assumption) (by assumption) | omega) ?_; intro D hD hnD g hgD; (try rw [hD] at h); cbv))
           obtain ⟨⟨t0, t1, t2⟩, ht, h'⟩ := bind_some h
           clear h; have h := h'; clear h'; (try dsimp only at h)
           obtain ⟨n_c147_0, hn_c147_0⟩ : ∃ n, t0.length = n := ⟨_, rfl⟩; obtain ⟨g_t, hg_c147_0⟩ : ∃ g, encL eI t0 = g := ⟨_, rfl⟩; (try rw [hn_c147_0] at h)
           refine ⟨_, _, (hP ▸ spec_l1Cur_numbers_ok _ _ _ _ _ _ _ ht _ (by first | assumption | rfl) _ (by assumption) _ hn_c147_0 _ hg_c147_0 : CallOK P 147 _ _ _ _), ?_⟩; cbv)
        | ((with_reducible (have h0 : Option.bind (spec_jrList.f _ _) _ = some _ := h; clear h0))
           refine ⟨[], ?_⟩; cbv
           repeat (first | (refine all_show (by first | omega | decide) ?_; cbv) | (refine all_showT (by assumption) (by assumption) (by assumption) (by first | assumption | exact lt_ix (by assumption) (by assumption) (by assumption) | exact lt_ix2 (by assumption) (by assumption) (by assumption) (by assumption) | exact lt_y (by assumption) (by assumption) | exact le_y (by assumption) | exact ge_y (by assumption) | exact cut_le (by assumption) (by assumption) | omega) (by first | assumption | exact cut_hi (by assumption) | exact cut_hi2 (by assumption) (by assumption) | exact cut_hi3 (by assumption) | exact cut_hi4 (by assumption) (by assumption) | omega) ?_; intro D hD hnD g hgD; (try rw [hD] at h); cbv))
           obtain ⟨t, ht, h'⟩ := bind_some h
           clear h; have h := h'; clear h'; (try dsimp only at h)
           refine ⟨_, _, (hP ▸ spec_jrList_ok _ _ _ ht _ (by first | assumption | rfl) _ (by assumption)  : CallOK P 150 _ _ _ _), ?_⟩
           rcases t with _ | _ <;> (try simp only [bs, eq_self, if_true, if_false, reduceIte] at h) <;> (try (cases h; done)) <;> cbv)
        | ((with_reducible (have h0 : Option.bind (spec_jrRecover.f _ _) _ = some _ := h; clear h0))
           refine ⟨[], ?_⟩; cbv
           repeat (first | (refine all_show (by first | omega | decide) ?_; cbv) | (refine all_showT (by assumption) (by assumption) (by assumption) (by first | assumption | exact lt_ix (by assumption) (by assumption) (by assumption) | exact lt_ix2 (by assumption) (by assumption) (by assumption) (by assumption) | exact lt_y (by assumption) (by assumption) | exact le_y (by assumption) | exact ge_y (by assumption) | exact cut_le (by assumption) (by assumption) | omega) (by first | assumption | exact cut_hi (by assumption) | exact cut_hi2 (by assumption) (by assumption) | exact cut_hi3 (by assumption) | exact cut_hi4 (by assumption) (by assumption) | omega) ?_; intro D hD hnD g hgD; (try rw [hD] at h); cbv))
           obtain ⟨t, ht, h'⟩ := bind_some h
           clear h; have h := h'; clear h'; (try dsimp only at h)
           obtain ⟨n_c154_0, hn_c154_0⟩ : ∃ n, t.length = n := ⟨_, rfl⟩; obtain ⟨g_t, hg_c154_0⟩ : ∃ g, encL e72 t = g := ⟨_, rfl⟩; (try rw [hn_c154_0] at h)
           refine ⟨_, _, (hP ▸ spec_jrRecover_ok _ _ _ ht _ (by first | assumption | rfl) _ (by assumption) _ hn_c154_0 _ hg_c154_0 : CallOK P 154 _ _ _ _), ?_⟩; cbv)
        | ((with_reducible (have h0 : Option.bind (spec_l1Cur_journalRecords.f _ _ _ _) _ = some _ := h; clear h0))
           refine ⟨[0], ?_⟩; cbv
           repeat (first | (refine all_show (by first | omega | decide) ?_; cbv) | (refine all_showT (by assumption) (by assumption) (by assumption) (by first | assumption | exact lt_ix (by assumption) (by assumption) (by assumption) | exact lt_ix2 (by assumption) (by assumption) (by assumption) (by assumption) | exact lt_y (by assumption) (by assumption) | exact le_y (by assumption) | exact ge_y (by assumption) | exact cut_le (by assumption) (by assumption) | omega) (by first | assumption | exact cut_hi (by assumption) | exact cut_hi2 (by assumption) (by assumption) | exact cut_hi3 (by assumption) | exact cut_hi4 (by assumption) (by assumption) | omega) ?_; intro D hD hnD g hgD; (try rw [hD] at h); cbv))
           obtain ⟨⟨t0, t1, t2⟩, ht, h'⟩ := bind_some h
           clear h; have h := h'; clear h'; (try dsimp only at h)
           obtain ⟨n_c156_0, hn_c156_0⟩ : ∃ n, t0.length = n := ⟨_, rfl⟩; obtain ⟨g_t, hg_c156_0⟩ : ∃ g, encL e72 t0 = g := ⟨_, rfl⟩; (try rw [hn_c156_0] at h)
           refine ⟨_, _, (hP ▸ spec_l1Cur_journalRecords_ok _ _ _ _ _ _ _ ht _ (by first | assumption | rfl) _ (by assumption) _ hn_c156_0 _ hg_c156_0 : CallOK P 156 _ _ _ _), ?_⟩; cbv)
        | ((with_reducible (have h0 : Option.bind (spec_l1Cur_journalRecords.f _ _ _ _) _ = some _ := h; clear h0))
           refine ⟨[1], ?_⟩; cbv
           repeat (first | (refine all_show (by first | omega | decide) ?_; cbv) | (refine all_showT (by assumption) (by assumption) (by assumption) (by first | assumption | exact lt_ix (by assumption) (by assumption) (by assumption) | exact lt_ix2 (by assumption) (by assumption) (by assumption) (by assumption) | exact lt_y (by assumption) (by assumption) | exact le_y (by assumption) | exact ge_y (by assumption) | exact cut_le (by assumption) (by assumption) | omega) (by first | assumption | exact cut_hi (by assumption) | exact cut_hi2 (by assumption) (by assumption) | exact cut_hi3 (by assumption) | exact cut_hi4 (by assumption) (by assumption) | omega) ?_; intro D hD hnD g hgD; (try rw [hD] at h); cbv))
           obtain ⟨⟨t0, t1, t2⟩, ht, h'⟩ := bind_some h
           clear h; have h := h'; clear h'; (try dsimp only at h)
           obtain ⟨n_c156_0, hn_c156_0⟩ : ∃ n, t0.length = n := ⟨_, rfl⟩; obtain ⟨g_t, hg_c156_0⟩ : ∃ g, encL e72 t0 = g := ⟨_, rfl⟩; (try rw [hn_c156_0] at h)
           refine ⟨_, _, (hP ▸ spec_l1Cur_journalRecords_ok _ _ _ _ _ _ _ ht _ (by first | assumption | rfl) _ (by assumption) _ hn_c156_0 _ hg_c156_0 : CallOK P 156 _ _ _ _), ?_⟩; cbv)
        | ((with_reducible (have h0 : Option.bind (spec_l1Cur_journalRecords.f _ _ _ _) _ = some _ := h; clear h0))
           refine ⟨[2], ?_⟩; cbv
           repeat (first | (refine all_show (by first | omega | decide) ?_; cbv) | (refine all_showT (by assumption) (by assumption) (by assumption) (by first | assumption | exact lt_ix (by assumption) (by assumption) (by assumption) | exact lt_ix2 (by assumption) (by assumption) (by assumption) (by assumption) | exact lt_y (by assumption) (by assumption) | exact le_y (by assumption) | exact ge_y (by assumption) | exact cut_le (by assumption) (by assumption) | omega) (by first | assumption | exact cut_hi (by assumption) | exact cut_hi2 (by assumption) (by assumption) | exact cut_hi3 (by assumption) | exact cut_hi4 (by assumption) (by assumption) | omega) ?_; intro D hD hnD g hgD; (try rw [hD] at h); cbv))
           obtain ⟨⟨t0, t1, t2⟩, ht, h'⟩ := bind_some h
           clear h; have h := h'; clear h'; (try dsimp only at h)
           obtain ⟨n_c156_0, hn_c156_0⟩ : ∃ n, t0.length = n := ⟨_, rfl⟩; obtain ⟨g_t, hg_c156_0⟩ : ∃ g, encL e72 t0 = g := ⟨_, rfl⟩; (try rw [hn_c156_0] at h)
           refine ⟨_, _, (hP ▸ spec_l1Cur_journalRecords_ok _ _ _ _ _ _ _ ht _ (by first | assumption | rfl) _ (by assumption) _ hn_c156_0 _ hg_c156_0 : CallOK P 156 _ _ _ _), ?_⟩; cbv)
        | ((with_reducible (have h0 : Option.bind (spec_l1Most.f _ _) _ = some _ := h; clear h0))
           refine ⟨[], ?_⟩; cbv
           repeat (first | (refine all_show (by first | omega | decide) ?_; cbv) | (refine all_showT (by assumption) (by assumption) (by assumption) (by first | assumption | exact lt_ix (by assumption) (by assumption) (by assumption) | exact lt_ix2 (by assumption) (by assumption) (by assumption) (by assumption) | exact lt_y (by assumption) (by assumption) | exact le_y (by assumption) | exact ge_y (by assumption) | exact cut_le (by assumption) (by assumption) | omega) (by first | assumption | exact cut_hi (by assumption) | exact cut_hi2 (by assumption) (by assumption) | exact cut_hi3 (by assumption) | exact cut_hi4 (by assumption) (by assumption) | omega) ?_; intro D hD hnD g hgD; (try rw [hD] at h); cbv))
           obtain ⟨t, ht, h'⟩ := bind_some h
           clear h; have h := h'; clear h'; (try dsimp only at h)
           refine ⟨_, _, (hP ▸ spec_l1Most_ok _ _ _ ht   : CallOK P 174 _ _ _ _), ?_⟩; cbv)
        | ((with_reducible (have h0 : Option.bind (spec_jrCommitted.f _ _) _ = some _ := h; clear h0))
           refine ⟨[], ?_⟩; cbv
           repeat (first | (refine all_show (by first | omega | decide) ?_; cbv) | (refine all_showT (by assumption) (by assumption) (by assumption) (by first | assumption | exact lt_ix (by assumption) (by assumption) (by assumption) | exact lt_ix2 (by assumption) (by assumption) (by assumption) (by assumption) | exact lt_y (by assumption) (by assumption) | exact le_y (by assumption) | exact ge_y (by assumption) | exact cut_le (by assumption) (by assumption) | omega) (by first | assumption | exact cut_hi (by assumption) | exact cut_hi2 (by assumption) (by assumption) | exact cut_hi3 (by assumption) | exact cut_hi4 (by assumption) (by assumption) | omega) ?_; intro D hD hnD g hgD; (try rw [hD] at h); cbv))
           obtain ⟨t, ht, h'⟩ := bind_some h
           clear h; have h := h'; clear h'; (try dsimp only at h)
           obtain ⟨n_c180_0, hn_c180_0⟩ : ∃ n, t.length = n := ⟨_, rfl⟩; obtain ⟨g_t, hg_c180_0⟩ : ∃ g, encL e72 t = g := ⟨_, rfl⟩; (try rw [hn_c180_0] at h)
           refine ⟨_, _, (hP ▸ spec_jrCommitted_ok _ _ _ ht _ (by first | assumption | rfl) _ (by assumption) _ hn_c180_0 _ hg_c180_0 : CallOK P 180 _ _ _ _), ?_⟩; cbv))
    | ((with_reducible show ∃ _ : Nat → List V, _)
       first
        | (refine all_g0 ?_; cbv)
        | (refine all_putS eI (by assumption) (by assumption) (by (first | assumption | exact lt_ix (by assumption) (by assumption) (by assumption) | exact lt_ix2 (by assumption) (by assumption) (by assumption) (by assumption) | exact lt_y (by assumption) (by assumption) | exact le_y (by assumption) | exact ge_y (by assumption) | exact cut_le (by assumption) (by assumption) | omega)) rfl (fun _ => rfl) ?_; intro L hL hnL g hgL; (try rw [hL] at h); (try rw [Option.bind_some] at h); (try rw [hnL] at h); cbv)
        | (refine all_putS eU (by assumption) (by assumption) (by (first | assumption | exact lt_ix (by assumption) (by assumption) (by assumption) | exact lt_ix2 (by assumption) (by assumption) (by assumption) (by assumption) | exact lt_y (by assumption) (by assumption) | exact le_y (by assumption) | exact ge_y (by assumption) | exact cut_le (by assumption) (by assumption) | omega)) rfl (fun _ => rfl) ?_; intro L hL hnL g hgL; (try rw [hL] at h); (try rw [Option.bind_some] at h); (try rw [hnL] at h); cbv)
        | (refine all_putS e72 (x := ⟨_, _, _⟩) (by assumption) (by assumption) (by (first | assumption | exact lt_ix (by assumption) (by assumption) (by assumption) | exact lt_ix2 (by assumption) (by assumption) (by assumption) (by assumption) | exact lt_y (by assumption) (by assumption) | exact le_y (by assumption) | exact ge_y (by assumption) | exact cut_le (by assumption) (by assumption) | omega)) rfl (fun _ => rfl) ?_; intro L hL hnL g hgL; (try rw [hL] at h); (try rw [Option.bind_some] at h); (try rw [hnL] at h); cbv)
        | (refine all_build1 e72 (x := ⟨_, _, _⟩) rfl ?_; intro g_b hg_b; cbv))
    | ((with_reducible show ∃ _ : Nat → St → Prop, _)
       first
        | (refine ⟨fun k1 s => ∃ x5 x6 x17 x18 x19 x878000 x878001 x878002 n_x5 g_x5 n_x6 g_x6 n_x17 g_x17 n_x878000 g_x878000, spec_DrawAppendCommit.l0 k1 x5 x6 x17 x18 x19 x878000 x878001 x878002 = some (r0, r1) ∧ x5.length = n_x5 ∧ encL eI x5 = g_x5 ∧ x6.length = n_x6 ∧ encL e72 x6 = g_x6 ∧ x17.length = n_x17 ∧ encL e72 x17 = g_x17 ∧ x878000.length = n_x878000 ∧ encL eU x878000 = g_x878000 ∧ s = ⟨⟨61, (upd 61 (upd 61 (upd 61 (upd 61 (upd 61 (upd 61 noT 19 (.val (.int .i64 x19))) 18 (.val (.int .i64 x18))) 17 (.row 3 0 n_x17)) 6 (.row 2 0 n_x6)) 5 (.row 1 0 n_x5)) 4 (.ptr 0 0))⟩, [.box 139 [.fz 1 n_x878000 g_x878000, .val (.int .i64 x878001), .val (.int .u64 x878002)], .row 3 1 n_x5 g_x5, .row 72 3 n_x6 g_x6, .row 72 3 n_x17 g_x17]⟩, ?_, [], ?_⟩
           rotate_left
           · cbv; exact ⟨_, [4, 5, 6, 17, 18, 19], by cbv; exact ⟨_, _, _, _, _, _, _, _, _, _, _, _, _, _, _, _, h, by first | assumption | rfl, by first | assumption | rfl, by first | assumption | rfl, by first | assumption | rfl, by first | assumption | rfl, by first | assumption | rfl, by first | assumption | rfl, by first | assumption | rfl, rfl⟩⟩
           clear h
           rintro (_ | k1) s1 ⟨x5, x6, x17, x18, x19, x878000, x878001, x878002, n_x5, g_x5, n_x6, g_x6, n_x17, g_x17, n_x878000, g_x878000, h, hn_x5, hg_x5, hn_x6, hg_x6, hn_x17, hg_x17, hn_x878000, hg_x878000, rfl⟩
           · cases h
           unfold spec_DrawAppendCommit.l0 at h
           (try rw [hn_x5] at h); (try rw [hn_x6] at h); (try rw [hn_x17] at h); (try rw [hn_x878000] at h); skip
           cbv)
        | (refine ⟨fun k1 s => ∃ x5 x6 x10 n_x5 g_x5 n_x6 g_x6, spec_DrawAppendCommit.l1 k1 x5 x6 x10 = some (r0, r1) ∧ x5.length = n_x5 ∧ encL eI x5 = g_x5 ∧ x6.length = n_x6 ∧ encL e72 x6 = g_x6 ∧ s = ⟨⟨61, (upd 61 (upd 61 (upd 61 noT 10 (.val (.int .i64 x10))) 6 (.row 1 0 n_x6)) 5 (.row 0 0 n_x5))⟩, [.row 3 1 n_x5 g_x5, .row 72 3 n_x6 g_x6]⟩, ?_, [], ?_⟩
           rotate_left
           · cbv; exact ⟨_, [5, 6, 10], by cbv; exact ⟨_, _, _, _, _, _, _, h, by first | assumption | rfl, by first | assumption | rfl, by first | assumption | rfl, by first | assumption | rfl, rfl⟩⟩
           clear h
           rintro (_ | k1) s1 ⟨x5, x6, x10, n_x5, g_x5, n_x6, g_x6, h, hn_x5, hg_x5, hn_x6, hg_x6, rfl⟩
           · cases h
           unfold spec_DrawAppendCommit.l1 at h
           (try rw [hn_x5] at h); (try rw [hn_x6] at h); skip
           cbv))
    | ((with_reducible (have h0 : spec_DrawAppendCommit.j1 _ _ _ _ _ _ _ = some _ := h; clear h0))
       first
        | (unfold spec_DrawAppendCommit.j1 at h
           rcases k1 with _ | k1
           · cases h
           (try dsimp only at h); (try simp only [bs, eq_self, if_true, if_false, reduceIte] at h); (try rw [hn_l0] at h); (try rw [show (Nat.cast n_l0 : Int) = _ from (by assumption)] at h); (try rw [show (NatCast.natCast n_l0 : Int) = _ from (by assumption)] at h); (try (simp only [Nat.cast] at h; rw [show (NatCast.natCast n_l0 : Int) = _ from (by assumption)] at h)); (try rw [hn_c147_0] at h); (try rw [show (Nat.cast n_c147_0 : Int) = _ from (by assumption)] at h); (try rw [show (NatCast.natCast n_c147_0 : Int) = _ from (by assumption)] at h); (try (simp only [Nat.cast] at h; rw [show (NatCast.natCast n_c147_0 : Int) = _ from (by assumption)] at h)); (try rw [hn_c154_0] at h); (try rw [show (Nat.cast n_c154_0 : Int) = _ from (by assumption)] at h); (try rw [show (NatCast.natCast n_c154_0 : Int) = _ from (by assumption)] at h); (try (simp only [Nat.cast] at h; rw [show (NatCast.natCast n_c154_0 : Int) = _ from (by assumption)] at h)); (try rw [hn_c156_0] at h); (try rw [show (Nat.cast n_c156_0 : Int) = _ from (by assumption)] at h); (try rw [show (NatCast.natCast n_c156_0 : Int) = _ from (by assumption)] at h); (try (simp only [Nat.cast] at h; rw [show (NatCast.natCast n_c156_0 : Int) = _ from (by assumption)] at h)); (try rw [hn_c180_0] at h); (try rw [show (Nat.cast n_c180_0 : Int) = _ from (by assumption)] at h); (try rw [show (NatCast.natCast n_c180_0 : Int) = _ from (by assumption)] at h); (try (simp only [Nat.cast] at h; rw [show (NatCast.natCast n_c180_0 : Int) = _ from (by assumption)] at h)); (try rw [hn_x5] at h); (try rw [show (Nat.cast n_x5 : Int) = _ from (by assumption)] at h); (try rw [show (NatCast.natCast n_x5 : Int) = _ from (by assumption)] at h); (try (simp only [Nat.cast] at h; rw [show (NatCast.natCast n_x5 : Int) = _ from (by assumption)] at h)); (try rw [hn_x6] at h); (try rw [show (Nat.cast n_x6 : Int) = _ from (by assumption)] at h); (try rw [show (NatCast.natCast n_x6 : Int) = _ from (by assumption)] at h); (try (simp only [Nat.cast] at h; rw [show (NatCast.natCast n_x6 : Int) = _ from (by assumption)] at h)); (try rw [hn_x17] at h); (try rw [show (Nat.cast n_x17 : Int) = _ from (by assumption)] at h); (try rw [show (NatCast.natCast n_x17 : Int) = _ from (by assumption)] at h); (try (simp only [Nat.cast] at h; rw [show (NatCast.natCast n_x17 : Int) = _ from (by assumption)] at h)); (try rw [hn_x878000] at h); (try rw [show (Nat.cast n_x878000 : Int) = _ from (by assumption)] at h); (try rw [show (NatCast.natCast n_x878000 : Int) = _ from (by assumption)] at h); (try (simp only [Nat.cast] at h; rw [show (NatCast.natCast n_x878000 : Int) = _ from (by assumption)] at h)))
        | (unfold spec_DrawAppendCommit.j1 at h
           rcases k with _ | k
           · cases h
           (try dsimp only at h); (try simp only [bs, eq_self, if_true, if_false, reduceIte] at h); (try rw [hn_l0] at h); (try rw [show (Nat.cast n_l0 : Int) = _ from (by assumption)] at h); (try rw [show (NatCast.natCast n_l0 : Int) = _ from (by assumption)] at h); (try (simp only [Nat.cast] at h; rw [show (NatCast.natCast n_l0 : Int) = _ from (by assumption)] at h)); (try rw [hn_c147_0] at h); (try rw [show (Nat.cast n_c147_0 : Int) = _ from (by assumption)] at h); (try rw [show (NatCast.natCast n_c147_0 : Int) = _ from (by assumption)] at h); (try (simp only [Nat.cast] at h; rw [show (NatCast.natCast n_c147_0 : Int) = _ from (by assumption)] at h)); (try rw [hn_c154_0] at h); (try rw [show (Nat.cast n_c154_0 : Int) = _ from (by assumption)] at h); (try rw [show (NatCast.natCast n_c154_0 : Int) = _ from (by assumption)] at h); (try (simp only [Nat.cast] at h; rw [show (NatCast.natCast n_c154_0 : Int) = _ from (by assumption)] at h)); (try rw [hn_c156_0] at h); (try rw [show (Nat.cast n_c156_0 : Int) = _ from (by assumption)] at h); (try rw [show (NatCast.natCast n_c156_0 : Int) = _ from (by assumption)] at h); (try (simp only [Nat.cast] at h; rw [show (NatCast.natCast n_c156_0 : Int) = _ from (by assumption)] at h)); (try rw [hn_c180_0] at h); (try rw [show (Nat.cast n_c180_0 : Int) = _ from (by assumption)] at h); (try rw [show (NatCast.natCast n_c180_0 : Int) = _ from (by assumption)] at h); (try (simp only [Nat.cast] at h; rw [show (NatCast.natCast n_c180_0 : Int) = _ from (by assumption)] at h)); (try rw [hn_x5] at h); (try rw [show (Nat.cast n_x5 : Int) = _ from (by assumption)] at h); (try rw [show (NatCast.natCast n_x5 : Int) = _ from (by assumption)] at h); (try (simp only [Nat.cast] at h; rw [show (NatCast.natCast n_x5 : Int) = _ from (by assumption)] at h)); (try rw [hn_x6] at h); (try rw [show (Nat.cast n_x6 : Int) = _ from (by assumption)] at h); (try rw [show (NatCast.natCast n_x6 : Int) = _ from (by assumption)] at h); (try (simp only [Nat.cast] at h; rw [show (NatCast.natCast n_x6 : Int) = _ from (by assumption)] at h)); (try rw [hn_x17] at h); (try rw [show (Nat.cast n_x17 : Int) = _ from (by assumption)] at h); (try rw [show (NatCast.natCast n_x17 : Int) = _ from (by assumption)] at h); (try (simp only [Nat.cast] at h; rw [show (NatCast.natCast n_x17 : Int) = _ from (by assumption)] at h)); (try rw [hn_x878000] at h); (try rw [show (Nat.cast n_x878000 : Int) = _ from (by assumption)] at h); (try rw [show (NatCast.natCast n_x878000 : Int) = _ from (by assumption)] at h); (try (simp only [Nat.cast] at h; rw [show (NatCast.natCast n_x878000 : Int) = _ from (by assumption)] at h))))
    | ((with_reducible show ∀ _ : Bool, _)
       first
        | (refine all_lt ?_ ?_ <;> (intro hd; first | exact absurd rfl hd | ((first | rw [if_pos hd] at h | rw [if_neg hd] at h | rw [if_pos (by omega)] at h | rw [if_neg (by omega)] at h | skip); (first | (rw [decide_eq_true hd] at h; (try simp only [bs, eq_self, if_true, if_false, reduceIte] at h)) | (rw [decide_eq_false hd] at h; (try simp only [bs, eq_self, if_true, if_false, reduceIte] at h)) | skip); cbv)))
        | (refine all_le ?_ ?_ <;> (intro hd; first | exact absurd rfl hd | ((first | rw [if_pos hd] at h | rw [if_neg hd] at h | rw [if_pos (by omega)] at h | rw [if_neg (by omega)] at h | skip); (first | (rw [decide_eq_true hd] at h; (try simp only [bs, eq_self, if_true, if_false, reduceIte] at h)) | (rw [decide_eq_false hd] at h; (try simp only [bs, eq_self, if_true, if_false, reduceIte] at h)) | skip); cbv)))
        | (refine all_beq ?_ ?_ <;> (intro hd; first | exact absurd rfl hd | ((first | rw [if_pos hd] at h | rw [if_neg hd] at h | rw [if_pos (by omega)] at h | rw [if_neg (by omega)] at h | skip); (first | (rw [beq_pos hd] at h; (try simp only [bs, eq_self, if_true, if_false, reduceIte] at h)) | (rw [beq_neg hd] at h; (try simp only [bs, eq_self, if_true, if_false, reduceIte] at h)) | skip); cbv)))
        | (refine all_bne ?_ ?_ <;> (intro hd; first | exact absurd rfl hd | ((first | rw [if_pos hd] at h | rw [if_neg hd] at h | rw [if_pos (by omega)] at h | rw [if_neg (by omega)] at h | skip); (first | (rw [bne_pos hd] at h; (try simp only [bs, eq_self, if_true, if_false, reduceIte] at h)) | (rw [bne_neg hd] at h; (try simp only [bs, eq_self, if_true, if_false, reduceIte] at h)) | skip); cbv)))
        | (refine all_cells rfl ?_ ?_ <;> (intro hd; (first | (rw [hd] at h; (try simp only [bs, eq_self, if_true, if_false, reduceIte] at h)) | skip); cbv))
        | (refine all_cellsN rfl ?_ ?_ <;> (intro hd; (first | (rw [hd] at h; (try simp only [bs, eq_self, if_true, if_false, reduceIte] at h)) | skip); cbv))
        | (refine all_not_true ?_; cbv)
        | (refine all_not_false ?_; cbv)
        | (refine all_not ?_ ?_ <;> (intro hd; subst hd; (try simp only [bs, eq_self, if_true, if_false, reduceIte] at h); cbv))
        | (refine all_bool ?_ ?_ <;> (intro hd; (try simp only [hd, bs, eq_self, if_true, if_false, reduceIte] at h); cbv)))
    | ((with_reducible show ∀ _ : Int, _)
       first
        | (refine all_u0 ?_; cbv)
        | (refine all_mn ?_; intro y hy; (try rw [hy] at h); cbv)
        | (refine all_mx ?_; intro y hy; (try rw [hy] at h); cbv)
        | (refine all_neg ?_; intro y hy; (try rw [hy] at h); cbv)
        | (refine all_shr40 ?_; intro y hy; (try rw [hy] at h); cbv)
        | (refine all_and ?_; intro y hy; (try rw [hy] at h); cbv)
        | (refine all_wrap_old (by assumption) ?_; cbv)
        | (refine all_wrap ?_; intro y hy; (try rw [hy] at h); cbv)
        | (refine all_len_old (by assumption) ?_; cbv)
        | (refine all_len ?_; intro y hy; (try replace hy : ((_ : Nat) : Int) = y := hy); (try rw [hy] at h); (try rw [show (NatCast.natCast _ : Int) = _ from hy] at h); cbv)
        | (refine all_old (α := Int) (by assumption) ?_; cbv)
        | (refine all_eq (α := Int) ?_; intro y hy; (try replace hy : ((_ : Nat) : Int) = y := hy); (try rw [hy] at h); cbv))
    | ((with_reducible show ∀ _ : Nat, _)
       first
        | (refine @all_cut0 ?_ ?_ ?_ ?_ _ _ _ ?_ ?_ ?_ ?_ ?_
           rotate_left 4
           assumption
           assumption
           (first | assumption | exact lt_ix (by assumption) (by assumption) (by assumption) | exact lt_ix2 (by assumption) (by assumption) (by assumption) (by assumption) | exact lt_y (by assumption) (by assumption) | exact le_y (by assumption) | exact ge_y (by assumption) | exact cut_le (by assumption) (by assumption) | omega)
           (first | assumption | exact cut_hi (by assumption) | exact cut_hi2 (by assumption) (by assumption) | exact cut_hi3 (by assumption) | exact cut_hi4 (by assumption) (by assumption) | omega)
           intro D hD n_D hnD g hgD; (try rw [hD] at h); (try rw [hnD] at h); cbv)
        | (refine @all_cutD ?_ ?_ ?_ ?_ _ _ _ _ ?_ ?_ ?_ ?_ ?_ ?_
           rotate_left 4
           assumption
           assumption
           (first | assumption | exact lt_ix (by assumption) (by assumption) (by assumption) | exact lt_ix2 (by assumption) (by assumption) (by assumption) (by assumption) | exact lt_y (by assumption) (by assumption) | exact le_y (by assumption) | exact ge_y (by assumption) | exact cut_le (by assumption) (by assumption) | omega)
           (first | assumption | exact lt_ix (by assumption) (by assumption) (by assumption) | exact lt_ix2 (by assumption) (by assumption) (by assumption) (by assumption) | exact lt_y (by assumption) (by assumption) | exact le_y (by assumption) | exact ge_y (by assumption) | exact cut_le (by assumption) (by assumption) | omega)
           assumption
           intro D hD n_D hnD g hgD; (try rw [hD] at h); (try rw [hnD] at h); cbv)
        | (refine @all_cut ?_ ?_ ?_ ?_ _ _ _ _ ?_ ?_ ?_ ?_ ?_ ?_
           rotate_left 4
           assumption
           assumption
           (first | assumption | exact lt_ix (by assumption) (by assumption) (by assumption) | exact lt_ix2 (by assumption) (by assumption) (by assumption) (by assumption) | exact lt_y (by assumption) (by assumption) | exact le_y (by assumption) | exact ge_y (by assumption) | exact cut_le (by assumption) (by assumption) | omega)
           (first | assumption | exact lt_ix (by assumption) (by assumption) (by assumption) | exact lt_ix2 (by assumption) (by assumption) (by assumption) (by assumption) | exact lt_y (by assumption) (by assumption) | exact le_y (by assumption) | exact ge_y (by assumption) | exact cut_le (by assumption) (by assumption) | omega)
           (first | assumption | exact cut_hi (by assumption) | exact cut_hi2 (by assumption) (by assumption) | exact cut_hi3 (by assumption) | exact cut_hi4 (by assumption) (by assumption) | omega)
           intro D hD n_D hnD g hgD; (try rw [hD] at h); (try rw [hnD] at h); cbv)
        | (refine all_ix0_old (by assumption) ?_; cbv)
        | (refine all_ix0 ?_; intro q hq; (try rw [hq] at h); cbv)
        | (refine all_app (by first | assumption | exact (rfl : encL _ ([] : List _) = _)) (by first | assumption | rfl) (by assumption) (by first | assumption | rfl) ?_; intro L hL n_L hnL g hgL; (try rw [hL] at h); (try rw [Option.bind_some] at h); (try rw [hnL] at h); cbv)
        | (refine all_appF (by first | assumption | exact (rfl : encL _ ([] : List _) = _)) (by first | assumption | rfl) (by assumption) (by first | assumption | rfl) ?_; intro L hL n_L hnL g hgL; (try rw [hL] at h); (try rw [Option.bind_some] at h); (try rw [hnL] at h); cbv)
        | (refine all_appD (by first | assumption | exact (rfl : encL _ ([] : List _) = _)) (by first | assumption | rfl) (by assumption) (by first | assumption | (simp only [List.length_drop]; omega)) ?_; intro L hL n_L hnL g hgL; (try rw [hL] at h); (try rw [Option.bind_some] at h); (try rw [hnL] at h); cbv)
        | (intro off' n' ho hn'; obtain rfl : off' = _ := ho; (try replace hn' := cut_len hn' (by assumption)); (try replace hn' := cut_len0 hn'); cbv)
        | (refine all_eq (α := Nat) ?_; intro y hy; (try rw [hy] at h); cbv))
    | ((with_reducible show ∀ _ : List V, _)
       first
        | (refine @all_rd_old _ _ eI rd ?_ ?_ ?_ ?_ _ _ _ (fun _ _ => rfl) ?_ ?_ ?_ ?_ ?_ ?_ ?_
           rotate_left 4
           assumption
           assumption
           (first | rfl | assumption)
           (first | assumption | exact lt_ix (by assumption) (by assumption) (by assumption) | exact lt_ix2 (by assumption) (by assumption) (by assumption) (by assumption) | exact lt_y (by assumption) (by assumption) | exact le_y (by assumption) | exact ge_y (by assumption) | exact cut_le (by assumption) (by assumption) | omega)
           (first | assumption | exact lt_ix (by assumption) (by assumption) (by assumption) | exact lt_ix2 (by assumption) (by assumption) (by assumption) (by assumption) | exact lt_y (by assumption) (by assumption) | exact le_y (by assumption) | exact ge_y (by assumption) | exact cut_le (by assumption) (by assumption) | omega)
           assumption
           cbv)
        | (refine @all_rd _ _ eI rd ?_ ?_ ?_ _ _ _ (fun _ _ => rfl) ?_ ?_ ?_ ?_ ?_ ?_
           rotate_left 3
           assumption
           assumption
           (first | rfl | assumption)
           (first | assumption | exact lt_ix (by assumption) (by assumption) (by assumption) | exact lt_ix2 (by assumption) (by assumption) (by assumption) (by assumption) | exact lt_y (by assumption) (by assumption) | exact le_y (by assumption) | exact ge_y (by assumption) | exact cut_le (by assumption) (by assumption) | omega)
           (first | assumption | exact lt_ix (by assumption) (by assumption) (by assumption) | exact lt_ix2 (by assumption) (by assumption) (by assumption) (by assumption) | exact lt_y (by assumption) (by assumption) | exact le_y (by assumption) | exact ge_y (by assumption) | exact cut_le (by assumption) (by assumption) | omega)
           intro z hz
           (try rw [hz] at h); cbv)
        | (refine @all_rd_old _ _ eU rd ?_ ?_ ?_ ?_ _ _ _ (fun _ _ => rfl) ?_ ?_ ?_ ?_ ?_ ?_ ?_
           rotate_left 4
           assumption
           assumption
           (first | rfl | assumption)
           (first | assumption | exact lt_ix (by assumption) (by assumption) (by assumption) | exact lt_ix2 (by assumption) (by assumption) (by assumption) (by assumption) | exact lt_y (by assumption) (by assumption) | exact le_y (by assumption) | exact ge_y (by assumption) | exact cut_le (by assumption) (by assumption) | omega)
           (first | assumption | exact lt_ix (by assumption) (by assumption) (by assumption) | exact lt_ix2 (by assumption) (by assumption) (by assumption) (by assumption) | exact lt_y (by assumption) (by assumption) | exact le_y (by assumption) | exact ge_y (by assumption) | exact cut_le (by assumption) (by assumption) | omega)
           assumption
           cbv)
        | (refine @all_rd _ _ eU rd ?_ ?_ ?_ _ _ _ (fun _ _ => rfl) ?_ ?_ ?_ ?_ ?_ ?_
           rotate_left 3
           assumption
           assumption
           (first | rfl | assumption)
           (first | assumption | exact lt_ix (by assumption) (by assumption) (by assumption) | exact lt_ix2 (by assumption) (by assumption) (by assumption) (by assumption) | exact lt_y (by assumption) (by assumption) | exact le_y (by assumption) | exact ge_y (by assumption) | exact cut_le (by assumption) (by assumption) | omega)
           (first | assumption | exact lt_ix (by assumption) (by assumption) (by assumption) | exact lt_ix2 (by assumption) (by assumption) (by assumption) (by assumption) | exact lt_y (by assumption) (by assumption) | exact le_y (by assumption) | exact ge_y (by assumption) | exact cut_le (by assumption) (by assumption) | omega)
           intro z hz
           (try rw [hz] at h); cbv)
        | (refine @all_rd_old _ _ e72 rd_T72 ?_ ?_ ?_ ?_ _ _ _ (fun _ _ => rfl) ?_ ?_ ?_ ?_ ?_ ?_ ?_
           rotate_left 4
           assumption
           assumption
           (first | rfl | assumption)
           (first | assumption | exact lt_ix (by assumption) (by assumption) (by assumption) | exact lt_ix2 (by assumption) (by assumption) (by assumption) (by assumption) | exact lt_y (by assumption) (by assumption) | exact le_y (by assumption) | exact ge_y (by assumption) | exact cut_le (by assumption) (by assumption) | omega)
           (first | assumption | exact lt_ix (by assumption) (by assumption) (by assumption) | exact lt_ix2 (by assumption) (by assumption) (by assumption) (by assumption) | exact lt_y (by assumption) (by assumption) | exact le_y (by assumption) | exact ge_y (by assumption) | exact cut_le (by assumption) (by assumption) | omega)
           assumption
           cbv)
        | (refine @all_rd _ _ e72 rd_T72 ?_ ?_ ?_ _ _ _ (fun _ _ => rfl) ?_ ?_ ?_ ?_ ?_ ?_
           rotate_left 3
           assumption
           assumption
           (first | rfl | assumption)
           (first | assumption | exact lt_ix (by assumption) (by assumption) (by assumption) | exact lt_ix2 (by assumption) (by assumption) (by assumption) (by assumption) | exact lt_y (by assumption) (by assumption) | exact le_y (by assumption) | exact ge_y (by assumption) | exact cut_le (by assumption) (by assumption) | omega)
           (first | assumption | exact lt_ix (by assumption) (by assumption) (by assumption) | exact lt_ix2 (by assumption) (by assumption) (by assumption) (by assumption) | exact lt_y (by assumption) (by assumption) | exact le_y (by assumption) | exact ge_y (by assumption) | exact cut_le (by assumption) (by assumption) | omega)
           intro z hz
           (try rw [hz] at h); cbv))
    | (obtain ⟨hc, h'⟩ := if_none h; clear h; have h := h'; clear h'; (try simp only [List.length_nil, Nat.zero_add] at hc))
    | (obtain ⟨hc, h'⟩ := if_none' h; clear h; have h := h'; clear h')
    | (cases h; done)
    | (simp only [Option.bind_some] at h)
    | (simp only [Option.some.injEq, Prod.mk.injEq] at h; obtain ⟨rfl, rfl⟩ := h)
    | ((with_reducible show ∃ _, _)
       refine side (by first | exact enc_same (by assumption) (by assumption) _ | exact take_s1 (by assumption) (by assumption) (by assumption) | exact take_s2 (by assumption) (by assumption) (by assumption) (by assumption) (by assumption) | exact take_s3 (by assumption) (by assumption) (by assumption) | exact take_s4 (by assumption) (by assumption) (by assumption) | (intro k hk; subst_vars; first | eq_refl | exact enc_drop | exact enc_take hk | exact absurd hk (Nat.not_lt_zero k)) | (subst_vars; first | eq_refl | (simp; done) | (simp; omega)) | (have h1 : Int.toNat 1 = 1 := rfl; have h2 := one_le (by assumption) (by assumption); simp only [List.length_append, List.length_nil, List.length_drop, h1] at *; omega) | (simp only [Nat.cast] at *; omega)) ?_; (try cbv))
    | trivial
    | (exfalso; omega)
    | (simp only [beq_iff_eq] at h; first | rw [if_pos (by assumption)] at h | rw [if_neg (by assumption)] at h))

def impl_AppendCommit.l0 : Nat → List (S72) → List (S72) → Int → Int → Option (List Int × Bool)
  | 0, _, _, _, _ => none
  | k + 1, x6, x20, x21, x22 => if x22 < x21 then (if 0 ≤ x22 then (if x22 < (x20.length : Int) then (if ((rd_T72 x20 x22).f0) = 1 then (if x6.length < 5864062014805 then (impl_AppendCommit.l0 k (x6 ++ [(⟨(rd_T72 x20 x22).f0, (rd_T72 x20 x22).f1, (rd_T72 x20 x22).f2⟩ : S72)]) x20 x21 (wrap64 (x22 + 1))) else (none)) else (some (([] : List Int), false))) else (none)) else (none)) else (if x6.length < 5864062014805 then ((some (x6 ++ [(⟨2, 0, 0⟩ : S72)] : List (S72))).bind fun y929 => (if (y929.length : Int) > 40 then (some (([] : List Int), false)) else ((impl_journalNumbers.f k y929).bind fun t932 => (some (t932, true))))) else (none))
def impl_AppendCommit.j0 : Nat → List Int → List (S72) → Bool → Option (List Int × Bool)
  | 0, _, _, _ => none
  | k + 1, x0, x1, x16 => if x16 = true then (some (([] : List Int), false)) else ((impl_recovered.f k x0).bind fun t918 => ((impl_committedPart.f k t918).bind fun t921 => (impl_AppendCommit.l0 k t921 x1 (x1.length : Int) 0)))
def impl_AppendCommit.f (k : Nat) (l0 : List Int) (l1 : List (S72)) : Option (List Int × Bool) := (impl_areNumbers.f k l0).bind fun t916 => (if t916 = true then ((impl_areRecords.f k l1).bind fun t917 => (impl_AppendCommit.j0 k l0 l1 (!t917))) else (impl_AppendCommit.j0 k l0 l1 true))

theorem impl_AppendCommit_ok (k : Nat) (l0 : List Int) (l1 : List (S72)) (r0 : List Int) (r1 : Bool) (h : impl_AppendCommit.f k l0 l1 = some (r0, r1)) (n_l0 : Nat) (hn_l0 : l0.length = n_l0) (g_l0 : Nat → List V) (hg_l0 : encL eI l0 = g_l0) (n_l1 : Nat) (hn_l1 : l1.length = n_l1) (g_l1 : Nat → List V) (hg_l1 : encL e72 l1 = g_l1) (n_r0 : Nat) (hn_r0 : r0.length = n_r0) (g_r0 : Nat → List V) (hg_r0 : encL eI r0 = g_r0) : CallOK Try.prog 86 [.fz 1 n_l0 g_l0, .fz 3 n_l1 g_l1] [] (.tup [.row 0 0 n_r0, .val (.bool r1)]) [.row 3 1 n_r0 g_r0] := by
  refine CallOK.of_code tabOK Try.func86 rfl rfl ⟨[(3, [0, 1]), (9, [6, 8, 20, 21, 22]), (11, [6])], []⟩ ?_
  unfold impl_AppendCommit.f at h
  obtain ⟨P, hP⟩ : ∃ P, Try.prog = P := ⟨_, rfl⟩
  rw [hP]
  (try rw [hn_l0] at h); (try rw [hn_l1] at h); skip
  cbv
  repeat' (first
    | ((with_reducible show ∃ _, _)
       first
        | (refine ⟨trivial, ?_⟩; cbv)
        | (refine all_show (by first | omega | decide) ?_; cbv)
        | (refine side (by first | with_reducible eq_refl | assumption | (intro _ _; with_reducible eq_refl) | exact lt_ix (by assumption) (by assumption) (by assumption) | exact lt_ix2 (by assumption) (by assumption) (by assumption) (by assumption) | exact lt_y (by assumption) (by assumption) | exact le_y (by assumption) | exact ge_y (by assumption) | exact cut_le (by assumption) (by assumption) | omega | (dsimp only; omega)) ?_; (try cbv))
        | (refine bind_side (Eq.refl _) ?_; (try cbv))
        | (refine agree_side (Eq.refl _) ?_; (try cbv))
        | (refine agree_weak (Eq.refl _) ?_; (try cbv))
        | (refine ⟨.kept, side (Eq.refl _) (side (by first | trivial | exact ⟨clean_enc (by assumption) (by assumption) (fun _ => rfl), trivial⟩) ?_)⟩; cbv)
        | (refine ⟨.dead, ?_⟩; cbv)
        | (refine ⟨Frz.own, ?_⟩; cbv)
        | (refine ⟨.row, ?_⟩; cbv))
    | ((with_reducible show ∃ _ : Nat, _)
       first
        | (refine ⟨_, [6, 20, 21, 22], Nat.lt_succ_self _, ?_⟩; cbv; exact ⟨_, _, _, _, _, _, _, _, h, by first | assumption | rfl, by first | assumption | rfl, by first | assumption | rfl, by first | assumption | rfl, rfl⟩)
        | (refine ⟨k1 + 2, [6, 20, 21, 22], (by omega), ?_⟩; cbv; exact ⟨_, _, _, _, _, _, _, _, h, by first | assumption | rfl, by first | assumption | rfl, by first | assumption | rfl, by first | assumption | rfl, rfl⟩)
        | (refine ⟨k1 + 1, [6, 20, 21, 22], (by omega), ?_⟩; cbv; exact ⟨_, _, _, _, _, _, _, _, h, by first | assumption | rfl, by first | assumption | rfl, by first | assumption | rfl, by first | assumption | rfl, rfl⟩)
        | (refine ⟨k1, [6, 20, 21, 22], (by omega), ?_⟩; cbv; exact ⟨_, _, _, _, _, _, _, _, h, by first | assumption | rfl, by first | assumption | rfl, by first | assumption | rfl, by first | assumption | rfl, rfl⟩))
    | ((with_reducible show ∃ _ : List Nat, _)
       first
        | ((with_reducible (have h0 : Option.bind (impl_areNumbers.f _ _) _ = some _ := h; clear h0))
           refine ⟨[], ?_⟩; cbv
           repeat (first | (refine all_show (by first | omega | decide) ?_; cbv) | (refine all_showT (by assumption) (by assumption) (by assumption) (by first | assumption | exact lt_ix (by assumption) (by assumption) (by assumption) | exact lt_ix2 (by assumption) (by assumption) (by assumption) (by assumption) | exact lt_y (by assumption) (by assumption) | exact le_y (by assumption) | exact ge_y (by assumption) | exact cut_le (by assumption) (by assumption) | omega) (by first | assumption | exact cut_hi (by assumption) | exact cut_hi2 (by assumption) (by assumption) | exact cut_hi3 (by assumption) | exact cut_hi4 (by assumption) (by assumption) | omega) ?_; intro D hD hnD g hgD; (try rw [hD] at h); cbv))
           obtain ⟨t, ht, h'⟩ := bind_some h
           clear h; have h := h'; clear h'; (try dsimp only at h)
           refine ⟨_, _, (hP ▸ impl_areNumbers_ok _ _ _ ht _ (by first | assumption | rfl) _ (by assumption)  : CallOK P 149 _ _ _ _), ?_⟩
           rcases t with _ | _ <;> (try simp only [bs, eq_self, if_true, if_false, reduceIte] at h) <;> (try (cases h; done)) <;> cbv)
        | ((with_reducible (have h0 : Option.bind (impl_recovered.f _ _) _ = some _ := h; clear h0))
           refine ⟨[], ?_⟩; cbv
           repeat (first | (refine all_show (by first | omega | decide) ?_; cbv) | (refine all_showT (by assumption) (by assumption) (by assumption) (by first | assumption | exact lt_ix (by assumption) (by assumption) (by assumption) | exact lt_ix2 (by assumption) (by assumption) (by assumption) (by assumption) | exact lt_y (by assumption) (by assumption) | exact le_y (by assumption) | exact ge_y (by assumption) | exact cut_le (by assumption) (by assumption) | omega) (by first | assumption | exact cut_hi (by assumption) | exact cut_hi2 (by assumption) (by assumption) | exact cut_hi3 (by assumption) | exact cut_hi4 (by assumption) (by assumption) | omega) ?_; intro D hD hnD g hgD; (try rw [hD] at h); cbv))
           obtain ⟨t, ht, h'⟩ := bind_some h
           clear h; have h := h'; clear h'; (try dsimp only at h)
           obtain ⟨n_c153_0, hn_c153_0⟩ : ∃ n, t.length = n := ⟨_, rfl⟩; obtain ⟨g_t, hg_c153_0⟩ : ∃ g, encL e72 t = g := ⟨_, rfl⟩; (try rw [hn_c153_0] at h)
           refine ⟨_, _, (hP ▸ impl_recovered_ok _ _ _ ht _ (by first | assumption | rfl) _ (by assumption) _ hn_c153_0 _ hg_c153_0 : CallOK P 153 _ _ _ _), ?_⟩; cbv)
        | ((with_reducible (have h0 : Option.bind (impl_areRecords.f _ _) _ = some _ := h; clear h0))
           refine ⟨[], ?_⟩; cbv
           repeat (first | (refine all_show (by first | omega | decide) ?_; cbv) | (refine all_showT (by assumption) (by assumption) (by assumption) (by first | assumption | exact lt_ix (by assumption) (by assumption) (by assumption) | exact lt_ix2 (by assumption) (by assumption) (by assumption) (by assumption) | exact lt_y (by assumption) (by assumption) | exact le_y (by assumption) | exact ge_y (by assumption) | exact cut_le (by assumption) (by assumption) | omega) (by first | assumption | exact cut_hi (by assumption) | exact cut_hi2 (by assumption) (by assumption) | exact cut_hi3 (by assumption) | exact cut_hi4 (by assumption) (by assumption) | omega) ?_; intro D hD hnD g hgD; (try rw [hD] at h); cbv))
           obtain ⟨t, ht, h'⟩ := bind_some h
           clear h; have h := h'; clear h'; (try dsimp only at h)
           refine ⟨_, _, (hP ▸ impl_areRecords_ok _ _ _ ht _ (by first | assumption | rfl) _ (by assumption)  : CallOK P 157 _ _ _ _), ?_⟩
           rcases t with _ | _ <;> (try simp only [bs, eq_self, if_true, if_false, reduceIte] at h) <;> (try (cases h; done)) <;> cbv)
        | ((with_reducible (have h0 : Option.bind (impl_journalNumbers.f _ _) _ = some _ := h; clear h0))
           refine ⟨[], ?_⟩; cbv
           repeat (first | (refine all_show (by first | omega | decide) ?_; cbv) | (refine all_showT (by assumption) (by assumption) (by assumption) (by first | assumption | exact lt_ix (by assumption) (by assumption) (by assumption) | exact lt_ix2 (by assumption) (by assumption) (by assumption) (by assumption) | exact lt_y (by assumption) (by assumption) | exact le_y (by assumption) | exact ge_y (by assumption) | exact cut_le (by assumption) (by assumption) | omega) (by first | assumption | exact cut_hi (by assumption) | exact cut_hi2 (by assumption) (by assumption) | exact cut_hi3 (by assumption) | exact cut_hi4 (by assumption) (by assumption) | omega) ?_; intro D hD hnD g hgD; (try rw [hD] at h); cbv))
           obtain ⟨t, ht, h'⟩ := bind_some h
           clear h; have h := h'; clear h'; (try dsimp only at h)
           obtain ⟨n_c158_0, hn_c158_0⟩ : ∃ n, t.length = n := ⟨_, rfl⟩; obtain ⟨g_t, hg_c158_0⟩ : ∃ g, encL eI t = g := ⟨_, rfl⟩; (try rw [hn_c158_0] at h)
           refine ⟨_, _, (hP ▸ impl_journalNumbers_ok _ _ _ ht _ (by first | assumption | rfl) _ (by assumption) _ hn_c158_0 _ hg_c158_0 : CallOK P 158 _ _ _ _), ?_⟩; cbv)
        | ((with_reducible (have h0 : Option.bind (impl_committedPart.f _ _) _ = some _ := h; clear h0))
           refine ⟨[], ?_⟩; cbv
           repeat (first | (refine all_show (by first | omega | decide) ?_; cbv) | (refine all_showT (by assumption) (by assumption) (by assumption) (by first | assumption | exact lt_ix (by assumption) (by assumption) (by assumption) | exact lt_ix2 (by assumption) (by assumption) (by assumption) (by assumption) | exact lt_y (by assumption) (by assumption) | exact le_y (by assumption) | exact ge_y (by assumption) | exact cut_le (by assumption) (by assumption) | omega) (by first | assumption | exact cut_hi (by assumption) | exact cut_hi2 (by assumption) (by assumption) | exact cut_hi3 (by assumption) | exact cut_hi4 (by assumption) (by assumption) | omega) ?_; intro D hD hnD g hgD; (try rw [hD] at h); cbv))
           obtain ⟨t, ht, h'⟩ := bind_some h
           clear h; have h := h'; clear h'; (try dsimp only at h)
           obtain ⟨n_c179_0, hn_c179_0⟩ : ∃ n, t.length = n := ⟨_, rfl⟩; obtain ⟨g_t, hg_c179_0⟩ : ∃ g, encL e72 t = g := ⟨_, rfl⟩; (try rw [hn_c179_0] at h)
           refine ⟨_, _, (hP ▸ impl_committedPart_ok _ _ _ ht _ (by first | assumption | rfl) _ (by assumption) _ hn_c179_0 _ hg_c179_0 : CallOK P 179 _ _ _ _), ?_⟩; cbv))
    | ((with_reducible show ∃ _ : Nat → List V, _)
       first
        | (refine all_g0 ?_; cbv)
        | (refine all_putS eI (by assumption) (by assumption) (by (first | assumption | exact lt_ix (by assumption) (by assumption) (by assumption) | exact lt_ix2 (by assumption) (by assumption) (by assumption) (by assumption) | exact lt_y (by assumption) (by assumption) | exact le_y (by assumption) | exact ge_y (by assumption) | exact cut_le (by assumption) (by assumption) | omega)) rfl (fun _ => rfl) ?_; intro L hL hnL g hgL; (try rw [hL] at h); (try rw [Option.bind_some] at h); (try rw [hnL] at h); cbv)
        | (refine all_putS e72 (x := ⟨_, _, _⟩) (by assumption) (by assumption) (by (first | assumption | exact lt_ix (by assumption) (by assumption) (by assumption) | exact lt_ix2 (by assumption) (by assumption) (by assumption) (by assumption) | exact lt_y (by assumption) (by assumption) | exact le_y (by assumption) | exact ge_y (by assumption) | exact cut_le (by assumption) (by assumption) | omega)) rfl (fun _ => rfl) ?_; intro L hL hnL g hgL; (try rw [hL] at h); (try rw [Option.bind_some] at h); (try rw [hnL] at h); cbv)
        | (refine all_build1 e72 (x := ⟨_, _, _⟩) rfl ?_; intro g_b hg_b; cbv))
    | ((with_reducible show ∃ _ : Nat → St → Prop, _)
       first
        | (refine ⟨fun k1 s => ∃ x6 x20 x21 x22 n_x6 g_x6 n_x20 g_x20, impl_AppendCommit.l0 k1 x6 x20 x21 x22 = some (r0, r1) ∧ x6.length = n_x6 ∧ encL e72 x6 = g_x6 ∧ x20.length = n_x20 ∧ encL e72 x20 = g_x20 ∧ s = ⟨⟨43, (upd 43 (upd 43 (upd 43 (upd 43 noT 22 (.val (.int .i64 x22))) 21 (.val (.int .i64 x21))) 20 (.fz 3 n_x20 g_x20)) 6 (.row 0 0 n_x6))⟩, [.row 72 3 n_x6 g_x6]⟩, ?_, [], ?_⟩
           rotate_left
           · cbv; exact ⟨_, [6, 20, 21, 22], by cbv; exact ⟨_, _, _, _, _, _, _, _, h, by first | assumption | rfl, by first | assumption | rfl, by first | assumption | rfl, by first | assumption | rfl, rfl⟩⟩
           clear h
           rintro (_ | k1) s1 ⟨x6, x20, x21, x22, n_x6, g_x6, n_x20, g_x20, h, hn_x6, hg_x6, hn_x20, hg_x20, rfl⟩
           · cases h
           unfold impl_AppendCommit.l0 at h
           (try rw [hn_x6] at h); (try rw [hn_x20] at h); skip
           cbv))
    | ((with_reducible (have h0 : impl_AppendCommit.j0 _ _ _ _ = some _ := h; clear h0))
       first
        | (unfold impl_AppendCommit.j0 at h
           rcases k1 with _ | k1
           · cases h
           (try dsimp only at h); (try simp only [bs, eq_self, if_true, if_false, reduceIte] at h); (try rw [hn_l0] at h); (try rw [show (Nat.cast n_l0 : Int) = _ from (by assumption)] at h); (try rw [show (NatCast.natCast n_l0 : Int) = _ from (by assumption)] at h); (try (simp only [Nat.cast] at h; rw [show (NatCast.natCast n_l0 : Int) = _ from (by assumption)] at h)); (try rw [hn_l1] at h); (try rw [show (Nat.cast n_l1 : Int) = _ from (by assumption)] at h); (try rw [show (NatCast.natCast n_l1 : Int) = _ from (by assumption)] at h); (try (simp only [Nat.cast] at h; rw [show (NatCast.natCast n_l1 : Int) = _ from (by assumption)] at h)); (try rw [hn_c153_0] at h); (try rw [show (Nat.cast n_c153_0 : Int) = _ from (by assumption)] at h); (try rw [show (NatCast.natCast n_c153_0 : Int) = _ from (by assumption)] at h); (try (simp only [Nat.cast] at h; rw [show (NatCast.natCast n_c153_0 : Int) = _ from (by assumption)] at h)); (try rw [hn_c158_0] at h); (try rw [show (Nat.cast n_c158_0 : Int) = _ from (by assumption)] at h); (try rw [show (NatCast.natCast n_c158_0 : Int) = _ from (by assumption)] at h); (try (simp only [Nat.cast] at h; rw [show (NatCast.natCast n_c158_0 : Int) = _ from (by assumption)] at h)); (try rw [hn_c179_0] at h); (try rw [show (Nat.cast n_c179_0 : Int) = _ from (by assumption)] at h); (try rw [show (NatCast.natCast n_c179_0 : Int) = _ from (by assumption)] at h); (try (simp only [Nat.cast] at h; rw [show (NatCast.natCast n_c179_0 : Int) = _ from (by assumption)] at h)); (try rw [hn_x6] at h); (try rw [show (Nat.cast n_x6 : Int) = _ from (by assumption)] at h); (try rw [show (NatCast.natCast n_x6 : Int) = _ from (by assumption)] at h); (try (simp only [Nat.cast] at h; rw [show (NatCast.natCast n_x6 : Int) = _ from (by assumption)] at h)); (try rw [hn_x20] at h); (try rw [show (Nat.cast n_x20 : Int) = _ from (by assumption)] at h); (try rw [show (NatCast.natCast n_x20 : Int) = _ from (by assumption)] at h); (try (simp only [Nat.cast] at h; rw [show (NatCast.natCast n_x20 : Int) = _ from (by assumption)] at h)))
        | (unfold impl_AppendCommit.j0 at h
           rcases k with _ | k
           · cases h
           (try dsimp only at h); (try simp only [bs, eq_self, if_true, if_false, reduceIte] at h); (try rw [hn_l0] at h); (try rw [show (Nat.cast n_l0 : Int) = _ from (by assumption)] at h); (try rw [show (NatCast.natCast n_l0 : Int) = _ from (by assumption)] at h); (try (simp only [Nat.cast] at h; rw [show (NatCast.natCast n_l0 : Int) = _ from (by assumption)] at h)); (try rw [hn_l1] at h); (try rw [show (Nat.cast n_l1 : Int) = _ from (by assumption)] at h); (try rw [show (NatCast.natCast n_l1 : Int) = _ from (by assumption)] at h); (try (simp only [Nat.cast] at h; rw [show (NatCast.natCast n_l1 : Int) = _ from (by assumption)] at h)); (try rw [hn_c153_0] at h); (try rw [show (Nat.cast n_c153_0 : Int) = _ from (by assumption)] at h); (try rw [show (NatCast.natCast n_c153_0 : Int) = _ from (by assumption)] at h); (try (simp only [Nat.cast] at h; rw [show (NatCast.natCast n_c153_0 : Int) = _ from (by assumption)] at h)); (try rw [hn_c158_0] at h); (try rw [show (Nat.cast n_c158_0 : Int) = _ from (by assumption)] at h); (try rw [show (NatCast.natCast n_c158_0 : Int) = _ from (by assumption)] at h); (try (simp only [Nat.cast] at h; rw [show (NatCast.natCast n_c158_0 : Int) = _ from (by assumption)] at h)); (try rw [hn_c179_0] at h); (try rw [show (Nat.cast n_c179_0 : Int) = _ from (by assumption)] at h); (try rw [show (NatCast.natCast n_c179_0 : Int) = _ from (by assumption)] at h); (try (simp only [Nat.cast] at h; rw [show (NatCast.natCast n_c179_0 : Int) = _ from (by assumption)] at h)); (try rw [hn_x6] at h); (try rw [show (Nat.cast n_x6 : Int) = _ from (by assumption)] at h); (try rw [show (NatCast.natCast n_x6 : Int) = _ from (by assumption)] at h); (try (simp only [Nat.cast] at h; rw [show (NatCast.natCast n_x6 : Int) = _ from (by assumption)] at h)); (try rw [hn_x20] at h); (try rw [show (Nat.cast n_x20 : Int) = _ from (by assumption)] at h); (try rw [show (NatCast.natCast n_x20 : Int) = _ from (by assumption)] at h); (try (simp only [Nat.cast] at h; rw [show (NatCast.natCast n_x20 : Int) = _ from (by assumption)] at h))))
    | ((with_reducible show ∀ _ : Bool, _)
       first
        | (refine all_lt ?_ ?_ <;> (intro hd; first | exact absurd rfl hd | ((first | rw [if_pos hd] at h | rw [if_neg hd] at h | rw [if_pos (by omega)] at h | rw [if_neg (by omega)] at h | skip); (first | (rw [decide_eq_true hd] at h; (try simp only [bs, eq_self, if_true, if_false, reduceIte] at h)) | (rw [decide_eq_false hd] at h; (try simp only [bs, eq_self, if_true, if_false, reduceIte] at h)) | skip); cbv)))
        | (refine all_le ?_ ?_ <;> (intro hd; first | exact absurd rfl hd | ((first | rw [if_pos hd] at h | rw [if_neg hd] at h | rw [if_pos (by omega)] at h | rw [if_neg (by omega)] at h | skip); (first | (rw [decide_eq_true hd] at h; (try simp only [bs, eq_self, if_true, if_false, reduceIte] at h)) | (rw [decide_eq_false hd] at h; (try simp only [bs, eq_self, if_true, if_false, reduceIte] at h)) | skip); cbv)))
        | (refine all_beq ?_ ?_ <;> (intro hd; first | exact absurd rfl hd | ((first | rw [if_pos hd] at h | rw [if_neg hd] at h | rw [if_pos (by omega)] at h | rw [if_neg (by omega)] at h | skip); (first | (rw [beq_pos hd] at h; (try simp only [bs, eq_self, if_true, if_false, reduceIte] at h)) | (rw [beq_neg hd] at h; (try simp only [bs, eq_self, if_true, if_false, reduceIte] at h)) | skip); cbv)))
        | (refine all_bne ?_ ?_ <;> (intro hd; first | exact absurd rfl hd | ((first | rw [if_pos hd] at h | rw [if_neg hd] at h | rw [if_pos (by omega)] at h | rw [if_neg (by omega)] at h | skip); (first | (rw [bne_pos hd] at h; (try simp only [bs, eq_self, if_true, if_false, reduceIte] at h)) | (rw [bne_neg hd] at h; (try simp only [bs, eq_self, if_true, if_false, reduceIte] at h)) | skip); cbv)))
        | (refine all_cells rfl ?_ ?_ <;> (intro hd; (first | (rw [hd] at h; (try simp only [bs, eq_self, if_true, if_false, reduceIte] at h)) | skip); cbv))
        | (refine all_cellsN rfl ?_ ?_ <;> (intro hd; (first | (rw [hd] at h; (try simp only [bs, eq_self, if_true, if_false, reduceIte] at h)) | skip); cbv))
        | (refine all_not_true ?_; cbv)
        | (refine all_not_false ?_; cbv)
        | (refine all_not ?_ ?_ <;> (intro hd; subst hd; (try simp only [bs, eq_self, if_true, if_false, reduceIte] at h); cbv))
        | (refine all_bool ?_ ?_ <;> (intro hd; (try simp only [hd, bs, eq_self, if_true, if_false, reduceIte] at h); cbv)))
    | ((with_reducible show ∀ _ : Int, _)
       first
        | (refine all_u0 ?_; cbv)
        | (refine all_mn ?_; intro y hy; (try rw [hy] at h); cbv)
        | (refine all_mx ?_; intro y hy; (try rw [hy] at h); cbv)
        | (refine all_neg ?_; intro y hy; (try rw [hy] at h); cbv)
        | (refine all_shr40 ?_; intro y hy; (try rw [hy] at h); cbv)
        | (refine all_and ?_; intro y hy; (try rw [hy] at h); cbv)
        | (refine all_wrap_old (by assumption) ?_; cbv)
        | (refine all_wrap ?_; intro y hy; (try rw [hy] at h); cbv)
        | (refine all_len_old (by assumption) ?_; cbv)
        | (refine all_len ?_; intro y hy; (try replace hy : ((_ : Nat) : Int) = y := hy); (try rw [hy] at h); (try rw [show (NatCast.natCast _ : Int) = _ from hy] at h); cbv)
        | (refine all_old (α := Int) (by assumption) ?_; cbv)
        | (refine all_eq (α := Int) ?_; intro y hy; (try replace hy : ((_ : Nat) : Int) = y := hy); (try rw [hy] at h); cbv))
    | ((with_reducible show ∀ _ : Nat, _)
       first
        | (refine @all_cut0 ?_ ?_ ?_ ?_ _ _ _ ?_ ?_ ?_ ?_ ?_
           rotate_left 4
           assumption
           assumption
           (first | assumption | exact lt_ix (by assumption) (by assumption) (by assumption) | exact lt_ix2 (by assumption) (by assumption) (by assumption) (by assumption) | exact lt_y (by assumption) (by assumption) | exact le_y (by assumption) | exact ge_y (by assumption) | exact cut_le (by assumption) (by assumption) | omega)
           (first | assumption | exact cut_hi (by assumption) | exact cut_hi2 (by assumption) (by assumption) | exact cut_hi3 (by assumption) | exact cut_hi4 (by assumption) (by assumption) | omega)
           intro D hD n_D hnD g hgD; (try rw [hD] at h); (try rw [hnD] at h); cbv)
        | (refine @all_cutD ?_ ?_ ?_ ?_ _ _ _ _ ?_ ?_ ?_ ?_ ?_ ?_
           rotate_left 4
           assumption
           assumption
           (first | assumption | exact lt_ix (by assumption) (by assumption) (by assumption) | exact lt_ix2 (by assumption) (by assumption) (by assumption) (by assumption) | exact lt_y (by assumption) (by assumption) | exact le_y (by assumption) | exact ge_y (by assumption) | exact cut_le (by assumption) (by assumption) | omega)
           (first | assumption | exact lt_ix (by assumption) (by assumption) (by assumption) | exact lt_ix2 (by assumption) (by assumption) (by assumption) (by assumption) | exact lt_y (by assumption) (by assumption) | exact le_y (by assumption) | exact ge_y (by assumption) | exact cut_le (by assumption) (by assumption) | omega)
           assumption
           intro D hD n_D hnD g hgD; (try rw [hD] at h); (try rw [hnD] at h); cbv)
        | (refine @all_cut ?_ ?_ ?_ ?_ _ _ _ _ ?_ ?_ ?_ ?_ ?_ ?_
           rotate_left 4
           assumption
           assumption
           (first | assumption | exact lt_ix (by assumption) (by assumption) (by assumption) | exact lt_ix2 (by assumption) (by assumption) (by assumption) (by assumption) | exact lt_y (by assumption) (by assumption) | exact le_y (by assumption) | exact ge_y (by assumption) | exact cut_le (by assumption) (by assumption) | omega)
           (first | assumption | exact lt_ix (by assumption) (by assumption) (by assumption) | exact lt_ix2 (by assumption) (by assumption) (by assumption) (by assumption) | exact lt_y (by assumption) (by assumption) | exact le_y (by assumption) | exact ge_y (by assumption) | exact cut_le (by assumption) (by assumption) | omega)
           (first | assumption | exact cut_hi (by assumption) | exact cut_hi2 (by assumption) (by assumption) | exact cut_hi3 (by assumption) | exact cut_hi4 (by assumption) (by assumption) | omega)
           intro D hD n_D hnD g hgD; (try rw [hD] at h); (try rw [hnD] at h); cbv)
        | (refine all_ix0_old (by assumption) ?_; cbv)
        | (refine all_ix0 ?_; intro q hq; (try rw [hq] at h); cbv)
        | (refine all_app (by first | assumption | exact (rfl : encL _ ([] : List _) = _)) (by first | assumption | rfl) (by assumption) (by first | assumption | rfl) ?_; intro L hL n_L hnL g hgL; (try rw [hL] at h); (try rw [Option.bind_some] at h); (try rw [hnL] at h); cbv)
        | (refine all_appF (by first | assumption | exact (rfl : encL _ ([] : List _) = _)) (by first | assumption | rfl) (by assumption) (by first | assumption | rfl) ?_; intro L hL n_L hnL g hgL; (try rw [hL] at h); (try rw [Option.bind_some] at h); (try rw [hnL] at h); cbv)
        | (refine all_appD (by first | assumption | exact (rfl : encL _ ([] : List _) = _)) (by first | assumption | rfl) (by assumption) (by first | assumption | (simp only [List.length_drop]; omega)) ?_; intro L hL n_L hnL g hgL; (try rw [hL] at h); (try rw [Option.bind_some] at h); (try rw [hnL] at h); cbv)
        | (intro off' n' ho hn'; obtain rfl : off' = _ := ho; (try replace hn' := cut_len hn' (by assumption)); (try replace hn' := cut_len0 hn'); cbv)
        | (refine all_eq (α := Nat) ?_; intro y hy; (try rw [hy] at h); cbv))
    | ((with_reducible show ∀ _ : List V, _)
       first
        | (refine @all_rd_old _ _ eI rd ?_ ?_ ?_ ?_ _ _ _ (fun _ _ => rfl) ?_ ?_ ?_ ?_ ?_ ?_ ?_
           rotate_left 4
           assumption
           assumption
           (first | rfl | assumption)
           (first | assumption | exact lt_ix (by assumption) (by assumption) (by assumption) | exact lt_ix2 (by assumption) (by assumption) (by assumption) (by assumption) | exact lt_y (by assumption) (by assumption) | exact le_y (by assumption) | exact ge_y (by assumption) | exact cut_le (by assumption) (by assumption) | omega)
           (first | assumption | exact lt_ix (by assumption) (by assumption) (by assumption) | exact lt_ix2 (by assumption) (by assumption) (by assumption) (by assumption) | exact lt_y (by assumption) (by assumption) | exact le_y (by assumption) | exact ge_y (by assumption) | exact cut_le (by assumption) (by assumption) | omega)
           assumption
           cbv)
        | (refine @all_rd _ _ eI rd ?_ ?_ ?_ _ _ _ (fun _ _ => rfl) ?_ ?_ ?_ ?_ ?_ ?_
           rotate_left 3
           assumption
           assumption
           (first | rfl | assumption)
           (first | assumption | exact lt_ix (by assumption) (by assumption) (by assumption) | exact lt_ix2 (by assumption) (by assumption) (by assumption) (by assumption) | exact lt_y (by assumption) (by assumption) | exact le_y (by assumption) | exact ge_y (by assumption) | exact cut_le (by assumption) (by assumption) | omega)
           (first | assumption | exact lt_ix (by assumption) (by assumption) (by assumption) | exact lt_ix2 (by assumption) (by assumption) (by assumption) (by assumption) | exact lt_y (by assumption) (by assumption) | exact le_y (by assumption) | exact ge_y (by assumption) | exact cut_le (by assumption) (by assumption) | omega)
           intro z hz
           (try rw [hz] at h); cbv)
        | (refine @all_rd_old _ _ e72 rd_T72 ?_ ?_ ?_ ?_ _ _ _ (fun _ _ => rfl) ?_ ?_ ?_ ?_ ?_ ?_ ?_
           rotate_left 4
           assumption
           assumption
           (first | rfl | assumption)
           (first | assumption | exact lt_ix (by assumption) (by assumption) (by assumption) | exact lt_ix2 (by assumption) (by assumption) (by assumption) (by assumption) | exact lt_y (by assumption) (by assumption) | exact le_y (by assumption) | exact ge_y (by assumption) | exact cut_le (by assumption) (by assumption) | omega)
           (first | assumption | exact lt_ix (by assumption) (by assumption) (by assumption) | exact lt_ix2 (by assumption) (by assumption) (by assumption) (by assumption) | exact lt_y (by assumption) (by assumption) | exact le_y (by assumption) | exact ge_y (by assumption) | exact cut_le (by assumption) (by assumption) | omega)
           assumption
           cbv)
        | (refine @all_rd _ _ e72 rd_T72 ?_ ?_ ?_ _ _ _ (fun _ _ => rfl) ?_ ?_ ?_ ?_ ?_ ?_
           rotate_left 3
           assumption
           assumption
           (first | rfl | assumption)
           (first | assumption | exact lt_ix (by assumption) (by assumption) (by assumption) | exact lt_ix2 (by assumption) (by assumption) (by assumption) (by assumption) | exact lt_y (by assumption) (by assumption) | exact le_y (by assumption) | exact ge_y (by assumption) | exact cut_le (by assumption) (by assumption) | omega)
           (first | assumption | exact lt_ix (by assumption) (by assumption) (by assumption) | exact lt_ix2 (by assumption) (by assumption) (by assumption) (by assumption) | exact lt_y (by assumption) (by assumption) | exact le_y (by assumption) | exact ge_y (by assumption) | exact cut_le (by assumption) (by assumption) | omega)
           intro z hz
           (try rw [hz] at h); cbv))
    | (obtain ⟨hc, h'⟩ := if_none h; clear h; have h := h'; clear h'; (try simp only [List.length_nil, Nat.zero_add] at hc))
    | (obtain ⟨hc, h'⟩ := if_none' h; clear h; have h := h'; clear h')
    | (cases h; done)
    | (simp only [Option.bind_some] at h)
    | (simp only [Option.some.injEq, Prod.mk.injEq] at h; obtain ⟨rfl, rfl⟩ := h)
    | ((with_reducible show ∃ _, _)
       refine side (by first | exact enc_same (by assumption) (by assumption) _ | exact take_s1 (by assumption) (by assumption) (by assumption) | exact take_s2 (by assumption) (by assumption) (by assumption) (by assumption) (by assumption) | exact take_s3 (by assumption) (by assumption) (by assumption) | exact take_s4 (by assumption) (by assumption) (by assumption) | (intro k hk; subst_vars; first | eq_refl | exact enc_drop | exact enc_take hk | exact absurd hk (Nat.not_lt_zero k)) | (subst_vars; first | eq_refl | (simp; done) | (simp; omega)) | (have h1 : Int.toNat 1 = 1 := rfl; have h2 := one_le (by assumption) (by assumption); simp only [List.length_append, List.length_nil, List.length_drop, h1] at *; omega) | (simp only [Nat.cast] at *; omega)) ?_; (try cbv))
    | trivial
    | (exfalso; omega)
    | (simp only [beq_iff_eq] at h; first | rw [if_pos (by assumption)] at h | rw [if_neg (by assumption)] at h))

def spec_AppendCommit.l0 : Nat → List (S72) → List (S72) → Int → Int → Option (List Int × Bool)
  | 0, _, _, _, _ => none
  | k + 1, x6, x20, x21, x22 => if x22 < x21 then (if 0 ≤ x22 then (if x22 < (x20.length : Int) then (if ((rd_T72 x20 x22).f0) = 1 then (if x6.length < 5864062014805 then (spec_AppendCommit.l0 k (x6 ++ [(⟨(rd_T72 x20 x22).f0, (rd_T72 x20 x22).f1, (rd_T72 x20 x22).f2⟩ : S72)]) x20 x21 (wrap64 (x22 + 1))) else (none)) else (some (([] : List Int), false))) else (none)) else (none)) else (if x6.length < 5864062014805 then ((some (x6 ++ [(⟨2, 0, 0⟩ : S72)] : List (S72))).bind fun y948 => ((spec_jrGood.f k y948).bind fun t951 => (if t951 = true then ((spec_jrAll.f k y948).bind fun t952 => (some (t952, true))) else (some (([] : List Int), false))))) else (none))
def spec_AppendCommit.j0 : Nat → List Int → List (S72) → Bool → Option (List Int × Bool)
  | 0, _, _, _ => none
  | k + 1, x0, x1, x16 => if x16 = true then (some (([] : List Int), false)) else ((spec_jrRecover.f k x0).bind fun t937 => ((spec_jrCommitted.f k t937).bind fun t940 => (spec_AppendCommit.l0 k t940 x1 (x1.length : Int) 0)))
def spec_AppendCommit.f (k : Nat) (l0 : List Int) (l1 : List (S72)) : Option (List Int × Bool) := (spec_jrList.f k l0).bind fun t935 => (if t935 = true then ((spec_jrGood.f k l1).bind fun t936 => (spec_AppendCommit.j0 k l0 l1 (!t936))) else (spec_AppendCommit.j0 k l0 l1 true))

theorem spec_AppendCommit_ok (k : Nat) (l0 : List Int) (l1 : List (S72)) (r0 : List Int) (r1 : Bool) (h : spec_AppendCommit.f k l0 l1 = some (r0, r1)) (n_l0 : Nat) (hn_l0 : l0.length = n_l0) (g_l0 : Nat → List V) (hg_l0 : encL eI l0 = g_l0) (n_l1 : Nat) (hn_l1 : l1.length = n_l1) (g_l1 : Nat → List V) (hg_l1 : encL e72 l1 = g_l1) (n_r0 : Nat) (hn_r0 : r0.length = n_r0) (g_r0 : Nat → List V) (hg_r0 : encL eI r0 = g_r0) : CallOK Try.prog 87 [.fz 1 n_l0 g_l0, .fz 3 n_l1 g_l1] [] (.tup [.row 0 0 n_r0, .val (.bool r1)]) [.row 3 1 n_r0 g_r0] := by
  refine CallOK.of_code tabOK Try.func87 rfl rfl ⟨[(3, [0, 1]), (9, [6, 8, 20, 21, 22]), (11, [6])], []⟩ ?_
  unfold spec_AppendCommit.f at h
  obtain ⟨P, hP⟩ : ∃ P, Try.prog = P := ⟨_, rfl⟩
  rw [hP]
  (try rw [hn_l0] at h); (try rw [hn_l1] at h); skip
  cbv
  repeat' (first
    | ((with_reducible show ∃ _, _)
       first
        | (refine ⟨trivial, ?_⟩; cbv)
        | (refine all_show (by first | omega | decide) ?_; cbv)
        | (refine side (by first | with_reducible eq_refl | assumption | (intro _ _; with_reducible eq_refl) | exact lt_ix (by assumption) (by assumption) (by assumption) | exact lt_ix2 (by assumption) (by assumption) (by assumption) (by assumption) | exact lt_y (by assumption) (by assumption) | exact le_y (by assumption) | exact ge_y (by assumption) | exact cut_le (by assumption) (by assumption) | omega | (dsimp only; omega)) ?_; (try cbv))
        | (refine bind_side (Eq.refl _) ?_; (try cbv))
        | (refine agree_side (Eq.refl _) ?_; (try cbv))
        | (refine agree_weak (Eq.refl _) ?_; (try cbv))
        | (refine ⟨.kept, side (Eq.refl _) (side (by first | trivial | exact ⟨clean_enc (by assumption) (by assumption) (fun _ => rfl), trivial⟩) ?_)⟩; cbv)
        | (refine ⟨.dead, ?_⟩; cbv)
        | (refine ⟨Frz.own, ?_⟩; cbv)
        | (refine ⟨.row, ?_⟩; cbv))
    | ((with_reducible show ∃ _ : Nat, _)
       first
        | (refine ⟨_, [6, 20, 21, 22], Nat.lt_succ_self _, ?_⟩; cbv; exact ⟨_, _, _, _, _, _, _, _, h, by first | assumption | rfl, by first | assumption | rfl, by first | assumption | rfl, by first | assumption | rfl, rfl⟩)
        | (refine ⟨k1 + 2, [6, 20, 21, 22], (by omega), ?_⟩; cbv; exact ⟨_, _, _, _, _, _, _, _, h, by first | assumption | rfl, by first | assumption | rfl, by first | assumption | rfl, by first | assumption | rfl, rfl⟩)
        | (refine ⟨k1 + 1, [6, 20, 21, 22], (by omega), ?_⟩; cbv; exact ⟨_, _, _, _, _, _, _, _, h, by first | assumption | rfl, by first | assumption | rfl, by first | assumption | rfl, by first | assumption | rfl, rfl⟩)
        | (refine ⟨k1, [6, 20, 21, 22], (by omega), ?_⟩; cbv; exact ⟨_, _, _, _, _, _, _, _, h, by first | assumption | rfl, by first | assumption | rfl, by first | assumption | rfl, by first | assumption | rfl, rfl⟩))
    | ((with_reducible show ∃ _ : List Nat, _)
       first
        | ((with_reducible (have h0 : Option.bind (spec_jrList.f _ _) _ = some _ := h; clear h0))
           refine ⟨[], ?_⟩; cbv
           repeat (first | (refine all_show (by first | omega | decide) ?_; cbv) | (refine all_showT (by assumption) (by assumption) (by assumption) (by first | assumption | exact lt_ix (by assumption) (by assumption) (by assumption) | exact lt_ix2 (by assumption) (by assumption) (by assumption) (by assumption) | exact lt_y (by assumption) (by assumption) | exact le_y (by assumption) | exact ge_y (by assumption) | exact cut_le (by assumption) (by assumption) | omega) (by first | assumption | exact cut_hi (by assumption) | exact cut_hi2 (by assumption) (by assumption) | exact cut_hi3 (by assumption) | exact cut_hi4 (by assumption) (by assumption) | omega) ?_; intro D hD hnD g hgD; (try rw [hD] at h); cbv))
           obtain ⟨t, ht, h'⟩ := bind_some h
           clear h; have h := h'; clear h'; (try dsimp only at h)
           refine ⟨_, _, (hP ▸ spec_jrList_ok _ _ _ ht _ (by first | assumption | rfl) _ (by assumption)  : CallOK P 150 _ _ _ _), ?_⟩
           rcases t with _ | _ <;> (try simp only [bs, eq_self, if_true, if_false, reduceIte] at h) <;> (try (cases h; done)) <;> cbv)
        | ((with_reducible (have h0 : Option.bind (spec_jrRecover.f _ _) _ = some _ := h; clear h0))
           refine ⟨[], ?_⟩; cbv
           repeat (first | (refine all_show (by first | omega | decide) ?_; cbv) | (refine all_showT (by assumption) (by assumption) (by assumption) (by first | assumption | exact lt_ix (by assumption) (by assumption) (by assumption) | exact lt_ix2 (by assumption) (by assumption) (by assumption) (by assumption) | exact lt_y (by assumption) (by assumption) | exact le_y (by assumption) | exact ge_y (by assumption) | exact cut_le (by assumption) (by assumption) | omega) (by first | assumption | exact cut_hi (by assumption) | exact cut_hi2 (by assumption) (by assumption) | exact cut_hi3 (by assumption) | exact cut_hi4 (by assumption) (by assumption) | omega) ?_; intro D hD hnD g hgD; (try rw [hD] at h); cbv))
           obtain ⟨t, ht, h'⟩ := bind_some h
           clear h; have h := h'; clear h'; (try dsimp only at h)
           obtain ⟨n_c154_0, hn_c154_0⟩ : ∃ n, t.length = n := ⟨_, rfl⟩; obtain ⟨g_t, hg_c154_0⟩ : ∃ g, encL e72 t = g := ⟨_, rfl⟩; (try rw [hn_c154_0] at h)
           refine ⟨_, _, (hP ▸ spec_jrRecover_ok _ _ _ ht _ (by first | assumption | rfl) _ (by assumption) _ hn_c154_0 _ hg_c154_0 : CallOK P 154 _ _ _ _), ?_⟩; cbv)
        | ((with_reducible (have h0 : Option.bind (spec_jrGood.f _ _) _ = some _ := h; clear h0))
           refine ⟨[], ?_⟩; cbv
           repeat (first | (refine all_show (by first | omega | decide) ?_; cbv) | (refine all_showT (by assumption) (by assumption) (by assumption) (by first | assumption | exact lt_ix (by assumption) (by assumption) (by assumption) | exact lt_ix2 (by assumption) (by assumption) (by assumption) (by assumption) | exact lt_y (by assumption) (by assumption) | exact le_y (by assumption) | exact ge_y (by assumption) | exact cut_le (by assumption) (by assumption) | omega) (by first | assumption | exact cut_hi (by assumption) | exact cut_hi2 (by assumption) (by assumption) | exact cut_hi3 (by assumption) | exact cut_hi4 (by assumption) (by assumption) | omega) ?_; intro D hD hnD g hgD; (try rw [hD] at h); cbv))
           obtain ⟨t, ht, h'⟩ := bind_some h
           clear h; have h := h'; clear h'; (try dsimp only at h)
           refine ⟨_, _, (hP ▸ spec_jrGood_ok _ _ _ ht _ (by first | assumption | rfl) _ (by assumption)  : CallOK P 160 _ _ _ _), ?_⟩
           rcases t with _ | _ <;> (try simp only [bs, eq_self, if_true, if_false, reduceIte] at h) <;> (try (cases h; done)) <;> cbv)
        | ((with_reducible (have h0 : Option.bind (spec_jrAll.f _ _) _ = some _ := h; clear h0))
           refine ⟨[], ?_⟩; cbv
           repeat (first | (refine all_show (by first | omega | decide) ?_; cbv) | (refine all_showT (by assumption) (by assumption) (by assumption) (by first | assumption | exact lt_ix (by assumption) (by assumption) (by assumption) | exact lt_ix2 (by assumption) (by assumption) (by assumption) (by assumption) | exact lt_y (by assumption) (by assumption) | exact le_y (by assumption) | exact ge_y (by assumption) | exact cut_le (by assumption) (by assumption) | omega) (by first | assumption | exact cut_hi (by assumption) | exact cut_hi2 (by assumption) (by assumption) | exact cut_hi3 (by assumption) | exact cut_hi4 (by assumption) (by assumption) | omega) ?_; intro D hD hnD g hgD; (try rw [hD] at h); cbv))
           obtain ⟨t, ht, h'⟩ := bind_some h
           clear h; have h := h'; clear h'; (try dsimp only at h)
           obtain ⟨n_c161_0, hn_c161_0⟩ : ∃ n, t.length = n := ⟨_, rfl⟩; obtain ⟨g_t, hg_c161_0⟩ : ∃ g, encL eI t = g := ⟨_, rfl⟩; (try rw [hn_c161_0] at h)
           refine ⟨_, _, (hP ▸ spec_jrAll_ok _ _ _ ht _ (by first | assumption | rfl) _ (by assumption) _ hn_c161_0 _ hg_c161_0 : CallOK P 161 _ _ _ _), ?_⟩; cbv)
        | ((with_reducible (have h0 : Option.bind (spec_jrCommitted.f _ _) _ = some _ := h; clear h0))
           refine ⟨[], ?_⟩; cbv
           repeat (first | (refine all_show (by first | omega | decide) ?_; cbv) | (refine all_showT (by assumption) (by assumption) (by assumption) (by first | assumption | exact lt_ix (by assumption) (by assumption) (by assumption) | exact lt_ix2 (by assumption) (by assumption) (by assumption) (by assumption) | exact lt_y (by assumption) (by assumption) | exact le_y (by assumption) | exact ge_y (by assumption) | exact cut_le (by assumption) (by assumption) | omega) (by first | assumption | exact cut_hi (by assumption) | exact cut_hi2 (by assumption) (by assumption) | exact cut_hi3 (by assumption) | exact cut_hi4 (by assumption) (by assumption) | omega) ?_; intro D hD hnD g hgD; (try rw [hD] at h); cbv))
           obtain ⟨t, ht, h'⟩ := bind_some h
           clear h; have h := h'; clear h'; (try dsimp only at h)
           obtain ⟨n_c180_0, hn_c180_0⟩ : ∃ n, t.length = n := ⟨_, rfl⟩; obtain ⟨g_t, hg_c180_0⟩ : ∃ g, encL e72 t = g := ⟨_, rfl⟩; (try rw [hn_c180_0] at h)
           refine ⟨_, _, (hP ▸ spec_jrCommitted_ok _ _ _ ht _ (by first | assumption | rfl) _ (by assumption) _ hn_c180_0 _ hg_c180_0 : CallOK P 180 _ _ _ _), ?_⟩; cbv))
    | ((with_reducible show ∃ _ : Nat → List V, _)
       first
        | (refine all_g0 ?_; cbv)
        | (refine all_putS eI (by assumption) (by assumption) (by (first | assumption | exact lt_ix (by assumption) (by assumption) (by assumption) | exact lt_ix2 (by assumption) (by assumption) (by assumption) (by assumption) | exact lt_y (by assumption) (by assumption) | exact le_y (by assumption) | exact ge_y (by assumption) | exact cut_le (by assumption) (by assumption) | omega)) rfl (fun _ => rfl) ?_; intro L hL hnL g hgL; (try rw [hL] at h); (try rw [Option.bind_some] at h); (try rw [hnL] at h); cbv)
        | (refine all_putS e72 (x := ⟨_, _, _⟩) (by assumption) (by assumption) (by (first | assumption | exact lt_ix (by assumption) (by assumption) (by assumption) | exact lt_ix2 (by assumption) (by assumption) (by assumption) (by assumption) | exact lt_y (by assumption) (by assumption) | exact le_y (by assumption) | exact ge_y (by assumption) | exact cut_le (by assumption) (by assumption) | omega)) rfl (fun _ => rfl) ?_; intro L hL hnL g hgL; (try rw [hL] at h); (try rw [Option.bind_some] at h); (try rw [hnL] at h); cbv)
        | (refine all_build1 e72 (x := ⟨_, _, _⟩) rfl ?_; intro g_b hg_b; cbv))
    | ((with_reducible show ∃ _ : Nat → St → Prop, _)
       first
        | (refine ⟨fun k1 s => ∃ x6 x20 x21 x22 n_x6 g_x6 n_x20 g_x20, spec_AppendCommit.l0 k1 x6 x20 x21 x22 = some (r0, r1) ∧ x6.length = n_x6 ∧ encL e72 x6 = g_x6 ∧ x20.length = n_x20 ∧ encL e72 x20 = g_x20 ∧ s = ⟨⟨43, (upd 43 (upd 43 (upd 43 (upd 43 noT 22 (.val (.int .i64 x22))) 21 (.val (.int .i64 x21))) 20 (.fz 3 n_x20 g_x20)) 6 (.row 0 0 n_x6))⟩, [.row 72 3 n_x6 g_x6]⟩, ?_, [], ?_⟩
           rotate_left
           · cbv; exact ⟨_, [6, 20, 21, 22], by cbv; exact ⟨_, _, _, _, _, _, _, _, h, by first | assumption | rfl, by first | assumption | rfl, by first | assumption | rfl, by first | assumption | rfl, rfl⟩⟩
           clear h
           rintro (_ | k1) s1 ⟨x6, x20, x21, x22, n_x6, g_x6, n_x20, g_x20, h, hn_x6, hg_x6, hn_x20, hg_x20, rfl⟩
           · cases h
           unfold spec_AppendCommit.l0 at h
           (try rw [hn_x6] at h); (try rw [hn_x20] at h); skip
           cbv))
    | ((with_reducible (have h0 : spec_AppendCommit.j0 _ _ _ _ = some _ := h; clear h0))
       first
        | (unfold spec_AppendCommit.j0 at h
           rcases k1 with _ | k1
           · cases h
           (try dsimp only at h); (try simp only [bs, eq_self, if_true, if_false, reduceIte] at h); (try rw [hn_l0] at h); (try rw [show (Nat.cast n_l0 : Int) = _ from (by assumption)] at h); (try rw [show (NatCast.natCast n_l0 : Int) = _ from (by assumption)] at h); (try (simp only [Nat.cast] at h; rw [show (NatCast.natCast n_l0 : Int) = _ from (by assumption)] at h)); (try rw [hn_l1] at h); (try rw [show (Nat.cast n_l1 : Int) = _ from (by assumption)] at h); (try rw [show (NatCast.natCast n_l1 : Int) = _ from (by assumption)] at h); (try (simp only [Nat.cast] at h; rw [show (NatCast.natCast n_l1 : Int) = _ from (by assumption)] at h)); (try rw [hn_c154_0] at h); (try rw [show (Nat.cast n_c154_0 : Int) = _ from (by assumption)] at h); (try rw [show (NatCast.natCast n_c154_0 : Int) = _ from (by assumption)] at h); (try (simp only [Nat.cast] at h; rw [show (NatCast.natCast n_c154_0 : Int) = _ from (by assumption)] at h)); (try rw [hn_c161_0] at h); (try rw [show (Nat.cast n_c161_0 : Int) = _ from (by assumption)] at h); (try rw [show (NatCast.natCast n_c161_0 : Int) = _ from (by assumption)] at h); (try (simp only [Nat.cast] at h; rw [show (NatCast.natCast n_c161_0 : Int) = _ from (by assumption)] at h)); (try rw [hn_c180_0] at h); (try rw [show (Nat.cast n_c180_0 : Int) = _ from (by assumption)] at h); (try rw [show (NatCast.natCast n_c180_0 : Int) = _ from (by assumption)] at h); (try (simp only [Nat.cast] at h; rw [show (NatCast.natCast n_c180_0 : Int) = _ from (by assumption)] at h)); (try rw [hn_x6] at h); (try rw [show (Nat.cast n_x6 : Int) = _ from (by assumption)] at h); (try rw [show (NatCast.natCast n_x6 : Int) = _ from (by assumption)] at h); (try (simp only [Nat.cast] at h; rw [show (NatCast.natCast n_x6 : Int) = _ from (by assumption)] at h)); (try rw [hn_x20] at h); (try rw [show (Nat.cast n_x20 : Int) = _ from (by assumption)] at h); (try rw [show (NatCast.natCast n_x20 : Int) = _ from (by assumption)] at h); (try (simp only [Nat.cast] at h; rw [show (NatCast.natCast n_x20 : Int) = _ from (by assumption)] at h)))
        | (unfold spec_AppendCommit.j0 at h
           rcases k with _ | k
           · cases h
           (try dsimp only at h); (try simp only [bs, eq_self, if_true, if_false, reduceIte] at h); (try rw [hn_l0] at h); (try rw [show (Nat.cast n_l0 : Int) = _ from (by assumption)] at h); (try rw [show (NatCast.natCast n_l0 : Int) = _ from (by assumption)] at h); (try (simp only [Nat.cast] at h; rw [show (NatCast.natCast n_l0 : Int) = _ from (by assumption)] at h)); (try rw [hn_l1] at h); (try rw [show (Nat.cast n_l1 : Int) = _ from (by assumption)] at h); (try rw [show (NatCast.natCast n_l1 : Int) = _ from (by assumption)] at h); (try (simp only [Nat.cast] at h; rw [show (NatCast.natCast n_l1 : Int) = _ from (by assumption)] at h)); (try rw [hn_c154_0] at h); (try rw [show (Nat.cast n_c154_0 : Int) = _ from (by assumption)] at h); (try rw [show (NatCast.natCast n_c154_0 : Int) = _ from (by assumption)] at h); (try (simp only [Nat.cast] at h; rw [show (NatCast.natCast n_c154_0 : Int) = _ from (by assumption)] at h)); (try rw [hn_c161_0] at h); (try rw [show (Nat.cast n_c161_0 : Int) = _ from (by assumption)] at h); (try rw [show (NatCast.natCast n_c161_0 : Int) = _ from (by assumption)] at h); (try (simp only [Nat.cast] at h; rw [show (NatCast.natCast n_c161_0 : Int) = _ from (by assumption)] at h)); (try rw [hn_c180_0] at h); (try rw [show (Nat.cast n_c180_0 : Int) = _ from (by assumption)] at h); (try rw [show (NatCast.natCast n_c180_0 : Int) = _ from (by assumption)] at h); (try (simp only [Nat.cast] at h; rw [show (NatCast.natCast n_c180_0 : Int) = _ from (by assumption)] at h)); (try rw [hn_x6] at h); (try rw [show (Nat.cast n_x6 : Int) = _ from (by assumption)] at h); (try rw [show (NatCast.natCast n_x6 : Int) = _ from (by assumption)] at h); (try (simp only [Nat.cast] at h; rw [show (NatCast.natCast n_x6 : Int) = _ from (by assumption)] at h)); (try rw [hn_x20] at h); (try rw [show (Nat.cast n_x20 : Int) = _ from (by assumption)] at h); (try rw [show (NatCast.natCast n_x20 : Int) = _ from (by assumption)] at h); (try (simp only [Nat.cast] at h; rw [show (NatCast.natCast n_x20 : Int) = _ from (by assumption)] at h))))
    | ((with_reducible show ∀ _ : Bool, _)
       first
        | (refine all_lt ?_ ?_ <;> (intro hd; first | exact absurd rfl hd | ((first | rw [if_pos hd] at h | rw [if_neg hd] at h | rw [if_pos (by omega)] at h | rw [if_neg (by omega)] at h | skip); (first | (rw [decide_eq_true hd] at h; (try simp only [bs, eq_self, if_true, if_false, reduceIte] at h)) | (rw [decide_eq_false hd] at h; (try simp only [bs, eq_self, if_true, if_false, reduceIte] at h)) | skip); cbv)))
        | (refine all_le ?_ ?_ <;> (intro hd; first | exact absurd rfl hd | ((first | rw [if_pos hd] at h | rw [if_neg hd] at h | rw [if_pos (by omega)] at h | rw [if_neg (by omega)] at h | skip); (first | (rw [decide_eq_true hd] at h; (try simp only [bs, eq_self, if_true, if_false, reduceIte] at h)) | (rw [decide_eq_false hd] at h; (try simp only [bs, eq_self, if_true, if_false, reduceIte] at h)) | skip); cbv)))
        | (refine all_beq ?_ ?_ <;> (intro hd; first | exact absurd rfl hd | ((first | rw [if_pos hd] at h | rw [if_neg hd] at h | rw [if_pos (by omega)] at h | rw [if_neg (by omega)] at h | skip); (first | (rw [beq_pos hd] at h; (try simp only [bs, eq_self, if_true, if_false, reduceIte] at h)) | (rw [beq_neg hd] at h; (try simp only [bs, eq_self, if_true, if_false, reduceIte] at h)) | skip); cbv)))
        | (refine all_bne ?_ ?_ <;> (intro hd; first | exact absurd rfl hd | ((first | rw [if_pos hd] at h | rw [if_neg hd] at h | rw [if_pos (by omega)] at h | rw [if_neg (by omega)] at h | skip); (first | (rw [bne_pos hd] at h; (try simp only [bs, eq_self, if_true, if_false, reduceIte] at h)) | (rw [bne_neg hd] at h; (try simp only [bs, eq_self, if_true, if_false, reduceIte] at h)) | skip); cbv)))
        | (refine all_cells rfl ?_ ?_ <;> (intro hd; (first | (rw [hd] at h; (try simp only [bs, eq_self, if_true, if_false, reduceIte] at h)) | skip); cbv))
        | (refine all_cellsN rfl ?_ ?_ <;> (intro hd; (first | (rw [hd] at h; (try simp only [bs, eq_self, if_true, if_false, reduceIte] at h)) | skip); cbv))
        | (refine all_not_true ?_; cbv)
        | (refine all_not_false ?_; cbv)
        | (refine all_not ?_ ?_ <;> (intro hd; subst hd; (try simp only [bs, eq_self, if_true, if_false, reduceIte] at h); cbv))
        | (refine all_bool ?_ ?_ <;> (intro hd; (try simp only [hd, bs, eq_self, if_true, if_false, reduceIte] at h); cbv)))
    | ((with_reducible show ∀ _ : Int, _)
       first
        | (refine all_u0 ?_; cbv)
        | (refine all_mn ?_; intro y hy; (try rw [hy] at h); cbv)
        | (refine all_mx ?_; intro y hy; (try rw [hy] at h); cbv)
        | (refine all_neg ?_; intro y hy; (try rw [hy] at h); cbv)
        | (refine all_shr40 ?_; intro y hy; (try rw [hy] at h); cbv)
        | (refine all_and ?_; intro y hy; (try rw [hy] at h); cbv)
        | (refine all_wrap_old (by assumption) ?_; cbv)
        | (refine all_wrap ?_; intro y hy; (try rw [hy] at h); cbv)
        | (refine all_len_old (by assumption) ?_; cbv)
        | (refine all_len ?_; intro y hy; (try replace hy : ((_ : Nat) : Int) = y := hy); (try rw [hy] at h); (try rw [show (NatCast.natCast _ : Int) = _ from hy] at h); cbv)
        | (refine all_old (α := Int) (by assumption) ?_; cbv)
        | (refine all_eq (α := Int) ?_; intro y hy; (try replace hy : ((_ : Nat) : Int) = y := hy); (try rw [hy] at h); cbv))
    | ((with_reducible show ∀ _ : Nat, _)
       first
        | (refine @all_cut0 ?_ ?_ ?_ ?_ _ _ _ ?_ ?_ ?_ ?_ ?_
           rotate_left 4
           assumption
           assumption
           (first | assumption | exact lt_ix (by assumption) (by assumption) (by assumption) | exact lt_ix2 (by assumption) (by assumption) (by assumption) (by assumption) | exact lt_y (by assumption) (by assumption) | exact le_y (by assumption) | exact ge_y (by assumption) | exact cut_le (by assumption) (by assumption) | omega)
           (first | assumption | exact cut_hi (by assumption) | exact cut_hi2 (by assumption) (by assumption) | exact cut_hi3 (by assumption) | exact cut_hi4 (by assumption) (by assumption) | omega)
           intro D hD n_D hnD g hgD; (try rw [hD] at h); (try rw [hnD] at h); cbv)
        | (refine @all_cutD ?_ ?_ ?_ ?_ _ _ _ _ ?_ ?_ ?_ ?_ ?_ ?_
           rotate_left 4
           assumption
           assumption
           (first | assumption | exact lt_ix (by assumption) (by assumption) (by assumption) | exact lt_ix2 (by assumption) (by assumption) (by assumption) (by assumption) | exact lt_y (by assumption) (by assumption) | exact le_y (by assumption) | exact ge_y (by assumption) | exact cut_le (by assumption) (by assumption) | omega)
           (first | assumption | exact lt_ix (by assumption) (by assumption) (by assumption) | exact lt_ix2 (by assumption) (by assumption) (by assumption) (by assumption) | exact lt_y (by assumption) (by assumption) | exact le_y (by assumption) | exact ge_y (by assumption) | exact cut_le (by assumption) (by assumption) | omega)
           assumption
           intro D hD n_D hnD g hgD; (try rw [hD] at h); (try rw [hnD] at h); cbv)
        | (refine @all_cut ?_ ?_ ?_ ?_ _ _ _ _ ?_ ?_ ?_ ?_ ?_ ?_
           rotate_left 4
           assumption
           assumption
           (first | assumption | exact lt_ix (by assumption) (by assumption) (by assumption) | exact lt_ix2 (by assumption) (by assumption) (by assumption) (by assumption) | exact lt_y (by assumption) (by assumption) | exact le_y (by assumption) | exact ge_y (by assumption) | exact cut_le (by assumption) (by assumption) | omega)
           (first | assumption | exact lt_ix (by assumption) (by assumption) (by assumption) | exact lt_ix2 (by assumption) (by assumption) (by assumption) (by assumption) | exact lt_y (by assumption) (by assumption) | exact le_y (by assumption) | exact ge_y (by assumption) | exact cut_le (by assumption) (by assumption) | omega)
           (first | assumption | exact cut_hi (by assumption) | exact cut_hi2 (by assumption) (by assumption) | exact cut_hi3 (by assumption) | exact cut_hi4 (by assumption) (by assumption) | omega)
           intro D hD n_D hnD g hgD; (try rw [hD] at h); (try rw [hnD] at h); cbv)
        | (refine all_ix0_old (by assumption) ?_; cbv)
        | (refine all_ix0 ?_; intro q hq; (try rw [hq] at h); cbv)
        | (refine all_app (by first | assumption | exact (rfl : encL _ ([] : List _) = _)) (by first | assumption | rfl) (by assumption) (by first | assumption | rfl) ?_; intro L hL n_L hnL g hgL; (try rw [hL] at h); (try rw [Option.bind_some] at h); (try rw [hnL] at h); cbv)
        | (refine all_appF (by first | assumption | exact (rfl : encL _ ([] : List _) = _)) (by first | assumption | rfl) (by assumption) (by first | assumption | rfl) ?_; intro L hL n_L hnL g hgL; (try rw [hL] at h); (try rw [Option.bind_some] at h); (try rw [hnL] at h); cbv)
        | (refine all_appD (by first | assumption | exact (rfl : encL _ ([] : List _) = _)) (by first | assumption | rfl) (by assumption) (by first | assumption | (simp only [List.length_drop]; omega)) ?_; intro L hL n_L hnL g hgL; (try rw [hL] at h); (try rw [Option.bind_some] at h); (try rw [hnL] at h); cbv)
        | (intro off' n' ho hn'; obtain rfl : off' = _ := ho; (try replace hn' := cut_len hn' (by assumption)); (try replace hn' := cut_len0 hn'); cbv)
        | (refine all_eq (α := Nat) ?_; intro y hy; (try rw [hy] at h); cbv))
    | ((with_reducible show ∀ _ : List V, _)
       first
        | (refine @all_rd_old _ _ eI rd ?_ ?_ ?_ ?_ _ _ _ (fun _ _ => rfl) ?_ ?_ ?_ ?_ ?_ ?_ ?_
           rotate_left 4
           assumption
           assumption
           (first | rfl | assumption)
           (first | assumption | exact lt_ix (by assumption) (by assumption) (by assumption) | exact lt_ix2 (by assumption) (by assumption) (by assumption) (by assumption) | exact lt_y (by assumption) (by assumption) | exact le_y (by assumption) | exact ge_y (by assumption) | exact cut_le (by assumption) (by assumption) | omega)
           (first | assumption | exact lt_ix (by assumption) (by assumption) (by assumption) | exact lt_ix2 (by assumption) (by assumption) (by assumption) (by assumption) | exact lt_y (by assumption) (by assumption) | exact le_y (by assumption) | exact ge_y (by assumption) | exact cut_le (by assumption) (by assumption) | omega)
           assumption
           cbv)
        | (refine @all_rd _ _ eI rd ?_ ?_ ?_ _ _ _ (fun _ _ => rfl) ?_ ?_ ?_ ?_ ?_ ?_
           rotate_left 3
           assumption
           assumption
           (first | rfl | assumption)
           (first | assumption | exact lt_ix (by assumption) (by assumption) (by assumption) | exact lt_ix2 (by assumption) (by assumption) (by assumption) (by assumption) | exact lt_y (by assumption) (by assumption) | exact le_y (by assumption) | exact ge_y (by assumption) | exact cut_le (by assumption) (by assumption) | omega)
           (first | assumption | exact lt_ix (by assumption) (by assumption) (by assumption) | exact lt_ix2 (by assumption) (by assumption) (by assumption) (by assumption) | exact lt_y (by assumption) (by assumption) | exact le_y (by assumption) | exact ge_y (by assumption) | exact cut_le (by assumption) (by assumption) | omega)
           intro z hz
           (try rw [hz] at h); cbv)
        | (refine @all_rd_old _ _ e72 rd_T72 ?_ ?_ ?_ ?_ _ _ _ (fun _ _ => rfl) ?_ ?_ ?_ ?_ ?_ ?_ ?_
           rotate_left 4
           assumption
           assumption
           (first | rfl | assumption)
           (first | assumption | exact lt_ix (by assumption) (by assumption) (by assumption) | exact lt_ix2 (by assumption) (by assumption) (by assumption) (by assumption) | exact lt_y (by assumption) (by assumption) | exact le_y (by assumption) | exact ge_y (by assumption) | exact cut_le (by assumption) (by assumption) | omega)
           (first | assumption | exact lt_ix (by assumption) (by assumption) (by assumption) | exact lt_ix2 (by assumption) (by assumption) (by assumption) (by assumption) | exact lt_y (by assumption) (by assumption) | exact le_y (by assumption) | exact ge_y (by assumption) | exact cut_le (by assumption) (by assumption) | omega)
           assumption
           cbv)
        | (refine @all_rd _ _ e72 rd_T72 ?_ ?_ ?_ _ _ _ (fun _ _ => rfl) ?_ ?_ ?_ ?_ ?_ ?_
           rotate_left 3
           assumption
           assumption
           (first | rfl | assumption)
           (first | assumption | exact lt_ix (by assumption) (by assumption) (by assumption) | exact lt_ix2 (by assumption) (by assumption) (by assumption) (by assumption) | exact lt_y (by assumption) (by assumption) | exact le_y (by assumption) | exact ge_y (by assumption) | exact cut_le (by assumption) (by assumption) | omega)
           (first | assumption | exact lt_ix (by assumption) (by assumption) (by assumption) | exact lt_ix2 (by assumption) (by assumption) (by assumption) (by assumption) | exact lt_y (by assumption) (by assumption) | exact le_y (by assumption) | exact ge_y (by assumption) | exact cut_le (by assumption) (by assumption) | omega)
           intro z hz
           (try rw [hz] at h); cbv))
    | (obtain ⟨hc, h'⟩ := if_none h; clear h; have h := h'; clear h'; (try simp only [List.length_nil, Nat.zero_add] at hc))
    | (obtain ⟨hc, h'⟩ := if_none' h; clear h; have h := h'; clear h')
    | (cases h; done)
    | (simp only [Option.bind_some] at h)
    | (simp only [Option.some.injEq, Prod.mk.injEq] at h; obtain ⟨rfl, rfl⟩ := h)
    | ((with_reducible show ∃ _, _)
       refine side (by first | exact enc_same (by assumption) (by assumption) _ | exact take_s1 (by assumption) (by assumption) (by assumption) | exact take_s2 (by assumption) (by assumption) (by assumption) (by assumption) (by assumption) | exact take_s3 (by assumption) (by assumption) (by assumption) | exact take_s4 (by assumption) (by assumption) (by assumption) | (intro k hk; subst_vars; first | eq_refl | exact enc_drop | exact enc_take hk | exact absurd hk (Nat.not_lt_zero k)) | (subst_vars; first | eq_refl | (simp; done) | (simp; omega)) | (have h1 : Int.toNat 1 = 1 := rfl; have h2 := one_le (by assumption) (by assumption); simp only [List.length_append, List.length_nil, List.length_drop, h1] at *; omega) | (simp only [Nat.cast] at *; omega)) ?_; (try cbv))
    | trivial
    | (exfalso; omega)
    | (simp only [beq_iff_eq] at h; first | rw [if_pos (by assumption)] at h | rw [if_neg (by assumption)] at h))

end Go.Proofs.Ythhoobpmjgpkkaa.E
