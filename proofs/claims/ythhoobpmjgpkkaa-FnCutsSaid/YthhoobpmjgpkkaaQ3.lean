/- The functions and what they answer, proved over the engine; printed by a program. -/
import Derived.Test.YthhoobpmjgpkkaaQ2
set_option linter.unusedVariables false
set_option linter.unusedSimpArgs false
set_option maxRecDepth 10000
set_option maxHeartbeats 40000000
namespace Go.Proofs.Ythhoobpmjgpkkaa.E
open Go Go.Sim Go.Proofs Go.RowKit Go.Proofs.YthhoobpmjgpkkaaW.PrintWords Go.Proofs.YthhoobpmjgpkkaaW.PrintMore
def laws_FnCuts.j4 : Nat → List Int → List S72 → Int → Int → Int → Option (Bool)
  | 0, _, _, _, _, _ => none
  | k + 1, y1, y2, y3, y4, y5 => (laws_sameInts.f k y1 y1).bind fun s => (if s = true then ((laws_pSameRecords.f k y2 y2).bind fun s2 => (if s2 = true then ((impl_IsJournalRecord.f y3 y4 y5).bind fun u1 => ((spec_IsJournalRecord.f y3 y4 y5).bind fun u2 => (if u1 = u2 then (some true) else none))) else none)) else none)
def laws_FnCuts.j3 : Nat → List Int → Option (Bool)
  | 0, _ => none
  | k + 1, x1 => (spec_DrawLostAfterCut.f k x1).bind fun a => ((impl_LostAfterCut.f k a.1 a.2).bind fun b => ((spec_LostAfterCut.f k a.1 a.2).bind fun c => (if b.2 = c.2 then (if b.1 = c.1 then ((spec_DrawRecordNumbers.f k x1).bind fun d => ((impl_RecordNumbers.f d.1 d.2.1 d.2.2.1 d.2.2.2).bind fun e => ((spec_RecordNumbers.f d.1 d.2.1 d.2.2.1 d.2.2.2).bind fun g => (if e.2 = g.2 then (if e.1 = g.1 then ((spec_DrawRecoverRecords.f k x1).bind fun y => ((impl_RecoverRecords.f k y).bind fun p => ((spec_RecoverRecords.f k y).bind fun q => (if p.2.2 = q.2.2 then (if p.2.1 = q.2.1 then (if p.1 = q.1 then ((spec_DrawIsJournalRecord.f k x1).bind fun t => (if b.2 = true then (if 0 ≤ b.1 then (if b.1 ≤ 8 then (laws_FnCuts.j4 k e.1 p.1 t.1 t.2.1 t.2.2) else none) else none) else (laws_FnCuts.j4 k e.1 p.1 t.1 t.2.1 t.2.2))) else none) else none) else none)))) else none) else none)))) else none) else none)))
def laws_FnCuts.j2 : Nat → List Int → List Int → Int → List Int → Bool → Option (Bool)
  | 0, _, _, _, _, _ => none
  | k + 1, x1, x20, x21, x23, x24 => if x24 = true then (if 0 ≤ x21 then (if x21 < (x20.length : Int) then ((impl_ChangeNumber.f k x23 x21 (rd x20 x21)).bind fun b => ((impl_RecoverRecords.f k x23).bind fun p => ((spec_RecoverRecords.f k x23).bind fun q => (if p.2.2 = q.2.2 then (if p.2.1 = q.2.1 then (if p.1 = q.1 then ((spec_RecoverRecords.f k x20).bind fun o => (if b.2 = true then ((laws_sameInts.f k b.1 x20).bind fun t => (if t = true then (if p.2.2 = true then (if o.2.2 = true then ((laws_pSameRecords.f k p.1 p.1).bind fun t2 => (if t2 = true then (if (wrap64 (Int.tdiv x21 5)) < (o.1.length : Int) then (if 0 ≤ (wrap64 (Int.tdiv x21 5)) then (if (wrap64 (Int.tdiv x21 5)) ≤ (p.1.length : Int) then (if (wrap64 (Int.tdiv x21 5)) ≤ (o.1.length : Int) then ((laws_pSameRecords.f k (p.1.take ((wrap64 (Int.tdiv x21 5)) : Int).toNat) (o.1.take ((wrap64 (Int.tdiv x21 5)) : Int).toNat)).bind fun t3 => (if t3 = true then (laws_FnCuts.j3 k x1) else none)) else none) else none) else none) else (laws_FnCuts.j3 k x1)) else none)) else none) else none) else none)) else none)) else none) else none) else none)))) else none) else none) else (laws_FnCuts.j3 k x1)
def laws_FnCuts.j1 : Nat → List Int → Option (Bool)
  | 0, _ => none
  | k + 1, x1 => (spec_DrawChangeNumber.f k x1).bind fun d => ((impl_ChangeNumber.f k d.1 d.2.1 d.2.2).bind fun a => ((spec_ChangeNumber.f k d.1 d.2.1 d.2.2).bind fun b => (if a.2 = b.2 then (if a.1 = b.1 then ((laws_sameInts.f k a.1 a.1).bind fun s => (if s = true then (laws_FnCuts.j2 k x1 d.1 d.2.1 a.1 a.2) else none)) else none) else none)))
def laws_FnCuts.j0 : Nat → List Int → List Int → List Int → Bool → Option (Bool)
  | 0, _, _, _, _ => none
  | k + 1, x1, x5, x7, x8 => if x8 = true then ((impl_RecoverRecords.f k x7).bind fun a => ((spec_RecoverRecords.f k x7).bind fun b => (if a.2.2 = b.2.2 then (if a.2.1 = b.2.1 then (if a.1 = b.1 then ((spec_RecoverRecords.f k x5).bind fun w => (if a.2.2 = true then (if w.2.2 = true then ((laws_pSameRecords.f k a.1 a.1).bind fun s => (if s = true then (if w.2.1 < a.2.1 then none else (if (x7.length : Int) < a.2.1 then none else (if a.2.1 = (wrap64 (5 * (a.1.length : Int))) then (if 0 ≤ (a.1.length : Int) then (if (a.1.length : Int) ≤ (w.1.length : Int) then ((laws_pSameRecords.f k (w.1.take ((a.1.length : Int) : Int).toNat) a.1).bind fun t => (if t = true then (laws_FnCuts.j1 k x1) else none)) else none) else none) else none))) else none)) else none) else none)) else none) else none) else none))) else (laws_FnCuts.j1 k x1)
def laws_FnCuts.f (k : Nat) (l0 : List Int) (l1 : List Int) : Option (Bool) := (laws_big.f l0 l1).bind fun b => (if b = true then (some true) else ((spec_DrawCutNumbers.f k l0).bind fun d => ((impl_CutNumbers.f k d.1 d.2).bind fun c1 => ((spec_CutNumbers.f k d.1 d.2).bind fun c2 => (if c1.2 = c2.2 then (if c1.1 = c2.1 then ((laws_sameInts.f k c1.1 c1.1).bind fun s => (if s = true then (laws_FnCuts.j0 k l1 d.1 c1.1 c1.2) else none)) else none) else none)))))

theorem laws_FnCuts_ok (k : Nat) (l0 : List Int) (l1 : List Int) (r0 : Bool) (h : laws_FnCuts.f k l0 l1 = some r0) (n_l0 : Nat) (hn_l0 : l0.length = n_l0) (g_l0 : Nat → List V) (hg_l0 : encL eU l0 = g_l0) (n_l1 : Nat) (hn_l1 : l1.length = n_l1) (g_l1 : Nat → List V) (hg_l1 : encL eU l1 = g_l1)  : CallOK Try.prog 6 [.fz 1 n_l0 g_l0, .fz 1 n_l1 g_l1] [] (.val (.bool r0)) [] := by
  refine CallOK.of_code tabOK Try.func6 rfl rfl ⟨[(4, [1, 5, 6]), (6, [1, 5, 7, 8, 9, 10]), (7, []), (8, [1, 5, 7, 8, 9]), (10, [1, 5, 9, 11, 12, 13]), (12, [1, 9, 11, 12, 13, 14, 15, 16, 17, 18, 19]), (13, []), (14, [1]), (16, [1, 20, 21, 22, 23, 24]), (17, [1, 20, 21, 23, 24, 25, 26]), (18, []), (19, [1, 20, 21, 23, 24, 25]), (21, [1, 20, 21, 23, 25, 27, 28]), (22, [1, 20, 21, 25, 27, 28, 29, 31]), (24, [1, 20, 21, 27, 28, 29, 31, 32, 34, 35, 37]), (25, []), (26, [1]), (28, [1, 38, 39, 40, 41]), (29, [1, 40, 41, 42, 43]), (31, [1, 40, 41, 42, 43, 44, 45, 46, 47]), (33, [1, 40, 41, 42, 43, 46, 47, 48, 49, 50]), (36, [40, 41, 42, 43, 46, 47, 48, 49, 51, 52, 53, 54, 55, 56, 57])], [87, 183]⟩ ?_
  unfold laws_FnCuts.f at h
  obtain ⟨P, hP⟩ : ∃ P, Try.prog = P := ⟨_, rfl⟩
  rw [hP]
  (try rw [hn_l0] at h); (try rw [hn_l1] at h); skip
  cbv
  repeat' (first
    | ((with_reducible show ∃ _, _)
       first
        | (refine ⟨trivial, ?_⟩; cbv)
        | (refine all_show (by first | omega | decide) ?_; cbv)
        | (refine side (by first | with_reducible eq_refl | assumption | (intro _ _; with_reducible eq_refl) | exact lt_ix (by assumption) (by assumption) (by assumption) | exact lt_ix2 (by assumption) (by assumption) (by assumption) (by assumption) | exact lt_y (by assumption) (by assumption) | exact le_y (by assumption) | exact ge_y (by assumption) | exact cut_le (by assumption) (by assumption) | omega | (dsimp only; omega)) ?_; (try cbv))
        | (refine bind_side (Eq.refl _) ?_; (try cbv))
        | (refine agree_side (Eq.refl _) ?_; (try cbv))
        | (refine agree_weak (Eq.refl _) ?_; (try cbv))
        | (refine ⟨.kept, side (Eq.refl _) (side (by first | trivial | exact ⟨clean_enc (by assumption) (by assumption) (fun _ => rfl), trivial⟩) ?_)⟩; cbv)
        | (refine ⟨.dead, ?_⟩; cbv)
        | (refine ⟨Frz.frozen, ?_⟩; cbv)
        | (refine ⟨.row, ?_⟩; cbv)
        | (refine ⟨.still 5, side (by decide +kernel) ?_⟩; cbv)
        | (refine ⟨.chain [], side (by decide +kernel) ?_⟩; cbv)
        | (refine ⟨.still 28, side (by decide +kernel) ?_⟩; cbv)
        | (refine ⟨.chain [(48, 39)], side (by decide +kernel) ?_⟩; cbv))
    | ((with_reducible show ∃ _ : List Nat, _)
       first
        | (refine ⟨[1], ?_⟩; cbv; exact ⟨_, _, _, _, h, by first | assumption | rfl, by first | assumption | rfl, rfl⟩)
        | (refine ⟨[1], ?_⟩; cbv; exact ⟨_, _, _, _, h, by first | assumption | rfl, by first | assumption | rfl, rfl⟩)
        | ((with_reducible (have h0 : Option.bind (laws_big.f _ _) _ = some _ := h; clear h0))
           refine ⟨[], ?_⟩; cbv
           repeat (first | (refine all_show (by first | omega | decide) ?_; cbv) | (refine all_showT (by assumption) (by assumption) (by assumption) (by first | assumption | exact lt_ix (by assumption) (by assumption) (by assumption) | exact lt_ix2 (by assumption) (by assumption) (by assumption) (by assumption) | exact lt_y (by assumption) (by assumption) | exact le_y (by assumption) | exact ge_y (by assumption) | exact cut_le (by assumption) (by assumption) | omega) (by first | assumption | exact cut_hi (by assumption) | exact cut_hi2 (by assumption) (by assumption) | exact cut_hi3 (by assumption) | exact cut_hi4 (by assumption) (by assumption) | omega) ?_; intro D hD hnD g hgD; (try rw [hD] at h); cbv))
           obtain ⟨t, ht, h'⟩ := bind_some h
           clear h; have h := h'; clear h'; (try dsimp only at h)
           refine ⟨_, _, (hP ▸ laws_big_ok _ _ _ ht _ (by first | assumption | rfl) _ (by assumption) _ (by first | assumption | rfl) _ (by assumption)  : CallOK P 38 _ _ _ _), ?_⟩; cbv)
        | ((with_reducible (have h0 : Option.bind (spec_DrawCutNumbers.f _ _) _ = some _ := h; clear h0))
           refine ⟨[], ?_⟩; cbv
           repeat (first | (refine all_show (by first | omega | decide) ?_; cbv) | (refine all_showT (by assumption) (by assumption) (by assumption) (by first | assumption | exact lt_ix (by assumption) (by assumption) (by assumption) | exact lt_ix2 (by assumption) (by assumption) (by assumption) (by assumption) | exact lt_y (by assumption) (by assumption) | exact le_y (by assumption) | exact ge_y (by assumption) | exact cut_le (by assumption) (by assumption) | omega) (by first | assumption | exact cut_hi (by assumption) | exact cut_hi2 (by assumption) (by assumption) | exact cut_hi3 (by assumption) | exact cut_hi4 (by assumption) (by assumption) | omega) ?_; intro D hD hnD g hgD; (try rw [hD] at h); cbv))
           obtain ⟨⟨t0, t1⟩, ht, h'⟩ := bind_some h
           clear h; have h := h'; clear h'; (try dsimp only at h)
           obtain ⟨n_c39_0, hn_c39_0⟩ : ∃ n, t0.length = n := ⟨_, rfl⟩; obtain ⟨g_t, hg_c39_0⟩ : ∃ g, encL eI t0 = g := ⟨_, rfl⟩; (try rw [hn_c39_0] at h)
           refine ⟨_, _, (hP ▸ spec_DrawCutNumbers_ok _ _ _ _ ht _ (by first | assumption | rfl) _ (by assumption) _ hn_c39_0 _ hg_c39_0 : CallOK P 39 _ _ _ _), ?_⟩; cbv)
        | ((with_reducible (have h0 : Option.bind (impl_CutNumbers.f _ _ _) _ = some _ := h; clear h0))
           refine ⟨[], ?_⟩; cbv
           repeat (first | (refine all_show (by first | omega | decide) ?_; cbv) | (refine all_showT (by assumption) (by assumption) (by assumption) (by first | assumption | exact lt_ix (by assumption) (by assumption) (by assumption) | exact lt_ix2 (by assumption) (by assumption) (by assumption) (by assumption) | exact lt_y (by assumption) (by assumption) | exact le_y (by assumption) | exact ge_y (by assumption) | exact cut_le (by assumption) (by assumption) | omega) (by first | assumption | exact cut_hi (by assumption) | exact cut_hi2 (by assumption) (by assumption) | exact cut_hi3 (by assumption) | exact cut_hi4 (by assumption) (by assumption) | omega) ?_; intro D hD hnD g hgD; (try rw [hD] at h); cbv))
           obtain ⟨⟨t0, t1⟩, ht, h'⟩ := bind_some h
           clear h; have h := h'; clear h'; (try dsimp only at h)
           obtain ⟨n_c40_0, hn_c40_0⟩ : ∃ n, t0.length = n := ⟨_, rfl⟩; obtain ⟨g_t, hg_c40_0⟩ : ∃ g, encL eI t0 = g := ⟨_, rfl⟩; (try rw [hn_c40_0] at h)
           refine ⟨_, _, (hP ▸ impl_CutNumbers_ok _ _ _ _ _ ht _ (by first | assumption | rfl) _ (by assumption) _ hn_c40_0 _ hg_c40_0 : CallOK P 40 _ _ _ _), ?_⟩; cbv)
        | ((with_reducible (have h0 : Option.bind (spec_CutNumbers.f _ _ _) _ = some _ := h; clear h0))
           refine ⟨[], ?_⟩; cbv
           repeat (first | (refine all_show (by first | omega | decide) ?_; cbv) | (refine all_showT (by assumption) (by assumption) (by assumption) (by first | assumption | exact lt_ix (by assumption) (by assumption) (by assumption) | exact lt_ix2 (by assumption) (by assumption) (by assumption) (by assumption) | exact lt_y (by assumption) (by assumption) | exact le_y (by assumption) | exact ge_y (by assumption) | exact cut_le (by assumption) (by assumption) | omega) (by first | assumption | exact cut_hi (by assumption) | exact cut_hi2 (by assumption) (by assumption) | exact cut_hi3 (by assumption) | exact cut_hi4 (by assumption) (by assumption) | omega) ?_; intro D hD hnD g hgD; (try rw [hD] at h); cbv))
           obtain ⟨⟨t0, t1⟩, ht, h'⟩ := bind_some h
           clear h; have h := h'; clear h'; (try dsimp only at h)
           obtain ⟨n_c41_0, hn_c41_0⟩ : ∃ n, t0.length = n := ⟨_, rfl⟩; obtain ⟨g_t, hg_c41_0⟩ : ∃ g, encL eI t0 = g := ⟨_, rfl⟩; (try rw [hn_c41_0] at h)
           refine ⟨_, _, (hP ▸ spec_CutNumbers_ok _ _ _ _ _ ht _ (by first | assumption | rfl) _ (by assumption) _ hn_c41_0 _ hg_c41_0 : CallOK P 41 _ _ _ _), ?_⟩; cbv)
        | ((with_reducible (have h0 : Option.bind (laws_sameInts.f _ _ _) _ = some _ := h; clear h0))
           refine ⟨[], ?_⟩; cbv
           repeat (first | (refine all_show (by first | omega | decide) ?_; cbv) | (refine all_showT (by assumption) (by assumption) (by assumption) (by first | assumption | exact lt_ix (by assumption) (by assumption) (by assumption) | exact lt_ix2 (by assumption) (by assumption) (by assumption) (by assumption) | exact lt_y (by assumption) (by assumption) | exact le_y (by assumption) | exact ge_y (by assumption) | exact cut_le (by assumption) (by assumption) | omega) (by first | assumption | exact cut_hi (by assumption) | exact cut_hi2 (by assumption) (by assumption) | exact cut_hi3 (by assumption) | exact cut_hi4 (by assumption) (by assumption) | omega) ?_; intro D hD hnD g hgD; (try rw [hD] at h); cbv))
           obtain ⟨t, ht, h'⟩ := bind_some h
           clear h; have h := h'; clear h'; (try dsimp only at h)
           refine ⟨_, _, (hP ▸ laws_sameInts_ok _ _ _ _ ht _ (by first | assumption | rfl) _ (by assumption) _ (by first | assumption | rfl) _ (by assumption)  : CallOK P 42 _ _ _ _), ?_⟩; cbv)
        | ((with_reducible (have h0 : Option.bind (impl_RecoverRecords.f _ _) _ = some _ := h; clear h0))
           refine ⟨[], ?_⟩; cbv
           repeat (first | (refine all_show (by first | omega | decide) ?_; cbv) | (refine all_showT (by assumption) (by assumption) (by assumption) (by first | assumption | exact lt_ix (by assumption) (by assumption) (by assumption) | exact lt_ix2 (by assumption) (by assumption) (by assumption) (by assumption) | exact lt_y (by assumption) (by assumption) | exact le_y (by assumption) | exact ge_y (by assumption) | exact cut_le (by assumption) (by assumption) | omega) (by first | assumption | exact cut_hi (by assumption) | exact cut_hi2 (by assumption) (by assumption) | exact cut_hi3 (by assumption) | exact cut_hi4 (by assumption) (by assumption) | omega) ?_; intro D hD hnD g hgD; (try rw [hD] at h); cbv))
           obtain ⟨⟨t0, t1, t2⟩, ht, h'⟩ := bind_some h
           clear h; have h := h'; clear h'; (try dsimp only at h)
           obtain ⟨n_c43_0, hn_c43_0⟩ : ∃ n, t0.length = n := ⟨_, rfl⟩; obtain ⟨g_t, hg_c43_0⟩ : ∃ g, encL e72 t0 = g := ⟨_, rfl⟩; (try rw [hn_c43_0] at h)
           refine ⟨_, _, (hP ▸ impl_RecoverRecords_ok _ _ _ _ _ ht _ (by first | assumption | rfl) _ (by assumption) _ hn_c43_0 _ hg_c43_0 : CallOK P 43 _ _ _ _), ?_⟩; cbv)
        | ((with_reducible (have h0 : Option.bind (spec_RecoverRecords.f _ _) _ = some _ := h; clear h0))
           refine ⟨[], ?_⟩; cbv
           repeat (first | (refine all_show (by first | omega | decide) ?_; cbv) | (refine all_showT (by assumption) (by assumption) (by assumption) (by first | assumption | exact lt_ix (by assumption) (by assumption) (by assumption) | exact lt_ix2 (by assumption) (by assumption) (by assumption) (by assumption) | exact lt_y (by assumption) (by assumption) | exact le_y (by assumption) | exact ge_y (by assumption) | exact cut_le (by assumption) (by assumption) | omega) (by first | assumption | exact cut_hi (by assumption) | exact cut_hi2 (by assumption) (by assumption) | exact cut_hi3 (by assumption) | exact cut_hi4 (by assumption) (by assumption) | omega) ?_; intro D hD hnD g hgD; (try rw [hD] at h); cbv))
           obtain ⟨⟨t0, t1, t2⟩, ht, h'⟩ := bind_some h
           clear h; have h := h'; clear h'; (try dsimp only at h)
           obtain ⟨n_c44_0, hn_c44_0⟩ : ∃ n, t0.length = n := ⟨_, rfl⟩; obtain ⟨g_t, hg_c44_0⟩ : ∃ g, encL e72 t0 = g := ⟨_, rfl⟩; (try rw [hn_c44_0] at h)
           refine ⟨_, _, (hP ▸ spec_RecoverRecords_ok _ _ _ _ _ ht _ (by first | assumption | rfl) _ (by assumption) _ hn_c44_0 _ hg_c44_0 : CallOK P 44 _ _ _ _), ?_⟩; cbv)
        | ((with_reducible (have h0 : Option.bind (laws_pSameRecords.f _ _ _) _ = some _ := h; clear h0))
           refine ⟨[], ?_⟩; cbv
           repeat (first | (refine all_show (by first | omega | decide) ?_; cbv) | (refine all_showT (by assumption) (by assumption) (by assumption) (by first | assumption | exact lt_ix (by assumption) (by assumption) (by assumption) | exact lt_ix2 (by assumption) (by assumption) (by assumption) (by assumption) | exact lt_y (by assumption) (by assumption) | exact le_y (by assumption) | exact ge_y (by assumption) | exact cut_le (by assumption) (by assumption) | omega) (by first | assumption | exact cut_hi (by assumption) | exact cut_hi2 (by assumption) (by assumption) | exact cut_hi3 (by assumption) | exact cut_hi4 (by assumption) (by assumption) | omega) ?_; intro D hD hnD g hgD; (try rw [hD] at h); cbv))
           obtain ⟨t, ht, h'⟩ := bind_some h
           clear h; have h := h'; clear h'; (try dsimp only at h)
           refine ⟨_, _, (hP ▸ laws_pSameRecords_ok _ _ _ _ ht _ (by first | assumption | rfl) _ (by assumption) _ (by first | assumption | rfl) _ (by assumption)  : CallOK P 45 _ _ _ _), ?_⟩; cbv)
        | ((with_reducible (have h0 : Option.bind (spec_DrawChangeNumber.f _ _) _ = some _ := h; clear h0))
           refine ⟨[], ?_⟩; cbv
           repeat (first | (refine all_show (by first | omega | decide) ?_; cbv) | (refine all_showT (by assumption) (by assumption) (by assumption) (by first | assumption | exact lt_ix (by assumption) (by assumption) (by assumption) | exact lt_ix2 (by assumption) (by assumption) (by assumption) (by assumption) | exact lt_y (by assumption) (by assumption) | exact le_y (by assumption) | exact ge_y (by assumption) | exact cut_le (by assumption) (by assumption) | omega) (by first | assumption | exact cut_hi (by assumption) | exact cut_hi2 (by assumption) (by assumption) | exact cut_hi3 (by assumption) | exact cut_hi4 (by assumption) (by assumption) | omega) ?_; intro D hD hnD g hgD; (try rw [hD] at h); cbv))
           obtain ⟨⟨t0, t1, t2⟩, ht, h'⟩ := bind_some h
           clear h; have h := h'; clear h'; (try dsimp only at h)
           obtain ⟨n_c46_0, hn_c46_0⟩ : ∃ n, t0.length = n := ⟨_, rfl⟩; obtain ⟨g_t, hg_c46_0⟩ : ∃ g, encL eI t0 = g := ⟨_, rfl⟩; (try rw [hn_c46_0] at h)
           refine ⟨_, _, (hP ▸ spec_DrawChangeNumber_ok _ _ _ _ _ ht _ (by first | assumption | rfl) _ (by assumption) _ hn_c46_0 _ hg_c46_0 : CallOK P 46 _ _ _ _), ?_⟩; cbv)
        | ((with_reducible (have h0 : Option.bind (impl_ChangeNumber.f _ _ _ _) _ = some _ := h; clear h0))
           refine ⟨[], ?_⟩; cbv
           repeat (first | (refine all_show (by first | omega | decide) ?_; cbv) | (refine all_showT (by assumption) (by assumption) (by assumption) (by first | assumption | exact lt_ix (by assumption) (by assumption) (by assumption) | exact lt_ix2 (by assumption) (by assumption) (by assumption) (by assumption) | exact lt_y (by assumption) (by assumption) | exact le_y (by assumption) | exact ge_y (by assumption) | exact cut_le (by assumption) (by assumption) | omega) (by first | assumption | exact cut_hi (by assumption) | exact cut_hi2 (by assumption) (by assumption) | exact cut_hi3 (by assumption) | exact cut_hi4 (by assumption) (by assumption) | omega) ?_; intro D hD hnD g hgD; (try rw [hD] at h); cbv))
           obtain ⟨⟨t0, t1⟩, ht, h'⟩ := bind_some h
           clear h; have h := h'; clear h'; (try dsimp only at h)
           obtain ⟨n_c47_0, hn_c47_0⟩ : ∃ n, t0.length = n := ⟨_, rfl⟩; obtain ⟨g_t, hg_c47_0⟩ : ∃ g, encL eI t0 = g := ⟨_, rfl⟩; (try rw [hn_c47_0] at h)
           refine ⟨_, _, (hP ▸ impl_ChangeNumber_ok _ _ _ _ _ _ ht _ (by first | assumption | rfl) _ (by assumption) _ hn_c47_0 _ hg_c47_0 : CallOK P 47 _ _ _ _), ?_⟩; cbv)
        | ((with_reducible (have h0 : Option.bind (spec_ChangeNumber.f _ _ _ _) _ = some _ := h; clear h0))
           refine ⟨[], ?_⟩; cbv
           repeat (first | (refine all_show (by first | omega | decide) ?_; cbv) | (refine all_showT (by assumption) (by assumption) (by assumption) (by first | assumption | exact lt_ix (by assumption) (by assumption) (by assumption) | exact lt_ix2 (by assumption) (by assumption) (by assumption) (by assumption) | exact lt_y (by assumption) (by assumption) | exact le_y (by assumption) | exact ge_y (by assumption) | exact cut_le (by assumption) (by assumption) | omega) (by first | assumption | exact cut_hi (by assumption) | exact cut_hi2 (by assumption) (by assumption) | exact cut_hi3 (by assumption) | exact cut_hi4 (by assumption) (by assumption) | omega) ?_; intro D hD hnD g hgD; (try rw [hD] at h); cbv))
           obtain ⟨⟨t0, t1⟩, ht, h'⟩ := bind_some h
           clear h; have h := h'; clear h'; (try dsimp only at h)
           obtain ⟨n_c48_0, hn_c48_0⟩ : ∃ n, t0.length = n := ⟨_, rfl⟩; obtain ⟨g_t, hg_c48_0⟩ : ∃ g, encL eI t0 = g := ⟨_, rfl⟩; (try rw [hn_c48_0] at h)
           refine ⟨_, _, (hP ▸ spec_ChangeNumber_ok _ _ _ _ _ _ ht _ (by first | assumption | rfl) _ (by assumption) _ hn_c48_0 _ hg_c48_0 : CallOK P 48 _ _ _ _), ?_⟩; cbv)
        | ((with_reducible (have h0 : Option.bind (spec_DrawLostAfterCut.f _ _) _ = some _ := h; clear h0))
           refine ⟨[], ?_⟩; cbv
           repeat (first | (refine all_show (by first | omega | decide) ?_; cbv) | (refine all_showT (by assumption) (by assumption) (by assumption) (by first | assumption | exact lt_ix (by assumption) (by assumption) (by assumption) | exact lt_ix2 (by assumption) (by assumption) (by assumption) (by assumption) | exact lt_y (by assumption) (by assumption) | exact le_y (by assumption) | exact ge_y (by assumption) | exact cut_le (by assumption) (by assumption) | omega) (by first | assumption | exact cut_hi (by assumption) | exact cut_hi2 (by assumption) (by assumption) | exact cut_hi3 (by assumption) | exact cut_hi4 (by assumption) (by assumption) | omega) ?_; intro D hD hnD g hgD; (try rw [hD] at h); cbv))
           obtain ⟨⟨t0, t1⟩, ht, h'⟩ := bind_some h
           clear h; have h := h'; clear h'; (try dsimp only at h)
           obtain ⟨n_c49_0, hn_c49_0⟩ : ∃ n, t0.length = n := ⟨_, rfl⟩; obtain ⟨g_t, hg_c49_0⟩ : ∃ g, encL e72 t0 = g := ⟨_, rfl⟩; (try rw [hn_c49_0] at h)
           refine ⟨_, _, (hP ▸ spec_DrawLostAfterCut_ok _ _ _ _ ht _ (by first | assumption | rfl) _ (by assumption) _ hn_c49_0 _ hg_c49_0 : CallOK P 49 _ _ _ _), ?_⟩; cbv)
        | ((with_reducible (have h0 : Option.bind (impl_LostAfterCut.f _ _ _) _ = some _ := h; clear h0))
           refine ⟨[], ?_⟩; cbv
           repeat (first | (refine all_show (by first | omega | decide) ?_; cbv) | (refine all_showT (by assumption) (by assumption) (by assumption) (by first | assumption | exact lt_ix (by assumption) (by assumption) (by assumption) | exact lt_ix2 (by assumption) (by assumption) (by assumption) (by assumption) | exact lt_y (by assumption) (by assumption) | exact le_y (by assumption) | exact ge_y (by assumption) | exact cut_le (by assumption) (by assumption) | omega) (by first | assumption | exact cut_hi (by assumption) | exact cut_hi2 (by assumption) (by assumption) | exact cut_hi3 (by assumption) | exact cut_hi4 (by assumption) (by assumption) | omega) ?_; intro D hD hnD g hgD; (try rw [hD] at h); cbv))
           obtain ⟨⟨t0, t1⟩, ht, h'⟩ := bind_some h
           clear h; have h := h'; clear h'; (try dsimp only at h)
           refine ⟨_, _, (hP ▸ impl_LostAfterCut_ok _ _ _ _ _ ht _ (by first | assumption | rfl) _ (by assumption)  : CallOK P 50 _ _ _ _), ?_⟩; cbv)
        | ((with_reducible (have h0 : Option.bind (spec_LostAfterCut.f _ _ _) _ = some _ := h; clear h0))
           refine ⟨[], ?_⟩; cbv
           repeat (first | (refine all_show (by first | omega | decide) ?_; cbv) | (refine all_showT (by assumption) (by assumption) (by assumption) (by first | assumption | exact lt_ix (by assumption) (by assumption) (by assumption) | exact lt_ix2 (by assumption) (by assumption) (by assumption) (by assumption) | exact lt_y (by assumption) (by assumption) | exact le_y (by assumption) | exact ge_y (by assumption) | exact cut_le (by assumption) (by assumption) | omega) (by first | assumption | exact cut_hi (by assumption) | exact cut_hi2 (by assumption) (by assumption) | exact cut_hi3 (by assumption) | exact cut_hi4 (by assumption) (by assumption) | omega) ?_; intro D hD hnD g hgD; (try rw [hD] at h); cbv))
           obtain ⟨⟨t0, t1⟩, ht, h'⟩ := bind_some h
           clear h; have h := h'; clear h'; (try dsimp only at h)
           refine ⟨_, _, (hP ▸ spec_LostAfterCut_ok _ _ _ _ _ ht _ (by first | assumption | rfl) _ (by assumption)  : CallOK P 51 _ _ _ _), ?_⟩; cbv)
        | ((with_reducible (have h0 : Option.bind (spec_DrawRecordNumbers.f _ _) _ = some _ := h; clear h0))
           refine ⟨[], ?_⟩; cbv
           repeat (first | (refine all_show (by first | omega | decide) ?_; cbv) | (refine all_showT (by assumption) (by assumption) (by assumption) (by first | assumption | exact lt_ix (by assumption) (by assumption) (by assumption) | exact lt_ix2 (by assumption) (by assumption) (by assumption) (by assumption) | exact lt_y (by assumption) (by assumption) | exact le_y (by assumption) | exact ge_y (by assumption) | exact cut_le (by assumption) (by assumption) | omega) (by first | assumption | exact cut_hi (by assumption) | exact cut_hi2 (by assumption) (by assumption) | exact cut_hi3 (by assumption) | exact cut_hi4 (by assumption) (by assumption) | omega) ?_; intro D hD hnD g hgD; (try rw [hD] at h); cbv))
           obtain ⟨⟨t0, t1, t2, t3⟩, ht, h'⟩ := bind_some h
           clear h; have h := h'; clear h'; (try dsimp only at h)
           refine ⟨_, _, (hP ▸ spec_DrawRecordNumbers_ok _ _ _ _ _ _ ht _ (by first | assumption | rfl) _ (by assumption)  : CallOK P 52 _ _ _ _), ?_⟩; cbv)
        | ((with_reducible (have h0 : Option.bind (impl_RecordNumbers.f _ _ _ _) _ = some _ := h; clear h0))
           refine ⟨[], ?_⟩; cbv
           repeat (first | (refine all_show (by first | omega | decide) ?_; cbv) | (refine all_showT (by assumption) (by assumption) (by assumption) (by first | assumption | exact lt_ix (by assumption) (by assumption) (by assumption) | exact lt_ix2 (by assumption) (by assumption) (by assumption) (by assumption) | exact lt_y (by assumption) (by assumption) | exact le_y (by assumption) | exact ge_y (by assumption) | exact cut_le (by assumption) (by assumption) | omega) (by first | assumption | exact cut_hi (by assumption) | exact cut_hi2 (by assumption) (by assumption) | exact cut_hi3 (by assumption) | exact cut_hi4 (by assumption) (by assumption) | omega) ?_; intro D hD hnD g hgD; (try rw [hD] at h); cbv))
           obtain ⟨⟨t0, t1⟩, ht, h'⟩ := bind_some h
           clear h; have h := h'; clear h'; (try dsimp only at h)
           obtain ⟨n_c53_0, hn_c53_0⟩ : ∃ n, t0.length = n := ⟨_, rfl⟩; obtain ⟨g_t, hg_c53_0⟩ : ∃ g, encL eI t0 = g := ⟨_, rfl⟩; (try rw [hn_c53_0] at h)
           refine ⟨_, _, (hP ▸ impl_RecordNumbers_ok _ _ _ _ _ _ ht  _ hn_c53_0 _ hg_c53_0 : CallOK P 53 _ _ _ _), ?_⟩; cbv)
        | ((with_reducible (have h0 : Option.bind (spec_RecordNumbers.f _ _ _ _) _ = some _ := h; clear h0))
           refine ⟨[], ?_⟩; cbv
           repeat (first | (refine all_show (by first | omega | decide) ?_; cbv) | (refine all_showT (by assumption) (by assumption) (by assumption) (by first | assumption | exact lt_ix (by assumption) (by assumption) (by assumption) | exact lt_ix2 (by assumption) (by assumption) (by assumption) (by assumption) | exact lt_y (by assumption) (by assumption) | exact le_y (by assumption) | exact ge_y (by assumption) | exact cut_le (by assumption) (by assumption) | omega) (by first | assumption | exact cut_hi (by assumption) | exact cut_hi2 (by assumption) (by assumption) | exact cut_hi3 (by assumption) | exact cut_hi4 (by assumption) (by assumption) | omega) ?_; intro D hD hnD g hgD; (try rw [hD] at h); cbv))
           obtain ⟨⟨t0, t1⟩, ht, h'⟩ := bind_some h
           clear h; have h := h'; clear h'; (try dsimp only at h)
           obtain ⟨n_c54_0, hn_c54_0⟩ : ∃ n, t0.length = n := ⟨_, rfl⟩; obtain ⟨g_t, hg_c54_0⟩ : ∃ g, encL eI t0 = g := ⟨_, rfl⟩; (try rw [hn_c54_0] at h)
           refine ⟨_, _, (hP ▸ spec_RecordNumbers_ok _ _ _ _ _ _ ht  _ hn_c54_0 _ hg_c54_0 : CallOK P 54 _ _ _ _), ?_⟩; cbv)
        | ((with_reducible (have h0 : Option.bind (spec_DrawRecoverRecords.f _ _) _ = some _ := h; clear h0))
           refine ⟨[], ?_⟩; cbv
           repeat (first | (refine all_show (by first | omega | decide) ?_; cbv) | (refine all_showT (by assumption) (by assumption) (by assumption) (by first | assumption | exact lt_ix (by assumption) (by assumption) (by assumption) | exact lt_ix2 (by assumption) (by assumption) (by assumption) (by assumption) | exact lt_y (by assumption) (by assumption) | exact le_y (by assumption) | exact ge_y (by assumption) | exact cut_le (by assumption) (by assumption) | omega) (by first | assumption | exact cut_hi (by assumption) | exact cut_hi2 (by assumption) (by assumption) | exact cut_hi3 (by assumption) | exact cut_hi4 (by assumption) (by assumption) | omega) ?_; intro D hD hnD g hgD; (try rw [hD] at h); cbv))
           obtain ⟨t, ht, h'⟩ := bind_some h
           clear h; have h := h'; clear h'; (try dsimp only at h)
           obtain ⟨n_c55_0, hn_c55_0⟩ : ∃ n, t.length = n := ⟨_, rfl⟩; obtain ⟨g_t, hg_c55_0⟩ : ∃ g, encL eI t = g := ⟨_, rfl⟩; (try rw [hn_c55_0] at h)
           refine ⟨_, _, (hP ▸ spec_DrawRecoverRecords_ok _ _ _ ht _ (by first | assumption | rfl) _ (by assumption) _ hn_c55_0 _ hg_c55_0 : CallOK P 55 _ _ _ _), ?_⟩; cbv)
        | ((with_reducible (have h0 : Option.bind (spec_DrawIsJournalRecord.f _ _) _ = some _ := h; clear h0))
           refine ⟨[], ?_⟩; cbv
           repeat (first | (refine all_show (by first | omega | decide) ?_; cbv) | (refine all_showT (by assumption) (by assumption) (by assumption) (by first | assumption | exact lt_ix (by assumption) (by assumption) (by assumption) | exact lt_ix2 (by assumption) (by assumption) (by assumption) (by assumption) | exact lt_y (by assumption) (by assumption) | exact le_y (by assumption) | exact ge_y (by assumption) | exact cut_le (by assumption) (by assumption) | omega) (by first | assumption | exact cut_hi (by assumption) | exact cut_hi2 (by assumption) (by assumption) | exact cut_hi3 (by assumption) | exact cut_hi4 (by assumption) (by assumption) | omega) ?_; intro D hD hnD g hgD; (try rw [hD] at h); cbv))
           obtain ⟨⟨t0, t1, t2⟩, ht, h'⟩ := bind_some h
           clear h; have h := h'; clear h'; (try dsimp only at h)
           refine ⟨_, _, (hP ▸ spec_DrawIsJournalRecord_ok _ _ _ _ _ ht _ (by first | assumption | rfl) _ (by assumption)  : CallOK P 56 _ _ _ _), ?_⟩; cbv)
        | ((with_reducible (have h0 : Option.bind (impl_IsJournalRecord.f _ _ _) _ = some _ := h; clear h0))
           refine ⟨[], ?_⟩; cbv
           repeat (first | (refine all_show (by first | omega | decide) ?_; cbv) | (refine all_showT (by assumption) (by assumption) (by assumption) (by first | assumption | exact lt_ix (by assumption) (by assumption) (by assumption) | exact lt_ix2 (by assumption) (by assumption) (by assumption) (by assumption) | exact lt_y (by assumption) (by assumption) | exact le_y (by assumption) | exact ge_y (by assumption) | exact cut_le (by assumption) (by assumption) | omega) (by first | assumption | exact cut_hi (by assumption) | exact cut_hi2 (by assumption) (by assumption) | exact cut_hi3 (by assumption) | exact cut_hi4 (by assumption) (by assumption) | omega) ?_; intro D hD hnD g hgD; (try rw [hD] at h); cbv))
           obtain ⟨t, ht, h'⟩ := bind_some h
           clear h; have h := h'; clear h'; (try dsimp only at h)
           refine ⟨_, _, (hP ▸ impl_IsJournalRecord_ok _ _ _ _ ht   : CallOK P 57 _ _ _ _), ?_⟩; cbv)
        | ((with_reducible (have h0 : Option.bind (spec_IsJournalRecord.f _ _ _) _ = some _ := h; clear h0))
           refine ⟨[], ?_⟩; cbv
           repeat (first | (refine all_show (by first | omega | decide) ?_; cbv) | (refine all_showT (by assumption) (by assumption) (by assumption) (by first | assumption | exact lt_ix (by assumption) (by assumption) (by assumption) | exact lt_ix2 (by assumption) (by assumption) (by assumption) (by assumption) | exact lt_y (by assumption) (by assumption) | exact le_y (by assumption) | exact ge_y (by assumption) | exact cut_le (by assumption) (by assumption) | omega) (by first | assumption | exact cut_hi (by assumption) | exact cut_hi2 (by assumption) (by assumption) | exact cut_hi3 (by assumption) | exact cut_hi4 (by assumption) (by assumption) | omega) ?_; intro D hD hnD g hgD; (try rw [hD] at h); cbv))
           obtain ⟨t, ht, h'⟩ := bind_some h
           clear h; have h := h'; clear h'; (try dsimp only at h)
           refine ⟨_, _, (hP ▸ spec_IsJournalRecord_ok _ _ _ _ ht   : CallOK P 58 _ _ _ _), ?_⟩; cbv))
    | ((with_reducible show ∃ _ : Nat → List V, _)
       first
        | (refine all_g0 ?_; cbv)
        | (refine all_putS eI (by assumption) (by assumption) (by (first | assumption | exact lt_ix (by assumption) (by assumption) (by assumption) | exact lt_ix2 (by assumption) (by assumption) (by assumption) (by assumption) | exact lt_y (by assumption) (by assumption) | exact le_y (by assumption) | exact ge_y (by assumption) | exact cut_le (by assumption) (by assumption) | omega)) rfl (fun _ => rfl) ?_; intro L hL hnL g hgL; (try rw [hL] at h); (try rw [Option.bind_some] at h); (try rw [hnL] at h); cbv)
        | (refine all_putS eU (by assumption) (by assumption) (by (first | assumption | exact lt_ix (by assumption) (by assumption) (by assumption) | exact lt_ix2 (by assumption) (by assumption) (by assumption) (by assumption) | exact lt_y (by assumption) (by assumption) | exact le_y (by assumption) | exact ge_y (by assumption) | exact cut_le (by assumption) (by assumption) | omega)) rfl (fun _ => rfl) ?_; intro L hL hnL g hgL; (try rw [hL] at h); (try rw [Option.bind_some] at h); (try rw [hnL] at h); cbv)
        | (refine all_putS e72 (x := ⟨_, _, _⟩) (by assumption) (by assumption) (by (first | assumption | exact lt_ix (by assumption) (by assumption) (by assumption) | exact lt_ix2 (by assumption) (by assumption) (by assumption) (by assumption) | exact lt_y (by assumption) (by assumption) | exact le_y (by assumption) | exact ge_y (by assumption) | exact cut_le (by assumption) (by assumption) | omega)) rfl (fun _ => rfl) ?_; intro L hL hnL g hgL; (try rw [hL] at h); (try rw [Option.bind_some] at h); (try rw [hnL] at h); cbv)
        | (refine all_build1 e72 (x := ⟨_, _, _⟩) rfl ?_; intro g_b hg_b; cbv))
    | ((with_reducible show ∃ _ : Jt _, _)
       first
        | ((with_reducible show ∃ _ : Jt 183, _)
           refine ⟨fun s => ∃ k x1 n_x1 g_x1, laws_FnCuts.j3 k x1 = some r0 ∧ x1.length = n_x1 ∧ encL eU x1 = g_x1 ∧ s = ⟨⟨359, (upd 359 noT 1 (.fz 1 n_x1 g_x1))⟩, []⟩, ?_, ?_⟩
           clear h; rintro s1 ⟨k, x1, n_x1, g_x1, h, hn_x1, hg_x1, rfl⟩; rcases k with _ | k; (· cases h); unfold laws_FnCuts.j3 at h; (try dsimp only at h)
           all_goals cbv)
        | ((with_reducible show ∃ _ : Jt 87, _)
           refine ⟨fun s => ∃ k x1 n_x1 g_x1, laws_FnCuts.j1 k x1 = some r0 ∧ x1.length = n_x1 ∧ encL eU x1 = g_x1 ∧ s = ⟨⟨359, (upd 359 noT 1 (.fz 1 n_x1 g_x1))⟩, []⟩, ?_, ?_⟩
           clear h; rintro s1 ⟨k, x1, n_x1, g_x1, h, hn_x1, hg_x1, rfl⟩; rcases k with _ | k; (· cases h); unfold laws_FnCuts.j1 at h; (try dsimp only at h)
           all_goals cbv))
    | ((with_reducible (have h0 : laws_FnCuts.j0 _ _ _ _ _ = some _ := h; clear h0))
       rcases k with _ | k
       · cases h
       unfold laws_FnCuts.j0 at h
       (try dsimp only at h); (try simp only [bs, eq_self, if_true, if_false, reduceIte] at h); (try rw [hn_l0] at h); (try rw [show (Nat.cast n_l0 : Int) = _ from (by assumption)] at h); (try rw [show (NatCast.natCast n_l0 : Int) = _ from (by assumption)] at h); (try (simp only [Nat.cast] at h; rw [show (NatCast.natCast n_l0 : Int) = _ from (by assumption)] at h)); (try rw [hn_l1] at h); (try rw [show (Nat.cast n_l1 : Int) = _ from (by assumption)] at h); (try rw [show (NatCast.natCast n_l1 : Int) = _ from (by assumption)] at h); (try (simp only [Nat.cast] at h; rw [show (NatCast.natCast n_l1 : Int) = _ from (by assumption)] at h)); (try rw [hn_c39_0] at h); (try rw [show (Nat.cast n_c39_0 : Int) = _ from (by assumption)] at h); (try rw [show (NatCast.natCast n_c39_0 : Int) = _ from (by assumption)] at h); (try (simp only [Nat.cast] at h; rw [show (NatCast.natCast n_c39_0 : Int) = _ from (by assumption)] at h)); (try rw [hn_c40_0] at h); (try rw [show (Nat.cast n_c40_0 : Int) = _ from (by assumption)] at h); (try rw [show (NatCast.natCast n_c40_0 : Int) = _ from (by assumption)] at h); (try (simp only [Nat.cast] at h; rw [show (NatCast.natCast n_c40_0 : Int) = _ from (by assumption)] at h)); (try rw [hn_c41_0] at h); (try rw [show (Nat.cast n_c41_0 : Int) = _ from (by assumption)] at h); (try rw [show (NatCast.natCast n_c41_0 : Int) = _ from (by assumption)] at h); (try (simp only [Nat.cast] at h; rw [show (NatCast.natCast n_c41_0 : Int) = _ from (by assumption)] at h)); (try rw [hn_c43_0] at h); (try rw [show (Nat.cast n_c43_0 : Int) = _ from (by assumption)] at h); (try rw [show (NatCast.natCast n_c43_0 : Int) = _ from (by assumption)] at h); (try (simp only [Nat.cast] at h; rw [show (NatCast.natCast n_c43_0 : Int) = _ from (by assumption)] at h)); (try rw [hn_c44_0] at h); (try rw [show (Nat.cast n_c44_0 : Int) = _ from (by assumption)] at h); (try rw [show (NatCast.natCast n_c44_0 : Int) = _ from (by assumption)] at h); (try (simp only [Nat.cast] at h; rw [show (NatCast.natCast n_c44_0 : Int) = _ from (by assumption)] at h)); (try rw [hn_c46_0] at h); (try rw [show (Nat.cast n_c46_0 : Int) = _ from (by assumption)] at h); (try rw [show (NatCast.natCast n_c46_0 : Int) = _ from (by assumption)] at h); (try (simp only [Nat.cast] at h; rw [show (NatCast.natCast n_c46_0 : Int) = _ from (by assumption)] at h)); (try rw [hn_c47_0] at h); (try rw [show (Nat.cast n_c47_0 : Int) = _ from (by assumption)] at h); (try rw [show (NatCast.natCast n_c47_0 : Int) = _ from (by assumption)] at h); (try (simp only [Nat.cast] at h; rw [show (NatCast.natCast n_c47_0 : Int) = _ from (by assumption)] at h)); (try rw [hn_c48_0] at h); (try rw [show (Nat.cast n_c48_0 : Int) = _ from (by assumption)] at h); (try rw [show (NatCast.natCast n_c48_0 : Int) = _ from (by assumption)] at h); (try (simp only [Nat.cast] at h; rw [show (NatCast.natCast n_c48_0 : Int) = _ from (by assumption)] at h)); (try rw [hn_c49_0] at h); (try rw [show (Nat.cast n_c49_0 : Int) = _ from (by assumption)] at h); (try rw [show (NatCast.natCast n_c49_0 : Int) = _ from (by assumption)] at h); (try (simp only [Nat.cast] at h; rw [show (NatCast.natCast n_c49_0 : Int) = _ from (by assumption)] at h)); (try rw [hn_c53_0] at h); (try rw [show (Nat.cast n_c53_0 : Int) = _ from (by assumption)] at h); (try rw [show (NatCast.natCast n_c53_0 : Int) = _ from (by assumption)] at h); (try (simp only [Nat.cast] at h; rw [show (NatCast.natCast n_c53_0 : Int) = _ from (by assumption)] at h)); (try rw [hn_c54_0] at h); (try rw [show (Nat.cast n_c54_0 : Int) = _ from (by assumption)] at h); (try rw [show (NatCast.natCast n_c54_0 : Int) = _ from (by assumption)] at h); (try (simp only [Nat.cast] at h; rw [show (NatCast.natCast n_c54_0 : Int) = _ from (by assumption)] at h)); (try rw [hn_c55_0] at h); (try rw [show (Nat.cast n_c55_0 : Int) = _ from (by assumption)] at h); (try rw [show (NatCast.natCast n_c55_0 : Int) = _ from (by assumption)] at h); (try (simp only [Nat.cast] at h; rw [show (NatCast.natCast n_c55_0 : Int) = _ from (by assumption)] at h)))
    | ((with_reducible (have h0 : laws_FnCuts.j2 _ _ _ _ _ _ = some _ := h; clear h0))
       rcases k with _ | k
       · cases h
       unfold laws_FnCuts.j2 at h
       (try dsimp only at h); (try simp only [bs, eq_self, if_true, if_false, reduceIte] at h); (try rw [hn_l0] at h); (try rw [show (Nat.cast n_l0 : Int) = _ from (by assumption)] at h); (try rw [show (NatCast.natCast n_l0 : Int) = _ from (by assumption)] at h); (try (simp only [Nat.cast] at h; rw [show (NatCast.natCast n_l0 : Int) = _ from (by assumption)] at h)); (try rw [hn_l1] at h); (try rw [show (Nat.cast n_l1 : Int) = _ from (by assumption)] at h); (try rw [show (NatCast.natCast n_l1 : Int) = _ from (by assumption)] at h); (try (simp only [Nat.cast] at h; rw [show (NatCast.natCast n_l1 : Int) = _ from (by assumption)] at h)); (try rw [hn_c39_0] at h); (try rw [show (Nat.cast n_c39_0 : Int) = _ from (by assumption)] at h); (try rw [show (NatCast.natCast n_c39_0 : Int) = _ from (by assumption)] at h); (try (simp only [Nat.cast] at h; rw [show (NatCast.natCast n_c39_0 : Int) = _ from (by assumption)] at h)); (try rw [hn_c40_0] at h); (try rw [show (Nat.cast n_c40_0 : Int) = _ from (by assumption)] at h); (try rw [show (NatCast.natCast n_c40_0 : Int) = _ from (by assumption)] at h); (try (simp only [Nat.cast] at h; rw [show (NatCast.natCast n_c40_0 : Int) = _ from (by assumption)] at h)); (try rw [hn_c41_0] at h); (try rw [show (Nat.cast n_c41_0 : Int) = _ from (by assumption)] at h); (try rw [show (NatCast.natCast n_c41_0 : Int) = _ from (by assumption)] at h); (try (simp only [Nat.cast] at h; rw [show (NatCast.natCast n_c41_0 : Int) = _ from (by assumption)] at h)); (try rw [hn_c43_0] at h); (try rw [show (Nat.cast n_c43_0 : Int) = _ from (by assumption)] at h); (try rw [show (NatCast.natCast n_c43_0 : Int) = _ from (by assumption)] at h); (try (simp only [Nat.cast] at h; rw [show (NatCast.natCast n_c43_0 : Int) = _ from (by assumption)] at h)); (try rw [hn_c44_0] at h); (try rw [show (Nat.cast n_c44_0 : Int) = _ from (by assumption)] at h); (try rw [show (NatCast.natCast n_c44_0 : Int) = _ from (by assumption)] at h); (try (simp only [Nat.cast] at h; rw [show (NatCast.natCast n_c44_0 : Int) = _ from (by assumption)] at h)); (try rw [hn_c46_0] at h); (try rw [show (Nat.cast n_c46_0 : Int) = _ from (by assumption)] at h); (try rw [show (NatCast.natCast n_c46_0 : Int) = _ from (by assumption)] at h); (try (simp only [Nat.cast] at h; rw [show (NatCast.natCast n_c46_0 : Int) = _ from (by assumption)] at h)); (try rw [hn_c47_0] at h); (try rw [show (Nat.cast n_c47_0 : Int) = _ from (by assumption)] at h); (try rw [show (NatCast.natCast n_c47_0 : Int) = _ from (by assumption)] at h); (try (simp only [Nat.cast] at h; rw [show (NatCast.natCast n_c47_0 : Int) = _ from (by assumption)] at h)); (try rw [hn_c48_0] at h); (try rw [show (Nat.cast n_c48_0 : Int) = _ from (by assumption)] at h); (try rw [show (NatCast.natCast n_c48_0 : Int) = _ from (by assumption)] at h); (try (simp only [Nat.cast] at h; rw [show (NatCast.natCast n_c48_0 : Int) = _ from (by assumption)] at h)); (try rw [hn_c49_0] at h); (try rw [show (Nat.cast n_c49_0 : Int) = _ from (by assumption)] at h); (try rw [show (NatCast.natCast n_c49_0 : Int) = _ from (by assumption)] at h); (try (simp only [Nat.cast] at h; rw [show (NatCast.natCast n_c49_0 : Int) = _ from (by assumption)] at h)); (try rw [hn_c53_0] at h); (try rw [show (Nat.cast n_c53_0 : Int) = _ from (by assumption)] at h); (try rw [show (NatCast.natCast n_c53_0 : Int) = _ from (by assumption)] at h); (try (simp only [Nat.cast] at h; rw [show (NatCast.natCast n_c53_0 : Int) = _ from (by assumption)] at h)); (try rw [hn_c54_0] at h); (try rw [show (Nat.cast n_c54_0 : Int) = _ from (by assumption)] at h); (try rw [show (NatCast.natCast n_c54_0 : Int) = _ from (by assumption)] at h); (try (simp only [Nat.cast] at h; rw [show (NatCast.natCast n_c54_0 : Int) = _ from (by assumption)] at h)); (try rw [hn_c55_0] at h); (try rw [show (Nat.cast n_c55_0 : Int) = _ from (by assumption)] at h); (try rw [show (NatCast.natCast n_c55_0 : Int) = _ from (by assumption)] at h); (try (simp only [Nat.cast] at h; rw [show (NatCast.natCast n_c55_0 : Int) = _ from (by assumption)] at h)))
    | ((with_reducible (have h0 : laws_FnCuts.j4 _ _ _ _ _ _ = some _ := h; clear h0))
       rcases k with _ | k
       · cases h
       unfold laws_FnCuts.j4 at h
       (try dsimp only at h); (try simp only [bs, eq_self, if_true, if_false, reduceIte] at h); (try rw [hn_l0] at h); (try rw [show (Nat.cast n_l0 : Int) = _ from (by assumption)] at h); (try rw [show (NatCast.natCast n_l0 : Int) = _ from (by assumption)] at h); (try (simp only [Nat.cast] at h; rw [show (NatCast.natCast n_l0 : Int) = _ from (by assumption)] at h)); (try rw [hn_l1] at h); (try rw [show (Nat.cast n_l1 : Int) = _ from (by assumption)] at h); (try rw [show (NatCast.natCast n_l1 : Int) = _ from (by assumption)] at h); (try (simp only [Nat.cast] at h; rw [show (NatCast.natCast n_l1 : Int) = _ from (by assumption)] at h)); (try rw [hn_c39_0] at h); (try rw [show (Nat.cast n_c39_0 : Int) = _ from (by assumption)] at h); (try rw [show (NatCast.natCast n_c39_0 : Int) = _ from (by assumption)] at h); (try (simp only [Nat.cast] at h; rw [show (NatCast.natCast n_c39_0 : Int) = _ from (by assumption)] at h)); (try rw [hn_c40_0] at h); (try rw [show (Nat.cast n_c40_0 : Int) = _ from (by assumption)] at h); (try rw [show (NatCast.natCast n_c40_0 : Int) = _ from (by assumption)] at h); (try (simp only [Nat.cast] at h; rw [show (NatCast.natCast n_c40_0 : Int) = _ from (by assumption)] at h)); (try rw [hn_c41_0] at h); (try rw [show (Nat.cast n_c41_0 : Int) = _ from (by assumption)] at h); (try rw [show (NatCast.natCast n_c41_0 : Int) = _ from (by assumption)] at h); (try (simp only [Nat.cast] at h; rw [show (NatCast.natCast n_c41_0 : Int) = _ from (by assumption)] at h)); (try rw [hn_c43_0] at h); (try rw [show (Nat.cast n_c43_0 : Int) = _ from (by assumption)] at h); (try rw [show (NatCast.natCast n_c43_0 : Int) = _ from (by assumption)] at h); (try (simp only [Nat.cast] at h; rw [show (NatCast.natCast n_c43_0 : Int) = _ from (by assumption)] at h)); (try rw [hn_c44_0] at h); (try rw [show (Nat.cast n_c44_0 : Int) = _ from (by assumption)] at h); (try rw [show (NatCast.natCast n_c44_0 : Int) = _ from (by assumption)] at h); (try (simp only [Nat.cast] at h; rw [show (NatCast.natCast n_c44_0 : Int) = _ from (by assumption)] at h)); (try rw [hn_c46_0] at h); (try rw [show (Nat.cast n_c46_0 : Int) = _ from (by assumption)] at h); (try rw [show (NatCast.natCast n_c46_0 : Int) = _ from (by assumption)] at h); (try (simp only [Nat.cast] at h; rw [show (NatCast.natCast n_c46_0 : Int) = _ from (by assumption)] at h)); (try rw [hn_c47_0] at h); (try rw [show (Nat.cast n_c47_0 : Int) = _ from (by assumption)] at h); (try rw [show (NatCast.natCast n_c47_0 : Int) = _ from (by assumption)] at h); (try (simp only [Nat.cast] at h; rw [show (NatCast.natCast n_c47_0 : Int) = _ from (by assumption)] at h)); (try rw [hn_c48_0] at h); (try rw [show (Nat.cast n_c48_0 : Int) = _ from (by assumption)] at h); (try rw [show (NatCast.natCast n_c48_0 : Int) = _ from (by assumption)] at h); (try (simp only [Nat.cast] at h; rw [show (NatCast.natCast n_c48_0 : Int) = _ from (by assumption)] at h)); (try rw [hn_c49_0] at h); (try rw [show (Nat.cast n_c49_0 : Int) = _ from (by assumption)] at h); (try rw [show (NatCast.natCast n_c49_0 : Int) = _ from (by assumption)] at h); (try (simp only [Nat.cast] at h; rw [show (NatCast.natCast n_c49_0 : Int) = _ from (by assumption)] at h)); (try rw [hn_c53_0] at h); (try rw [show (Nat.cast n_c53_0 : Int) = _ from (by assumption)] at h); (try rw [show (NatCast.natCast n_c53_0 : Int) = _ from (by assumption)] at h); (try (simp only [Nat.cast] at h; rw [show (NatCast.natCast n_c53_0 : Int) = _ from (by assumption)] at h)); (try rw [hn_c54_0] at h); (try rw [show (Nat.cast n_c54_0 : Int) = _ from (by assumption)] at h); (try rw [show (NatCast.natCast n_c54_0 : Int) = _ from (by assumption)] at h); (try (simp only [Nat.cast] at h; rw [show (NatCast.natCast n_c54_0 : Int) = _ from (by assumption)] at h)); (try rw [hn_c55_0] at h); (try rw [show (Nat.cast n_c55_0 : Int) = _ from (by assumption)] at h); (try rw [show (NatCast.natCast n_c55_0 : Int) = _ from (by assumption)] at h); (try (simp only [Nat.cast] at h; rw [show (NatCast.natCast n_c55_0 : Int) = _ from (by assumption)] at h)))
    | ((with_reducible show ∀ _ : Bool, _)
       first
        | (refine all_lt ?_ ?_ <;> (intro hd; first | exact absurd rfl hd | ((first | rw [if_pos hd] at h | rw [if_neg hd] at h | rw [if_pos (by omega)] at h | rw [if_neg (by omega)] at h | skip); (first | (rw [decide_eq_true hd] at h; (try simp only [bs, eq_self, if_true, if_false, reduceIte] at h)) | (rw [decide_eq_false hd] at h; (try simp only [bs, eq_self, if_true, if_false, reduceIte] at h)) | skip); cbv)))
        | (refine all_le ?_ ?_ <;> (intro hd; first | exact absurd rfl hd | ((first | rw [if_pos hd] at h | rw [if_neg hd] at h | rw [if_pos (by omega)] at h | rw [if_neg (by omega)] at h | skip); (first | (rw [decide_eq_true hd] at h; (try simp only [bs, eq_self, if_true, if_false, reduceIte] at h)) | (rw [decide_eq_false hd] at h; (try simp only [bs, eq_self, if_true, if_false, reduceIte] at h)) | skip); cbv)))
        | (refine all_beq ?_ ?_ <;> (intro hd; first | exact absurd rfl hd | ((first | rw [if_pos hd] at h | rw [if_neg hd] at h | rw [if_pos (by omega)] at h | rw [if_neg (by omega)] at h | skip); (first | (rw [beq_pos hd] at h; (try simp only [bs, eq_self, if_true, if_false, reduceIte] at h)) | (rw [beq_neg hd] at h; (try simp only [bs, eq_self, if_true, if_false, reduceIte] at h)) | skip); cbv)))
        | (refine all_bne ?_ ?_ <;> (intro hd; first | exact absurd rfl hd | ((first | rw [if_pos hd] at h | rw [if_neg hd] at h | rw [if_pos (by omega)] at h | rw [if_neg (by omega)] at h | skip); (first | (rw [bne_pos hd] at h; (try simp only [bs, eq_self, if_true, if_false, reduceIte] at h)) | (rw [bne_neg hd] at h; (try simp only [bs, eq_self, if_true, if_false, reduceIte] at h)) | skip); cbv)))
        | (refine all_cells rfl ?_ ?_ <;> (intro hd; (first | (rw [hd] at h; (try simp only [bs, eq_self, if_true, if_false, reduceIte] at h)) | skip); cbv))
        | (refine all_cellsN rfl ?_ ?_ <;> (intro hd; (first | (rw [hd] at h; (try simp only [bs, eq_self, if_true, if_false, reduceIte] at h)) | skip); cbv))
        | (refine all_not_true ?_; cbv)
        | (refine all_not_false ?_; cbv)
        | (refine all_not ?_ ?_ <;> (intro hd; subst hd; (try simp only [bs, eq_self, if_true, if_false, reduceIte] at h); cbv))
        | (refine all_bool ?_ ?_ <;> (intro hd; (try simp only [hd, bs, eq_self, if_true, if_false, reduceIte] at h); cbv)))
    | ((with_reducible show ∀ _ : Int, _)
       first
        | (refine all_u0 ?_; cbv)
        | (refine all_mn ?_; intro y hy; (try rw [hy] at h); cbv)
        | (refine all_mx ?_; intro y hy; (try rw [hy] at h); cbv)
        | (refine all_neg ?_; intro y hy; (try rw [hy] at h); cbv)
        | (refine all_shr40 ?_; intro y hy; (try rw [hy] at h); cbv)
        | (refine all_and ?_; intro y hy; (try rw [hy] at h); cbv)
        | (refine all_wrap_old (by assumption) ?_; cbv)
        | (refine all_wrap ?_; intro y hy; (try rw [hy] at h); cbv)
        | (refine all_len_old (by assumption) ?_; cbv)
        | (refine all_len ?_; intro y hy; (try replace hy : ((_ : Nat) : Int) = y := hy); (try rw [hy] at h); (try rw [show (NatCast.natCast _ : Int) = _ from hy] at h); cbv)
        | (refine all_old (α := Int) (by assumption) ?_; cbv)
        | (refine all_eq (α := Int) ?_; intro y hy; (try replace hy : ((_ : Nat) : Int) = y := hy); (try rw [hy] at h); cbv))
    | ((with_reducible show ∀ _ : Nat, _)
       first
        | (refine @all_cut0 ?_ ?_ ?_ ?_ _ _ _ ?_ ?_ ?_ ?_ ?_
           rotate_left 4
           assumption
           assumption
           (first | assumption | exact lt_ix (by assumption) (by assumption) (by assumption) | exact lt_ix2 (by assumption) (by assumption) (by assumption) (by assumption) | exact lt_y (by assumption) (by assumption) | exact le_y (by assumption) | exact ge_y (by assumption) | exact cut_le (by assumption) (by assumption) | omega)
           (first | assumption | exact cut_hi (by assumption) | exact cut_hi2 (by assumption) (by assumption) | exact cut_hi3 (by assumption) | exact cut_hi4 (by assumption) (by assumption) | omega)
           intro D hD n_D hnD g hgD; (try rw [hD] at h); (try rw [hnD] at h); cbv)
        | (refine @all_cutD ?_ ?_ ?_ ?_ _ _ _ _ ?_ ?_ ?_ ?_ ?_ ?_
           rotate_left 4
           assumption
           assumption
           (first | assumption | exact lt_ix (by assumption) (by assumption) (by assumption) | exact lt_ix2 (by assumption) (by assumption) (by assumption) (by assumption) | exact lt_y (by assumption) (by assumption) | exact le_y (by assumption) | exact ge_y (by assumption) | exact cut_le (by assumption) (by assumption) | omega)
           (first | assumption | exact lt_ix (by assumption) (by assumption) (by assumption) | exact lt_ix2 (by assumption) (by assumption) (by assumption) (by assumption) | exact lt_y (by assumption) (by assumption) | exact le_y (by assumption) | exact ge_y (by assumption) | exact cut_le (by assumption) (by assumption) | omega)
           assumption
           intro D hD n_D hnD g hgD; (try rw [hD] at h); (try rw [hnD] at h); cbv)
        | (refine @all_cut ?_ ?_ ?_ ?_ _ _ _ _ ?_ ?_ ?_ ?_ ?_ ?_
           rotate_left 4
           assumption
           assumption
           (first | assumption | exact lt_ix (by assumption) (by assumption) (by assumption) | exact lt_ix2 (by assumption) (by assumption) (by assumption) (by assumption) | exact lt_y (by assumption) (by assumption) | exact le_y (by assumption) | exact ge_y (by assumption) | exact cut_le (by assumption) (by assumption) | omega)
           (first | assumption | exact lt_ix (by assumption) (by assumption) (by assumption) | exact lt_ix2 (by assumption) (by assumption) (by assumption) (by assumption) | exact lt_y (by assumption) (by assumption) | exact le_y (by assumption) | exact ge_y (by assumption) | exact cut_le (by assumption) (by assumption) | omega)
           (first | assumption | exact cut_hi (by assumption) | exact cut_hi2 (by assumption) (by assumption) | exact cut_hi3 (by assumption) | exact cut_hi4 (by assumption) (by assumption) | omega)
           intro D hD n_D hnD g hgD; (try rw [hD] at h); (try rw [hnD] at h); cbv)
        | (refine all_ix0_old (by assumption) ?_; cbv)
        | (refine all_ix0 ?_; intro q hq; (try rw [hq] at h); cbv)
        | (refine all_app (by first | assumption | exact (rfl : encL _ ([] : List _) = _)) (by first | assumption | rfl) (by assumption) (by first | assumption | rfl) ?_; intro L hL n_L hnL g hgL; (try rw [hL] at h); (try rw [Option.bind_some] at h); (try rw [hnL] at h); cbv)
        | (refine all_appF (by first | assumption | exact (rfl : encL _ ([] : List _) = _)) (by first | assumption | rfl) (by assumption) (by first | assumption | rfl) ?_; intro L hL n_L hnL g hgL; (try rw [hL] at h); (try rw [Option.bind_some] at h); (try rw [hnL] at h); cbv)
        | (refine all_appD (by first | assumption | exact (rfl : encL _ ([] : List _) = _)) (by first | assumption | rfl) (by assumption) (by first | assumption | (simp only [List.length_drop]; omega)) ?_; intro L hL n_L hnL g hgL; (try rw [hL] at h); (try rw [Option.bind_some] at h); (try rw [hnL] at h); cbv)
        | (intro off' n' ho hn'; obtain rfl : off' = _ := ho; (try replace hn' := cut_len hn' (by assumption)); (try replace hn' := cut_len0 hn'); cbv)
        | (refine all_eq (α := Nat) ?_; intro y hy; (try rw [hy] at h); cbv))
    | ((with_reducible show ∀ _ : List V, _)
       first
        | (refine @all_rd_old _ _ eI rd ?_ ?_ ?_ ?_ _ _ _ (fun _ _ => rfl) ?_ ?_ ?_ ?_ ?_ ?_ ?_
           rotate_left 4
           assumption
           assumption
           (first | rfl | assumption)
           (first | assumption | exact lt_ix (by assumption) (by assumption) (by assumption) | exact lt_ix2 (by assumption) (by assumption) (by assumption) (by assumption) | exact lt_y (by assumption) (by assumption) | exact le_y (by assumption) | exact ge_y (by assumption) | exact cut_le (by assumption) (by assumption) | omega)
           (first | assumption | exact lt_ix (by assumption) (by assumption) (by assumption) | exact lt_ix2 (by assumption) (by assumption) (by assumption) (by assumption) | exact lt_y (by assumption) (by assumption) | exact le_y (by assumption) | exact ge_y (by assumption) | exact cut_le (by assumption) (by assumption) | omega)
           assumption
           cbv)
        | (refine @all_rd _ _ eI rd ?_ ?_ ?_ _ _ _ (fun _ _ => rfl) ?_ ?_ ?_ ?_ ?_ ?_
           rotate_left 3
           assumption
           assumption
           (first | rfl | assumption)
           (first | assumption | exact lt_ix (by assumption) (by assumption) (by assumption) | exact lt_ix2 (by assumption) (by assumption) (by assumption) (by assumption) | exact lt_y (by assumption) (by assumption) | exact le_y (by assumption) | exact ge_y (by assumption) | exact cut_le (by assumption) (by assumption) | omega)
           (first | assumption | exact lt_ix (by assumption) (by assumption) (by assumption) | exact lt_ix2 (by assumption) (by assumption) (by assumption) (by assumption) | exact lt_y (by assumption) (by assumption) | exact le_y (by assumption) | exact ge_y (by assumption) | exact cut_le (by assumption) (by assumption) | omega)
           intro z hz
           (try rw [hz] at h); cbv)
        | (refine @all_rd_old _ _ eU rd ?_ ?_ ?_ ?_ _ _ _ (fun _ _ => rfl) ?_ ?_ ?_ ?_ ?_ ?_ ?_
           rotate_left 4
           assumption
           assumption
           (first | rfl | assumption)
           (first | assumption | exact lt_ix (by assumption) (by assumption) (by assumption) | exact lt_ix2 (by assumption) (by assumption) (by assumption) (by assumption) | exact lt_y (by assumption) (by assumption) | exact le_y (by assumption) | exact ge_y (by assumption) | exact cut_le (by assumption) (by assumption) | omega)
           (first | assumption | exact lt_ix (by assumption) (by assumption) (by assumption) | exact lt_ix2 (by assumption) (by assumption) (by assumption) (by assumption) | exact lt_y (by assumption) (by assumption) | exact le_y (by assumption) | exact ge_y (by assumption) | exact cut_le (by assumption) (by assumption) | omega)
           assumption
           cbv)
        | (refine @all_rd _ _ eU rd ?_ ?_ ?_ _ _ _ (fun _ _ => rfl) ?_ ?_ ?_ ?_ ?_ ?_
           rotate_left 3
           assumption
           assumption
           (first | rfl | assumption)
           (first | assumption | exact lt_ix (by assumption) (by assumption) (by assumption) | exact lt_ix2 (by assumption) (by assumption) (by assumption) (by assumption) | exact lt_y (by assumption) (by assumption) | exact le_y (by assumption) | exact ge_y (by assumption) | exact cut_le (by assumption) (by assumption) | omega)
           (first | assumption | exact lt_ix (by assumption) (by assumption) (by assumption) | exact lt_ix2 (by assumption) (by assumption) (by assumption) (by assumption) | exact lt_y (by assumption) (by assumption) | exact le_y (by assumption) | exact ge_y (by assumption) | exact cut_le (by assumption) (by assumption) | omega)
           intro z hz
           (try rw [hz] at h); cbv)
        | (refine @all_rd_old _ _ e72 rd_T72 ?_ ?_ ?_ ?_ _ _ _ (fun _ _ => rfl) ?_ ?_ ?_ ?_ ?_ ?_ ?_
           rotate_left 4
           assumption
           assumption
           (first | rfl | assumption)
           (first | assumption | exact lt_ix (by assumption) (by assumption) (by assumption) | exact lt_ix2 (by assumption) (by assumption) (by assumption) (by assumption) | exact lt_y (by assumption) (by assumption) | exact le_y (by assumption) | exact ge_y (by assumption) | exact cut_le (by assumption) (by assumption) | omega)
           (first | assumption | exact lt_ix (by assumption) (by assumption) (by assumption) | exact lt_ix2 (by assumption) (by assumption) (by assumption) (by assumption) | exact lt_y (by assumption) (by assumption) | exact le_y (by assumption) | exact ge_y (by assumption) | exact cut_le (by assumption) (by assumption) | omega)
           assumption
           cbv)
        | (refine @all_rd _ _ e72 rd_T72 ?_ ?_ ?_ _ _ _ (fun _ _ => rfl) ?_ ?_ ?_ ?_ ?_ ?_
           rotate_left 3
           assumption
           assumption
           (first | rfl | assumption)
           (first | assumption | exact lt_ix (by assumption) (by assumption) (by assumption) | exact lt_ix2 (by assumption) (by assumption) (by assumption) (by assumption) | exact lt_y (by assumption) (by assumption) | exact le_y (by assumption) | exact ge_y (by assumption) | exact cut_le (by assumption) (by assumption) | omega)
           (first | assumption | exact lt_ix (by assumption) (by assumption) (by assumption) | exact lt_ix2 (by assumption) (by assumption) (by assumption) (by assumption) | exact lt_y (by assumption) (by assumption) | exact le_y (by assumption) | exact ge_y (by assumption) | exact cut_le (by assumption) (by assumption) | omega)
           intro z hz
           (try rw [hz] at h); cbv))
    | (obtain ⟨hc, h'⟩ := if_none h; clear h; have h := h'; clear h'; subst hc; (try (have e := hn_c41_0.symm.trans hn_c40_0; subst e)); (try (have e := hg_c41_0.symm.trans hg_c40_0; subst e)); (try (have e := hn_c44_0.symm.trans hn_c43_0; subst e)); (try (have e := hg_c44_0.symm.trans hg_c43_0; subst e)); (try (have e := hn_c48_0.symm.trans hn_c47_0; subst e)); (try (have e := hg_c48_0.symm.trans hg_c47_0; subst e)); (try (have e := hn_c54_0.symm.trans hn_c53_0; subst e)); (try (have e := hg_c54_0.symm.trans hg_c53_0; subst e)); (try cbv))
    | (obtain ⟨hc, h'⟩ := if_none h; clear h; have h := h'; clear h'; (try simp only [List.length_nil, Nat.zero_add] at hc))
    | (obtain ⟨hc, h'⟩ := if_none' h; clear h; have h := h'; clear h')
    | (cases h; done)
    | (simp only [Option.bind_some] at h)
    | (simp only [Option.some.injEq, Prod.mk.injEq] at h; subst h)
    | ((with_reducible show ∃ _, _)
       refine side (by first | exact enc_same (by assumption) (by assumption) _ | exact take_s1 (by assumption) (by assumption) (by assumption) | exact take_s2 (by assumption) (by assumption) (by assumption) (by assumption) (by assumption) | exact take_s3 (by assumption) (by assumption) (by assumption) | exact take_s4 (by assumption) (by assumption) (by assumption) | (intro k hk; subst_vars; first | eq_refl | exact enc_drop | exact enc_take hk | exact absurd hk (Nat.not_lt_zero k)) | (subst_vars; first | eq_refl | (simp; done) | (simp; omega)) | (have h1 : Int.toNat 1 = 1 := rfl; have h2 := one_le (by assumption) (by assumption); simp only [List.length_append, List.length_nil, List.length_drop, h1] at *; omega) | (simp only [Nat.cast] at *; omega)) ?_; (try cbv))
    | trivial
    | (exfalso; omega)
    | (simp only [beq_iff_eq] at h; first | rw [if_pos (by assumption)] at h | rw [if_neg (by assumption)] at h)
    | (rw [dself]; cbv)
    | ((fail_if_success (with_reducible show ∃ _, _)); (with_reducible split) <;> rename_i hq <;> (first | (obtain rfl := bnt hq) | (obtain rfl := bnf hq) | (obtain rfl := btrue hq) | (obtain rfl := bfalse hq) | (obtain rfl := btrue' hq) | (obtain rfl := bfalse' hq) | subst hq | skip) <;> (try simp only [bs, eq_self, if_true, if_false, reduceIte] at h) <;> (try (cases h; done)) <;> cbv))

end Go.Proofs.Ythhoobpmjgpkkaa.E
