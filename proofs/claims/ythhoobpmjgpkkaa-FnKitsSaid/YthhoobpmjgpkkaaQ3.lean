/- The functions and what they answer, proved over the engine; printed by a program. -/
import Derived.Test.YthhoobpmjgpkkaaQ2
set_option linter.unusedVariables false
set_option linter.unusedSimpArgs false
set_option maxRecDepth 10000
set_option maxHeartbeats 40000000
namespace Go.Proofs.Ythhoobpmjgpkkaa.E
open Go Go.Sim Go.Proofs Go.RowKit Go.Proofs.YthhoobpmjgpkkaaW.PrintWords Go.Proofs.YthhoobpmjgpkkaaW.PrintMore
def laws_FnKits.l1 : Nat → List Int → List Int → Int → List S81 → Int → Int → Option (Bool)
  | 0, _, _, _, _, _, _ => none
  | k + 1, x32, x36, x38, x277, x278, x279 => if x279 < x278 then (if 0 ≤ x279 then (if x279 < (x277.length : Int) then ((impl_CanMake.f k x32 (rd_T81 x277 x279).f0 (rd_T81 x277 x279).f1 (rd_T81 x277 x279).f2).bind fun c => (if c.1 = true then (if c.2 = true then ((impl_NeededParts.f k (rd_T81 x277 x279).f0 (rd_T81 x277 x279).f1 (rd_T81 x277 x279).f2).bind fun e1 => ((spec_NeededParts.f k (rd_T81 x277 x279).f0 (rd_T81 x277 x279).f1 (rd_T81 x277 x279).f2).bind fun e2 => (if e1.2 = e2.2 then (if e1.2 = true then (if e1.1 = e2.1 then ((laws_sameInts.f k e1.1 e1.1).bind fun s => (if s = true then ((laws_pSum.f k e1.1).bind fun p => (laws_FnKits.l1 k x32 x36 (wrap64 (x38 + p)) x277 x278 (wrap64 (x279 + 1)))) else none)) else none) else none) else none))) else none) else none)) else none) else none) else ((laws_pSum.f k x36).bind fun p1 => (if p1 = x38 then ((laws_pSum.f k x32).bind fun p2 => (if x38 < p2 then none else (some true))) else none))
def laws_FnKits.j1 : Nat → List Int → Option (Bool)
  | 0, _ => none
  | k + 1, y1 => (spec_DrawSharedKit.f k y1).bind fun l => ((impl_SharedKit.f k l).bind fun s1 => ((spec_SharedKit.f k l).bind fun s2 => (if s1.2 = s2.2 then (if s1.1 = s2.1 then ((impl_SumKit.f k l).bind fun u1 => ((spec_SumKit.f k l).bind fun u2 => (if u1.2 = u2.2 then (if u1.2 = s1.2 then (if u1.1 = u2.1 then ((laws_sameInts.f k s1.1 s1.1).bind fun q1 => (if q1 = true then ((laws_sameInts.f k u1.1 u1.1).bind fun q2 => (if q2 = true then (if s1.2 = true then (laws_FnKits.l1 k s1.1 u1.1 0 l (l.length : Int) 0) else (some true)) else none)) else none)) else none) else none) else none))) else none) else none)))
def laws_FnKits.l0 : Nat → List Int → List Int → Bool → List Int → Int → List Int → Int → Int → Option (Bool)
  | 0, _, _, _, _, _, _, _, _ => none
  | k + 1, x1, x5, x16, x17, x21, x197, x198, x199 => if x199 < x198 then (if 0 ≤ x199 then (if x199 < (x197.length : Int) then (if x16 = true then (if x199 < (x17.length : Int) then (if x199 < (x5.length : Int) then (if (wrap64 ((rd x17 x199) + (rd x197 x199))) = (rd x5 x199) then (if x199 < (x5.length : Int) then (if (rd x5 x199) < (wrap64 (x21 * (rd x197 x199))) then none else (laws_FnKits.l0 k x1 x5 x16 x17 x21 x197 x198 (wrap64 (x199 + 1)))) else none) else none) else none) else none) else (if x199 < (x5.length : Int) then (if (rd x5 x199) < (wrap64 (x21 * (rd x197 x199))) then none else (laws_FnKits.l0 k x1 x5 x16 x17 x21 x197 x198 (wrap64 (x199 + 1)))) else none)) else none) else none) else (laws_FnKits.j1 k x1)
def laws_FnKits.j0 : Nat → List Int → List Int → Bool → Bool → List Int → Int → List Int → Option (Bool)
  | 0, _, _, _, _, _, _, _ => none
  | k + 1, y1, y5, yc, y16, y17, y21, y197 => if yc = true then (if 1 ≤ y21 then (laws_FnKits.l0 k y1 y5 y16 y17 y21 y197 (y197.length : Int) 0) else none) else (if 1 ≤ y21 then none else (laws_FnKits.l0 k y1 y5 y16 y17 y21 y197 (y197.length : Int) 0))
def laws_FnKits.f (k : Nat) (l0 : List Int) (l1 : List Int) : Option (Bool) := (laws_big.f l0 l1).bind fun b => (if b = true then (some true) else ((spec_DrawCanMake.f k l0).bind fun d => ((impl_CanMake.f k d.1 d.2.1 d.2.2.1 d.2.2.2).bind fun c1 => ((spec_CanMake.f k d.1 d.2.1 d.2.2.1 d.2.2.2).bind fun c2 => (if c1.1 = c2.1 then (if c1.2 = c2.2 then (if (c1.2 || !c1.1) = true then ((impl_MissingParts.f k d.1 d.2.1 d.2.2.1 d.2.2.2).bind fun m1 => ((spec_MissingParts.f k d.1 d.2.1 d.2.2.1 d.2.2.2).bind fun m2 => (if m1.2 = m2.2 then (if m1.2 = c1.2 then (if m1.1 = m2.1 then ((impl_RestOfKit.f k d.1 d.2.1 d.2.2.1 d.2.2.2).bind fun r1 => ((spec_RestOfKit.f k d.1 d.2.1 d.2.2.1 d.2.2.2).bind fun r2 => (if r1.2 = r2.2 then (if r1.2 = (c1.2 && c1.1) then (if r1.1 = r2.1 then ((impl_MostCopies.f k d.1 d.2.1 d.2.2.1 d.2.2.2).bind fun n1 => ((spec_MostCopies.f k d.1 d.2.1 d.2.2.1 d.2.2.2).bind fun n2 => (if n1.2 = n2.2 then (if n1.2 = c1.2 then (if n1.1 = n2.1 then ((laws_sameInts.f k m1.1 m1.1).bind fun s1 => (if s1 = true then ((laws_sameInts.f k r1.1 r1.1).bind fun s2 => (if s2 = true then (if c1.2 = true then ((impl_NeededParts.f k d.2.1 d.2.2.1 d.2.2.2).bind fun e1 => ((spec_NeededParts.f k d.2.1 d.2.2.1 d.2.2.2).bind fun e2 => (if e1.2 = e2.2 then (if e1.2 = true then (if e1.1 = e2.1 then ((laws_sameInts.f k e1.1 e1.1).bind fun s3 => (if s3 = true then ((laws_pSum.f k m1.1).bind fun ps => (if c1.1 = true then (if ps = 0 then (laws_FnKits.j0 k l1 d.1 c1.1 r1.2 r1.1 n1.1 e1.1) else none) else (if ps = 0 then none else (laws_FnKits.j0 k l1 d.1 c1.1 r1.2 r1.1 n1.1 e1.1)))) else none)) else none) else none) else none))) else (laws_FnKits.j1 k l1)) else none)) else none)) else none) else none) else none))) else none) else none) else none))) else none) else none) else none))) else none) else none) else none)))))

theorem laws_FnKits_ok (k : Nat) (l0 : List Int) (l1 : List Int) (r0 : Bool) (h : laws_FnKits.f k l0 l1 = some r0) (n_l0 : Nat) (hn_l0 : l0.length = n_l0) (g_l0 : Nat → List V) (hg_l0 : encL eU l0 = g_l0) (n_l1 : Nat) (hn_l1 : l1.length = n_l1) (g_l1 : Nat → List V) (hg_l1 : encL eU l1 = g_l1)  : CallOK Try.prog 7 [.fz 1 n_l0 g_l0, .fz 1 n_l1 g_l1] [] (.val (.bool r0)) [] := by
  refine CallOK.of_code tabOK Try.func7 rfl rfl ⟨[(4, [1, 5, 6]), (6, [1, 5, 6, 7, 8, 9, 10]), (8, [1, 5, 6, 7, 8, 9, 10, 11, 12, 13, 14]), (11, [1, 5, 6, 7, 8, 9, 10, 11, 12, 13, 14, 15, 16, 17, 18, 19, 20]), (13, []), (14, [1, 5, 6, 8, 9, 13, 16, 17, 21]), (17, [1, 5, 9, 13, 16, 17, 21, 23, 24, 25, 26]), (18, []), (19, [1, 5, 16, 17, 21, 25]), (23, []), (24, [1, 5, 16, 17, 21, 197, 198, 199]), (25, [1]), (28, [29, 30, 31, 32, 33]), (30, [29, 30, 31, 32, 33, 34, 35, 36, 37]), (31, []), (32, [29, 31, 32, 36]), (38, [32, 36, 38, 40, 41, 42, 277, 278, 279]), (41, []), (42, [32, 36, 38, 45, 277, 278, 279]), (43, [32, 36, 38, 277, 278, 279]), (44, [32, 36, 38]), (45, []), (46, [])], [161]⟩ ?_
  unfold laws_FnKits.f at h
  obtain ⟨P, hP⟩ : ∃ P, Try.prog = P := ⟨_, rfl⟩
  rw [hP]
  (try rw [hn_l0] at h); (try rw [hn_l1] at h); skip
  cbv
  repeat' (first
    | ((with_reducible show ∃ _, _)
       first
        | (refine ⟨trivial, ?_⟩; cbv)
        | (refine all_show (by first | omega | decide) ?_; cbv)
        | (refine side (by first | with_reducible eq_refl | assumption | (intro _ _; with_reducible eq_refl) | exact lt_ix (by assumption) (by assumption) (by assumption) | exact lt_ix2 (by assumption) (by assumption) (by assumption) (by assumption) | exact lt_y (by assumption) (by assumption) | exact le_y (by assumption) | exact ge_y (by assumption) | exact cut_le (by assumption) (by assumption) | omega) ?_; (try cbv))
        | (refine ⟨Frz.frozen, ?_⟩; cbv)
        | (refine ⟨.still 24, side (by decide +kernel) ?_⟩; cbv))
    | ((with_reducible show ∃ _ : Nat, _)
       first
        | (refine ⟨_, [32, 36, 38, 277, 278, 279], Nat.lt_succ_self _, ?_⟩; cbv; exact ⟨_, _, _, _, _, _, _, _, _, _, _, _, h, by first | assumption | rfl, by first | assumption | rfl, by first | assumption | rfl, by first | assumption | rfl, by first | assumption | rfl, by first | assumption | rfl, rfl⟩)
        | (refine ⟨_, [1, 5, 16, 17, 21, 197, 198, 199], Nat.lt_succ_self _, ?_⟩; cbv; exact ⟨_, _, _, _, _, _, _, _, _, _, _, _, _, _, _, _, h, by first | assumption | rfl, by first | assumption | rfl, by first | assumption | rfl, by first | assumption | rfl, by first | assumption | rfl, by first | assumption | rfl, by first | assumption | rfl, by first | assumption | rfl, rfl⟩))
    | ((with_reducible show ∃ _ : List Nat, _)
       first
        | (refine ⟨[1], ?_⟩; cbv; exact ⟨_, _, _, _, h, by first | assumption | rfl, by first | assumption | rfl, rfl⟩)
        | ((with_reducible (have h0 : Option.bind (laws_big.f _ _) _ = some _ := h; clear h0))
           refine ⟨[], ?_⟩; cbv
           repeat (first | (refine all_show (by first | omega | decide) ?_; cbv) | (refine all_showT (by assumption) (by assumption) (by assumption) (by first | assumption | exact lt_ix (by assumption) (by assumption) (by assumption) | exact lt_ix2 (by assumption) (by assumption) (by assumption) (by assumption) | exact lt_y (by assumption) (by assumption) | exact le_y (by assumption) | exact ge_y (by assumption) | exact cut_le (by assumption) (by assumption) | omega) (by first | assumption | exact cut_hi (by assumption) | exact cut_hi2 (by assumption) (by assumption) | omega) ?_; intro D hD hnD g hgD; (try rw [hD] at h); cbv))
           obtain ⟨t, ht, h'⟩ := bind_some h
           clear h; have h := h'; clear h'; (try dsimp only at h)
           refine ⟨_, _, (hP ▸ laws_big_ok _ _ _ ht _ (by first | assumption | rfl) _ (by assumption) _ (by first | assumption | rfl) _ (by assumption)  : CallOK P 38 _ _ _ _), ?_⟩
           rcases t with _ | _ <;> (try simp only [bs, eq_self, if_true, if_false, reduceIte] at h) <;> (try (cases h; done)) <;> cbv)
        | ((with_reducible (have h0 : Option.bind (laws_sameInts.f _ _ _) _ = some _ := h; clear h0))
           refine ⟨[], ?_⟩; cbv
           repeat (first | (refine all_show (by first | omega | decide) ?_; cbv) | (refine all_showT (by assumption) (by assumption) (by assumption) (by first | assumption | exact lt_ix (by assumption) (by assumption) (by assumption) | exact lt_ix2 (by assumption) (by assumption) (by assumption) (by assumption) | exact lt_y (by assumption) (by assumption) | exact le_y (by assumption) | exact ge_y (by assumption) | exact cut_le (by assumption) (by assumption) | omega) (by first | assumption | exact cut_hi (by assumption) | exact cut_hi2 (by assumption) (by assumption) | omega) ?_; intro D hD hnD g hgD; (try rw [hD] at h); cbv))
           obtain ⟨t, ht, h'⟩ := bind_some h
           clear h; have h := h'; clear h'; (try dsimp only at h)
           refine ⟨_, _, (hP ▸ laws_sameInts_ok _ _ _ _ ht _ (by first | assumption | rfl) _ (by assumption) _ (by first | assumption | rfl) _ (by assumption)  : CallOK P 42 _ _ _ _), ?_⟩
           rcases t with _ | _ <;> (try simp only [bs, eq_self, if_true, if_false, reduceIte] at h) <;> (try (cases h; done)) <;> cbv)
        | ((with_reducible (have h0 : Option.bind (spec_DrawCanMake.f _ _) _ = some _ := h; clear h0))
           refine ⟨[], ?_⟩; cbv
           repeat (first | (refine all_show (by first | omega | decide) ?_; cbv) | (refine all_showT (by assumption) (by assumption) (by assumption) (by first | assumption | exact lt_ix (by assumption) (by assumption) (by assumption) | exact lt_ix2 (by assumption) (by assumption) (by assumption) (by assumption) | exact lt_y (by assumption) (by assumption) | exact le_y (by assumption) | exact ge_y (by assumption) | exact cut_le (by assumption) (by assumption) | omega) (by first | assumption | exact cut_hi (by assumption) | exact cut_hi2 (by assumption) (by assumption) | omega) ?_; intro D hD hnD g hgD; (try rw [hD] at h); cbv))
           obtain ⟨⟨t0, t1, t2, t3⟩, ht, h'⟩ := bind_some h
           clear h; have h := h'; clear h'; (try dsimp only at h)
           obtain ⟨n_c59_0, hn_c59_0⟩ : ∃ n, t0.length = n := ⟨_, rfl⟩; obtain ⟨g_t, hg_c59_0⟩ : ∃ g, encL eI t0 = g := ⟨_, rfl⟩; (try rw [hn_c59_0] at h)
           obtain ⟨n_c59_3, hn_c59_3⟩ : ∃ n, t3.length = n := ⟨_, rfl⟩; obtain ⟨g_t, hg_c59_3⟩ : ∃ g, encL e116 t3 = g := ⟨_, rfl⟩; (try rw [hn_c59_3] at h)
           refine ⟨_, _, (hP ▸ spec_DrawCanMake_ok _ _ _ _ _ _ ht _ (by first | assumption | rfl) _ (by assumption) _ hn_c59_0 _ hg_c59_0 _ hn_c59_3 _ hg_c59_3 : CallOK P 59 _ _ _ _), ?_⟩; cbv)
        | ((with_reducible (have h0 : Option.bind (impl_CanMake.f _ _ _ _ _) _ = some _ := h; clear h0))
           refine ⟨[], ?_⟩; cbv
           repeat (first | (refine all_show (by first | omega | decide) ?_; cbv) | (refine all_showT (by assumption) (by assumption) (by assumption) (by first | assumption | exact lt_ix (by assumption) (by assumption) (by assumption) | exact lt_ix2 (by assumption) (by assumption) (by assumption) (by assumption) | exact lt_y (by assumption) (by assumption) | exact le_y (by assumption) | exact ge_y (by assumption) | exact cut_le (by assumption) (by assumption) | omega) (by first | assumption | exact cut_hi (by assumption) | exact cut_hi2 (by assumption) (by assumption) | omega) ?_; intro D hD hnD g hgD; (try rw [hD] at h); cbv))
           obtain ⟨⟨t0, t1⟩, ht, h'⟩ := bind_some h
           clear h; have h := h'; clear h'; (try dsimp only at h)
           refine ⟨_, _, (hP ▸ impl_CanMake_ok _ _ _ _ _ _ _ ht _ (by first | assumption | rfl) _ (by assumption) _ (by first | assumption | rfl) _ (by assumption)  : CallOK P 60 _ _ _ _), ?_⟩
           rcases t0 with _ | _ <;> rcases t1 with _ | _ <;> (try simp only [bs, eq_self, if_true, if_false, reduceIte] at h) <;> (try (cases h; done)) <;> cbv)
        | ((with_reducible (have h0 : Option.bind (spec_CanMake.f _ _ _ _ _) _ = some _ := h; clear h0))
           refine ⟨[], ?_⟩; cbv
           repeat (first | (refine all_show (by first | omega | decide) ?_; cbv) | (refine all_showT (by assumption) (by assumption) (by assumption) (by first | assumption | exact lt_ix (by assumption) (by assumption) (by assumption) | exact lt_ix2 (by assumption) (by assumption) (by assumption) (by assumption) | exact lt_y (by assumption) (by assumption) | exact le_y (by assumption) | exact ge_y (by assumption) | exact cut_le (by assumption) (by assumption) | omega) (by first | assumption | exact cut_hi (by assumption) | exact cut_hi2 (by assumption) (by assumption) | omega) ?_; intro D hD hnD g hgD; (try rw [hD] at h); cbv))
           obtain ⟨⟨t0, t1⟩, ht, h'⟩ := bind_some h
           clear h; have h := h'; clear h'; (try dsimp only at h)
           refine ⟨_, _, (hP ▸ spec_CanMake_ok _ _ _ _ _ _ _ ht _ (by first | assumption | rfl) _ (by assumption) _ (by first | assumption | rfl) _ (by assumption)  : CallOK P 61 _ _ _ _), ?_⟩
           rcases t0 with _ | _ <;> rcases t1 with _ | _ <;> (try simp only [bs, eq_self, if_true, if_false, reduceIte] at h) <;> (try (cases h; done)) <;> cbv)
        | ((with_reducible (have h0 : Option.bind (impl_MissingParts.f _ _ _ _ _) _ = some _ := h; clear h0))
           refine ⟨[], ?_⟩; cbv
           repeat (first | (refine all_show (by first | omega | decide) ?_; cbv) | (refine all_showT (by assumption) (by assumption) (by assumption) (by first | assumption | exact lt_ix (by assumption) (by assumption) (by assumption) | exact lt_ix2 (by assumption) (by assumption) (by assumption) (by assumption) | exact lt_y (by assumption) (by assumption) | exact le_y (by assumption) | exact ge_y (by assumption) | exact cut_le (by assumption) (by assumption) | omega) (by first | assumption | exact cut_hi (by assumption) | exact cut_hi2 (by assumption) (by assumption) | omega) ?_; intro D hD hnD g hgD; (try rw [hD] at h); cbv))
           obtain ⟨⟨t0, t1⟩, ht, h'⟩ := bind_some h
           clear h; have h := h'; clear h'; (try dsimp only at h)
           obtain ⟨n_c62_0, hn_c62_0⟩ : ∃ n, t0.length = n := ⟨_, rfl⟩; obtain ⟨g_t, hg_c62_0⟩ : ∃ g, encL eI t0 = g := ⟨_, rfl⟩; (try rw [hn_c62_0] at h)
           refine ⟨_, _, (hP ▸ impl_MissingParts_ok _ _ _ _ _ _ _ ht _ (by first | assumption | rfl) _ (by assumption) _ (by first | assumption | rfl) _ (by assumption) _ hn_c62_0 _ hg_c62_0 : CallOK P 62 _ _ _ _), ?_⟩
           rcases t1 with _ | _ <;> (try simp only [bs, eq_self, if_true, if_false, reduceIte] at h) <;> (try (cases h; done)) <;> cbv)
        | ((with_reducible (have h0 : Option.bind (spec_MissingParts.f _ _ _ _ _) _ = some _ := h; clear h0))
           refine ⟨[], ?_⟩; cbv
           repeat (first | (refine all_show (by first | omega | decide) ?_; cbv) | (refine all_showT (by assumption) (by assumption) (by assumption) (by first | assumption | exact lt_ix (by assumption) (by assumption) (by assumption) | exact lt_ix2 (by assumption) (by assumption) (by assumption) (by assumption) | exact lt_y (by assumption) (by assumption) | exact le_y (by assumption) | exact ge_y (by assumption) | exact cut_le (by assumption) (by assumption) | omega) (by first | assumption | exact cut_hi (by assumption) | exact cut_hi2 (by assumption) (by assumption) | omega) ?_; intro D hD hnD g hgD; (try rw [hD] at h); cbv))
           obtain ⟨⟨t0, t1⟩, ht, h'⟩ := bind_some h
           clear h; have h := h'; clear h'; (try dsimp only at h)
           obtain ⟨n_c63_0, hn_c63_0⟩ : ∃ n, t0.length = n := ⟨_, rfl⟩; obtain ⟨g_t, hg_c63_0⟩ : ∃ g, encL eI t0 = g := ⟨_, rfl⟩; (try rw [hn_c63_0] at h)
           refine ⟨_, _, (hP ▸ spec_MissingParts_ok _ _ _ _ _ _ _ ht _ (by first | assumption | rfl) _ (by assumption) _ (by first | assumption | rfl) _ (by assumption) _ hn_c63_0 _ hg_c63_0 : CallOK P 63 _ _ _ _), ?_⟩
           rcases t1 with _ | _ <;> (try simp only [bs, eq_self, if_true, if_false, reduceIte] at h) <;> (try (cases h; done)) <;> cbv)
        | ((with_reducible (have h0 : Option.bind (impl_RestOfKit.f _ _ _ _ _) _ = some _ := h; clear h0))
           refine ⟨[], ?_⟩; cbv
           repeat (first | (refine all_show (by first | omega | decide) ?_; cbv) | (refine all_showT (by assumption) (by assumption) (by assumption) (by first | assumption | exact lt_ix (by assumption) (by assumption) (by assumption) | exact lt_ix2 (by assumption) (by assumption) (by assumption) (by assumption) | exact lt_y (by assumption) (by assumption) | exact le_y (by assumption) | exact ge_y (by assumption) | exact cut_le (by assumption) (by assumption) | omega) (by first | assumption | exact cut_hi (by assumption) | exact cut_hi2 (by assumption) (by assumption) | omega) ?_; intro D hD hnD g hgD; (try rw [hD] at h); cbv))
           obtain ⟨⟨t0, t1⟩, ht, h'⟩ := bind_some h
           clear h; have h := h'; clear h'; (try dsimp only at h)
           obtain ⟨n_c64_0, hn_c64_0⟩ : ∃ n, t0.length = n := ⟨_, rfl⟩; obtain ⟨g_t, hg_c64_0⟩ : ∃ g, encL eI t0 = g := ⟨_, rfl⟩; (try rw [hn_c64_0] at h)
           refine ⟨_, _, (hP ▸ impl_RestOfKit_ok _ _ _ _ _ _ _ ht _ (by first | assumption | rfl) _ (by assumption) _ (by first | assumption | rfl) _ (by assumption) _ hn_c64_0 _ hg_c64_0 : CallOK P 64 _ _ _ _), ?_⟩
           rcases t1 with _ | _ <;> (try simp only [bs, eq_self, if_true, if_false, reduceIte] at h) <;> (try (cases h; done)) <;> cbv)
        | ((with_reducible (have h0 : Option.bind (spec_RestOfKit.f _ _ _ _ _) _ = some _ := h; clear h0))
           refine ⟨[], ?_⟩; cbv
           repeat (first | (refine all_show (by first | omega | decide) ?_; cbv) | (refine all_showT (by assumption) (by assumption) (by assumption) (by first | assumption | exact lt_ix (by assumption) (by assumption) (by assumption) | exact lt_ix2 (by assumption) (by assumption) (by assumption) (by assumption) | exact lt_y (by assumption) (by assumption) | exact le_y (by assumption) | exact ge_y (by assumption) | exact cut_le (by assumption) (by assumption) | omega) (by first | assumption | exact cut_hi (by assumption) | exact cut_hi2 (by assumption) (by assumption) | omega) ?_; intro D hD hnD g hgD; (try rw [hD] at h); cbv))
           obtain ⟨⟨t0, t1⟩, ht, h'⟩ := bind_some h
           clear h; have h := h'; clear h'; (try dsimp only at h)
           obtain ⟨n_c65_0, hn_c65_0⟩ : ∃ n, t0.length = n := ⟨_, rfl⟩; obtain ⟨g_t, hg_c65_0⟩ : ∃ g, encL eI t0 = g := ⟨_, rfl⟩; (try rw [hn_c65_0] at h)
           refine ⟨_, _, (hP ▸ spec_RestOfKit_ok _ _ _ _ _ _ _ ht _ (by first | assumption | rfl) _ (by assumption) _ (by first | assumption | rfl) _ (by assumption) _ hn_c65_0 _ hg_c65_0 : CallOK P 65 _ _ _ _), ?_⟩
           rcases t1 with _ | _ <;> (try simp only [bs, eq_self, if_true, if_false, reduceIte] at h) <;> (try (cases h; done)) <;> cbv)
        | ((with_reducible (have h0 : Option.bind (impl_MostCopies.f _ _ _ _ _) _ = some _ := h; clear h0))
           refine ⟨[], ?_⟩; cbv
           repeat (first | (refine all_show (by first | omega | decide) ?_; cbv) | (refine all_showT (by assumption) (by assumption) (by assumption) (by first | assumption | exact lt_ix (by assumption) (by assumption) (by assumption) | exact lt_ix2 (by assumption) (by assumption) (by assumption) (by assumption) | exact lt_y (by assumption) (by assumption) | exact le_y (by assumption) | exact ge_y (by assumption) | exact cut_le (by assumption) (by assumption) | omega) (by first | assumption | exact cut_hi (by assumption) | exact cut_hi2 (by assumption) (by assumption) | omega) ?_; intro D hD hnD g hgD; (try rw [hD] at h); cbv))
           obtain ⟨⟨t0, t1⟩, ht, h'⟩ := bind_some h
           clear h; have h := h'; clear h'; (try dsimp only at h)
           refine ⟨_, _, (hP ▸ impl_MostCopies_ok _ _ _ _ _ _ _ ht _ (by first | assumption | rfl) _ (by assumption) _ (by first | assumption | rfl) _ (by assumption)  : CallOK P 66 _ _ _ _), ?_⟩
           rcases t1 with _ | _ <;> (try simp only [bs, eq_self, if_true, if_false, reduceIte] at h) <;> (try (cases h; done)) <;> cbv)
        | ((with_reducible (have h0 : Option.bind (spec_MostCopies.f _ _ _ _ _) _ = some _ := h; clear h0))
           refine ⟨[], ?_⟩; cbv
           repeat (first | (refine all_show (by first | omega | decide) ?_; cbv) | (refine all_showT (by assumption) (by assumption) (by assumption) (by first | assumption | exact lt_ix (by assumption) (by assumption) (by assumption) | exact lt_ix2 (by assumption) (by assumption) (by assumption) (by assumption) | exact lt_y (by assumption) (by assumption) | exact le_y (by assumption) | exact ge_y (by assumption) | exact cut_le (by assumption) (by assumption) | omega) (by first | assumption | exact cut_hi (by assumption) | exact cut_hi2 (by assumption) (by assumption) | omega) ?_; intro D hD hnD g hgD; (try rw [hD] at h); cbv))
           obtain ⟨⟨t0, t1⟩, ht, h'⟩ := bind_some h
           clear h; have h := h'; clear h'; (try dsimp only at h)
           refine ⟨_, _, (hP ▸ spec_MostCopies_ok _ _ _ _ _ _ _ ht _ (by first | assumption | rfl) _ (by assumption) _ (by first | assumption | rfl) _ (by assumption)  : CallOK P 67 _ _ _ _), ?_⟩
           rcases t1 with _ | _ <;> (try simp only [bs, eq_self, if_true, if_false, reduceIte] at h) <;> (try (cases h; done)) <;> cbv)
        | ((with_reducible (have h0 : Option.bind (impl_NeededParts.f _ _ _ _) _ = some _ := h; clear h0))
           refine ⟨[], ?_⟩; cbv
           repeat (first | (refine all_show (by first | omega | decide) ?_; cbv) | (refine all_showT (by assumption) (by assumption) (by assumption) (by first | assumption | exact lt_ix (by assumption) (by assumption) (by assumption) | exact lt_ix2 (by assumption) (by assumption) (by assumption) (by assumption) | exact lt_y (by assumption) (by assumption) | exact le_y (by assumption) | exact ge_y (by assumption) | exact cut_le (by assumption) (by assumption) | omega) (by first | assumption | exact cut_hi (by assumption) | exact cut_hi2 (by assumption) (by assumption) | omega) ?_; intro D hD hnD g hgD; (try rw [hD] at h); cbv))
           obtain ⟨⟨t0, t1⟩, ht, h'⟩ := bind_some h
           clear h; have h := h'; clear h'; (try dsimp only at h)
           obtain ⟨n_c68_0, hn_c68_0⟩ : ∃ n, t0.length = n := ⟨_, rfl⟩; obtain ⟨g_t, hg_c68_0⟩ : ∃ g, encL eI t0 = g := ⟨_, rfl⟩; (try rw [hn_c68_0] at h)
           refine ⟨_, _, (hP ▸ impl_NeededParts_ok _ _ _ _ _ _ ht _ (by first | assumption | rfl) _ (by assumption) _ hn_c68_0 _ hg_c68_0 : CallOK P 68 _ _ _ _), ?_⟩
           rcases t1 with _ | _ <;> (try simp only [bs, eq_self, if_true, if_false, reduceIte] at h) <;> (try (cases h; done)) <;> cbv)
        | ((with_reducible (have h0 : Option.bind (spec_NeededParts.f _ _ _ _) _ = some _ := h; clear h0))
           refine ⟨[], ?_⟩; cbv
           repeat (first | (refine all_show (by first | omega | decide) ?_; cbv) | (refine all_showT (by assumption) (by assumption) (by assumption) (by first | assumption | exact lt_ix (by assumption) (by assumption) (by assumption) | exact lt_ix2 (by assumption) (by assumption) (by assumption) (by assumption) | exact lt_y (by assumption) (by assumption) | exact le_y (by assumption) | exact ge_y (by assumption) | exact cut_le (by assumption) (by assumption) | omega) (by first | assumption | exact cut_hi (by assumption) | exact cut_hi2 (by assumption) (by assumption) | omega) ?_; intro D hD hnD g hgD; (try rw [hD] at h); cbv))
           obtain ⟨⟨t0, t1⟩, ht, h'⟩ := bind_some h
           clear h; have h := h'; clear h'; (try dsimp only at h)
           obtain ⟨n_c69_0, hn_c69_0⟩ : ∃ n, t0.length = n := ⟨_, rfl⟩; obtain ⟨g_t, hg_c69_0⟩ : ∃ g, encL eI t0 = g := ⟨_, rfl⟩; (try rw [hn_c69_0] at h)
           refine ⟨_, _, (hP ▸ spec_NeededParts_ok _ _ _ _ _ _ ht _ (by first | assumption | rfl) _ (by assumption) _ hn_c69_0 _ hg_c69_0 : CallOK P 69 _ _ _ _), ?_⟩
           rcases t1 with _ | _ <;> (try simp only [bs, eq_self, if_true, if_false, reduceIte] at h) <;> (try (cases h; done)) <;> cbv)
        | ((with_reducible (have h0 : Option.bind (laws_pSum.f _ _) _ = some _ := h; clear h0))
           refine ⟨[], ?_⟩; cbv
           repeat (first | (refine all_show (by first | omega | decide) ?_; cbv) | (refine all_showT (by assumption) (by assumption) (by assumption) (by first | assumption | exact lt_ix (by assumption) (by assumption) (by assumption) | exact lt_ix2 (by assumption) (by assumption) (by assumption) (by assumption) | exact lt_y (by assumption) (by assumption) | exact le_y (by assumption) | exact ge_y (by assumption) | exact cut_le (by assumption) (by assumption) | omega) (by first | assumption | exact cut_hi (by assumption) | exact cut_hi2 (by assumption) (by assumption) | omega) ?_; intro D hD hnD g hgD; (try rw [hD] at h); cbv))
           obtain ⟨t, ht, h'⟩ := bind_some h
           clear h; have h := h'; clear h'; (try dsimp only at h)
           refine ⟨_, _, (hP ▸ laws_pSum_ok _ _ _ ht _ (by first | assumption | rfl) _ (by assumption)  : CallOK P 70 _ _ _ _), ?_⟩; cbv)
        | ((with_reducible (have h0 : Option.bind (spec_DrawSharedKit.f _ _) _ = some _ := h; clear h0))
           refine ⟨[], ?_⟩; cbv
           repeat (first | (refine all_show (by first | omega | decide) ?_; cbv) | (refine all_showT (by assumption) (by assumption) (by assumption) (by first | assumption | exact lt_ix (by assumption) (by assumption) (by assumption) | exact lt_ix2 (by assumption) (by assumption) (by assumption) (by assumption) | exact lt_y (by assumption) (by assumption) | exact le_y (by assumption) | exact ge_y (by assumption) | exact cut_le (by assumption) (by assumption) | omega) (by first | assumption | exact cut_hi (by assumption) | exact cut_hi2 (by assumption) (by assumption) | omega) ?_; intro D hD hnD g hgD; (try rw [hD] at h); cbv))
           obtain ⟨t, ht, h'⟩ := bind_some h
           clear h; have h := h'; clear h'; (try dsimp only at h)
           obtain ⟨n_c71_0, hn_c71_0⟩ : ∃ n, t.length = n := ⟨_, rfl⟩; obtain ⟨g_t, hg_c71_0⟩ : ∃ g, encL e81 t = g := ⟨_, rfl⟩; (try rw [hn_c71_0] at h)
           refine ⟨_, _, (hP ▸ spec_DrawSharedKit_ok _ _ _ ht _ (by first | assumption | rfl) _ (by assumption) _ hn_c71_0 _ hg_c71_0 : CallOK P 71 _ _ _ _), ?_⟩; cbv)
        | ((with_reducible (have h0 : Option.bind (impl_SharedKit.f _ _) _ = some _ := h; clear h0))
           refine ⟨[], ?_⟩; cbv
           repeat (first | (refine all_show (by first | omega | decide) ?_; cbv) | (refine all_showT (by assumption) (by assumption) (by assumption) (by first | assumption | exact lt_ix (by assumption) (by assumption) (by assumption) | exact lt_ix2 (by assumption) (by assumption) (by assumption) (by assumption) | exact lt_y (by assumption) (by assumption) | exact le_y (by assumption) | exact ge_y (by assumption) | exact cut_le (by assumption) (by assumption) | omega) (by first | assumption | exact cut_hi (by assumption) | exact cut_hi2 (by assumption) (by assumption) | omega) ?_; intro D hD hnD g hgD; (try rw [hD] at h); cbv))
           obtain ⟨⟨t0, t1⟩, ht, h'⟩ := bind_some h
           clear h; have h := h'; clear h'; (try dsimp only at h)
           obtain ⟨n_c72_0, hn_c72_0⟩ : ∃ n, t0.length = n := ⟨_, rfl⟩; obtain ⟨g_t, hg_c72_0⟩ : ∃ g, encL eI t0 = g := ⟨_, rfl⟩; (try rw [hn_c72_0] at h)
           refine ⟨_, _, (hP ▸ impl_SharedKit_ok _ _ _ _ ht _ (by first | assumption | rfl) _ (by assumption) _ hn_c72_0 _ hg_c72_0 : CallOK P 72 _ _ _ _), ?_⟩
           rcases t1 with _ | _ <;> (try simp only [bs, eq_self, if_true, if_false, reduceIte] at h) <;> (try (cases h; done)) <;> cbv)
        | ((with_reducible (have h0 : Option.bind (spec_SharedKit.f _ _) _ = some _ := h; clear h0))
           refine ⟨[], ?_⟩; cbv
           repeat (first | (refine all_show (by first | omega | decide) ?_; cbv) | (refine all_showT (by assumption) (by assumption) (by assumption) (by first | assumption | exact lt_ix (by assumption) (by assumption) (by assumption) | exact lt_ix2 (by assumption) (by assumption) (by assumption) (by assumption) | exact lt_y (by assumption) (by assumption) | exact le_y (by assumption) | exact ge_y (by assumption) | exact cut_le (by assumption) (by assumption) | omega) (by first | assumption | exact cut_hi (by assumption) | exact cut_hi2 (by assumption) (by assumption) | omega) ?_; intro D hD hnD g hgD; (try rw [hD] at h); cbv))
           obtain ⟨⟨t0, t1⟩, ht, h'⟩ := bind_some h
           clear h; have h := h'; clear h'; (try dsimp only at h)
           obtain ⟨n_c73_0, hn_c73_0⟩ : ∃ n, t0.length = n := ⟨_, rfl⟩; obtain ⟨g_t, hg_c73_0⟩ : ∃ g, encL eI t0 = g := ⟨_, rfl⟩; (try rw [hn_c73_0] at h)
           refine ⟨_, _, (hP ▸ spec_SharedKit_ok _ _ _ _ ht _ (by first | assumption | rfl) _ (by assumption) _ hn_c73_0 _ hg_c73_0 : CallOK P 73 _ _ _ _), ?_⟩
           rcases t1 with _ | _ <;> (try simp only [bs, eq_self, if_true, if_false, reduceIte] at h) <;> (try (cases h; done)) <;> cbv)
        | ((with_reducible (have h0 : Option.bind (impl_SumKit.f _ _) _ = some _ := h; clear h0))
           refine ⟨[], ?_⟩; cbv
           repeat (first | (refine all_show (by first | omega | decide) ?_; cbv) | (refine all_showT (by assumption) (by assumption) (by assumption) (by first | assumption | exact lt_ix (by assumption) (by assumption) (by assumption) | exact lt_ix2 (by assumption) (by assumption) (by assumption) (by assumption) | exact lt_y (by assumption) (by assumption) | exact le_y (by assumption) | exact ge_y (by assumption) | exact cut_le (by assumption) (by assumption) | omega) (by first | assumption | exact cut_hi (by assumption) | exact cut_hi2 (by assumption) (by assumption) | omega) ?_; intro D hD hnD g hgD; (try rw [hD] at h); cbv))
           obtain ⟨⟨t0, t1⟩, ht, h'⟩ := bind_some h
           clear h; have h := h'; clear h'; (try dsimp only at h)
           obtain ⟨n_c74_0, hn_c74_0⟩ : ∃ n, t0.length = n := ⟨_, rfl⟩; obtain ⟨g_t, hg_c74_0⟩ : ∃ g, encL eI t0 = g := ⟨_, rfl⟩; (try rw [hn_c74_0] at h)
           refine ⟨_, _, (hP ▸ impl_SumKit_ok _ _ _ _ ht _ (by first | assumption | rfl) _ (by assumption) _ hn_c74_0 _ hg_c74_0 : CallOK P 74 _ _ _ _), ?_⟩
           rcases t1 with _ | _ <;> (try simp only [bs, eq_self, if_true, if_false, reduceIte] at h) <;> (try (cases h; done)) <;> cbv)
        | ((with_reducible (have h0 : Option.bind (spec_SumKit.f _ _) _ = some _ := h; clear h0))
           refine ⟨[], ?_⟩; cbv
           repeat (first | (refine all_show (by first | omega | decide) ?_; cbv) | (refine all_showT (by assumption) (by assumption) (by assumption) (by first | assumption | exact lt_ix (by assumption) (by assumption) (by assumption) | exact lt_ix2 (by assumption) (by assumption) (by assumption) (by assumption) | exact lt_y (by assumption) (by assumption) | exact le_y (by assumption) | exact ge_y (by assumption) | exact cut_le (by assumption) (by assumption) | omega) (by first | assumption | exact cut_hi (by assumption) | exact cut_hi2 (by assumption) (by assumption) | omega) ?_; intro D hD hnD g hgD; (try rw [hD] at h); cbv))
           obtain ⟨⟨t0, t1⟩, ht, h'⟩ := bind_some h
           clear h; have h := h'; clear h'; (try dsimp only at h)
           obtain ⟨n_c75_0, hn_c75_0⟩ : ∃ n, t0.length = n := ⟨_, rfl⟩; obtain ⟨g_t, hg_c75_0⟩ : ∃ g, encL eI t0 = g := ⟨_, rfl⟩; (try rw [hn_c75_0] at h)
           refine ⟨_, _, (hP ▸ spec_SumKit_ok _ _ _ _ ht _ (by first | assumption | rfl) _ (by assumption) _ hn_c75_0 _ hg_c75_0 : CallOK P 75 _ _ _ _), ?_⟩
           rcases t1 with _ | _ <;> (try simp only [bs, eq_self, if_true, if_false, reduceIte] at h) <;> (try (cases h; done)) <;> cbv))
    | ((with_reducible show ∃ _ : Nat → St → Prop, _)
       first
        | (refine ⟨fun k1 s => ∃ x1 x5 x16 x17 x21 x197 x198 x199 n_x1 g_x1 n_x5 g_x5 n_x17 g_x17 n_x197 g_x197, laws_FnKits.l0 k1 x1 x5 x16 x17 x21 x197 x198 x199 = some r0 ∧ x1.length = n_x1 ∧ encL eU x1 = g_x1 ∧ x5.length = n_x5 ∧ encL eI x5 = g_x5 ∧ x17.length = n_x17 ∧ encL eI x17 = g_x17 ∧ x197.length = n_x197 ∧ encL eI x197 = g_x197 ∧ s = ⟨⟨334, (upd 334 (upd 334 (upd 334 (upd 334 (upd 334 (upd 334 (upd 334 (upd 334 noT 199 (.val (.int .i64 x199))) 198 (.val (.int .i64 x198))) 197 (.fz 1 n_x197 g_x197)) 21 (.val (.int .i64 x21))) 17 (.fz 1 n_x17 g_x17)) 16 (.val (.bool x16))) 5 (.fz 1 n_x5 g_x5)) 1 (.fz 1 n_x1 g_x1))⟩, []⟩, ?_, [], ?_⟩
           rotate_left
           · cbv; exact ⟨_, [1, 5, 16, 17, 21, 197, 198, 199], by cbv; exact ⟨_, _, _, _, _, _, _, _, _, _, _, _, _, _, _, _, h, by first | assumption | rfl, by first | assumption | rfl, by first | assumption | rfl, by first | assumption | rfl, by first | assumption | rfl, by first | assumption | rfl, by first | assumption | rfl, by first | assumption | rfl, rfl⟩⟩
           clear h
           rintro (_ | k1) s1 ⟨x1, x5, x16, x17, x21, x197, x198, x199, n_x1, g_x1, n_x5, g_x5, n_x17, g_x17, n_x197, g_x197, h, hn_x1, hg_x1, hn_x5, hg_x5, hn_x17, hg_x17, hn_x197, hg_x197, rfl⟩
           · cases h
           unfold laws_FnKits.l0 at h
           (try rw [hn_x1] at h); (try rw [hn_x5] at h); (try rw [hn_x17] at h); (try rw [hn_x197] at h); skip
           rcases x16 with _ | _ <;> (try simp only [bs, eq_self, if_true, if_false, reduceIte] at h) <;> (try (cases h; done)) <;> cbv)
        | (refine ⟨fun k1 s => ∃ x32 x36 x38 x277 x278 x279 n_x32 g_x32 n_x36 g_x36 n_x277 g_x277, laws_FnKits.l1 k1 x32 x36 x38 x277 x278 x279 = some r0 ∧ x32.length = n_x32 ∧ encL eI x32 = g_x32 ∧ x36.length = n_x36 ∧ encL eI x36 = g_x36 ∧ x277.length = n_x277 ∧ encL e81 x277 = g_x277 ∧ s = ⟨⟨334, (upd 334 (upd 334 (upd 334 (upd 334 (upd 334 (upd 334 noT 279 (.val (.int .i64 x279))) 278 (.val (.int .i64 x278))) 277 (.fz 3 n_x277 g_x277)) 38 (.val (.int .i64 x38))) 36 (.fz 1 n_x36 g_x36)) 32 (.fz 1 n_x32 g_x32))⟩, []⟩, ?_, [], ?_⟩
           rotate_left
           · cbv; exact ⟨_, [32, 36, 38, 277, 278, 279], by cbv; exact ⟨_, _, _, _, _, _, _, _, _, _, _, _, h, by first | assumption | rfl, by first | assumption | rfl, by first | assumption | rfl, by first | assumption | rfl, by first | assumption | rfl, by first | assumption | rfl, rfl⟩⟩
           clear h
           rintro (_ | k1) s1 ⟨x32, x36, x38, x277, x278, x279, n_x32, g_x32, n_x36, g_x36, n_x277, g_x277, h, hn_x32, hg_x32, hn_x36, hg_x36, hn_x277, hg_x277, rfl⟩
           · cases h
           unfold laws_FnKits.l1 at h
           (try rw [hn_x32] at h); (try rw [hn_x36] at h); (try rw [hn_x277] at h); skip
           cbv))
    | ((with_reducible show ∃ _ : Jt _, _)
       first
        | ((with_reducible show ∃ _ : Jt 161, _)
           refine ⟨fun s => ∃ k x1 n_x1 g_x1, laws_FnKits.j1 k x1 = some r0 ∧ x1.length = n_x1 ∧ encL eU x1 = g_x1 ∧ s = ⟨⟨334, (upd 334 noT 1 (.fz 1 n_x1 g_x1))⟩, []⟩, ?_, ?_⟩
           clear h; rintro s1 ⟨k, x1, n_x1, g_x1, h, hn_x1, hg_x1, rfl⟩; rcases k with _ | k; (· cases h); unfold laws_FnKits.j1 at h; (try dsimp only at h)
           all_goals cbv))
    | ((with_reducible (have h0 : laws_FnKits.j0 _ _ _ _ _ _ _ _ = some _ := h; clear h0))
       rcases k with _ | k
       · cases h
       unfold laws_FnKits.j0 at h
       (try dsimp only at h); (try simp only [bs, eq_self, if_true, if_false, reduceIte] at h); (try rw [hn_l0] at h); (try rw [show (Nat.cast n_l0 : Int) = _ from (by assumption)] at h); (try rw [show (NatCast.natCast n_l0 : Int) = _ from (by assumption)] at h); (try (simp only [Nat.cast] at h; rw [show (NatCast.natCast n_l0 : Int) = _ from (by assumption)] at h)); (try rw [hn_l1] at h); (try rw [show (Nat.cast n_l1 : Int) = _ from (by assumption)] at h); (try rw [show (NatCast.natCast n_l1 : Int) = _ from (by assumption)] at h); (try (simp only [Nat.cast] at h; rw [show (NatCast.natCast n_l1 : Int) = _ from (by assumption)] at h)); (try rw [hn_c59_0] at h); (try rw [show (Nat.cast n_c59_0 : Int) = _ from (by assumption)] at h); (try rw [show (NatCast.natCast n_c59_0 : Int) = _ from (by assumption)] at h); (try (simp only [Nat.cast] at h; rw [show (NatCast.natCast n_c59_0 : Int) = _ from (by assumption)] at h)); (try rw [hn_c59_3] at h); (try rw [show (Nat.cast n_c59_3 : Int) = _ from (by assumption)] at h); (try rw [show (NatCast.natCast n_c59_3 : Int) = _ from (by assumption)] at h); (try (simp only [Nat.cast] at h; rw [show (NatCast.natCast n_c59_3 : Int) = _ from (by assumption)] at h)); (try rw [hn_c62_0] at h); (try rw [show (Nat.cast n_c62_0 : Int) = _ from (by assumption)] at h); (try rw [show (NatCast.natCast n_c62_0 : Int) = _ from (by assumption)] at h); (try (simp only [Nat.cast] at h; rw [show (NatCast.natCast n_c62_0 : Int) = _ from (by assumption)] at h)); (try rw [hn_c63_0] at h); (try rw [show (Nat.cast n_c63_0 : Int) = _ from (by assumption)] at h); (try rw [show (NatCast.natCast n_c63_0 : Int) = _ from (by assumption)] at h); (try (simp only [Nat.cast] at h; rw [show (NatCast.natCast n_c63_0 : Int) = _ from (by assumption)] at h)); (try rw [hn_c64_0] at h); (try rw [show (Nat.cast n_c64_0 : Int) = _ from (by assumption)] at h); (try rw [show (NatCast.natCast n_c64_0 : Int) = _ from (by assumption)] at h); (try (simp only [Nat.cast] at h; rw [show (NatCast.natCast n_c64_0 : Int) = _ from (by assumption)] at h)); (try rw [hn_c65_0] at h); (try rw [show (Nat.cast n_c65_0 : Int) = _ from (by assumption)] at h); (try rw [show (NatCast.natCast n_c65_0 : Int) = _ from (by assumption)] at h); (try (simp only [Nat.cast] at h; rw [show (NatCast.natCast n_c65_0 : Int) = _ from (by assumption)] at h)); (try rw [hn_c68_0] at h); (try rw [show (Nat.cast n_c68_0 : Int) = _ from (by assumption)] at h); (try rw [show (NatCast.natCast n_c68_0 : Int) = _ from (by assumption)] at h); (try (simp only [Nat.cast] at h; rw [show (NatCast.natCast n_c68_0 : Int) = _ from (by assumption)] at h)); (try rw [hn_c69_0] at h); (try rw [show (Nat.cast n_c69_0 : Int) = _ from (by assumption)] at h); (try rw [show (NatCast.natCast n_c69_0 : Int) = _ from (by assumption)] at h); (try (simp only [Nat.cast] at h; rw [show (NatCast.natCast n_c69_0 : Int) = _ from (by assumption)] at h)); (try rw [hn_c71_0] at h); (try rw [show (Nat.cast n_c71_0 : Int) = _ from (by assumption)] at h); (try rw [show (NatCast.natCast n_c71_0 : Int) = _ from (by assumption)] at h); (try (simp only [Nat.cast] at h; rw [show (NatCast.natCast n_c71_0 : Int) = _ from (by assumption)] at h)); (try rw [hn_c72_0] at h); (try rw [show (Nat.cast n_c72_0 : Int) = _ from (by assumption)] at h); (try rw [show (NatCast.natCast n_c72_0 : Int) = _ from (by assumption)] at h); (try (simp only [Nat.cast] at h; rw [show (NatCast.natCast n_c72_0 : Int) = _ from (by assumption)] at h)); (try rw [hn_c73_0] at h); (try rw [show (Nat.cast n_c73_0 : Int) = _ from (by assumption)] at h); (try rw [show (NatCast.natCast n_c73_0 : Int) = _ from (by assumption)] at h); (try (simp only [Nat.cast] at h; rw [show (NatCast.natCast n_c73_0 : Int) = _ from (by assumption)] at h)); (try rw [hn_c74_0] at h); (try rw [show (Nat.cast n_c74_0 : Int) = _ from (by assumption)] at h); (try rw [show (NatCast.natCast n_c74_0 : Int) = _ from (by assumption)] at h); (try (simp only [Nat.cast] at h; rw [show (NatCast.natCast n_c74_0 : Int) = _ from (by assumption)] at h)); (try rw [hn_c75_0] at h); (try rw [show (Nat.cast n_c75_0 : Int) = _ from (by assumption)] at h); (try rw [show (NatCast.natCast n_c75_0 : Int) = _ from (by assumption)] at h); (try (simp only [Nat.cast] at h; rw [show (NatCast.natCast n_c75_0 : Int) = _ from (by assumption)] at h)); (try rw [hn_x1] at h); (try rw [show (Nat.cast n_x1 : Int) = _ from (by assumption)] at h); (try rw [show (NatCast.natCast n_x1 : Int) = _ from (by assumption)] at h); (try (simp only [Nat.cast] at h; rw [show (NatCast.natCast n_x1 : Int) = _ from (by assumption)] at h)); (try rw [hn_x5] at h); (try rw [show (Nat.cast n_x5 : Int) = _ from (by assumption)] at h); (try rw [show (NatCast.natCast n_x5 : Int) = _ from (by assumption)] at h); (try (simp only [Nat.cast] at h; rw [show (NatCast.natCast n_x5 : Int) = _ from (by assumption)] at h)); (try rw [hn_x17] at h); (try rw [show (Nat.cast n_x17 : Int) = _ from (by assumption)] at h); (try rw [show (NatCast.natCast n_x17 : Int) = _ from (by assumption)] at h); (try (simp only [Nat.cast] at h; rw [show (NatCast.natCast n_x17 : Int) = _ from (by assumption)] at h)); (try rw [hn_x197] at h); (try rw [show (Nat.cast n_x197 : Int) = _ from (by assumption)] at h); (try rw [show (NatCast.natCast n_x197 : Int) = _ from (by assumption)] at h); (try (simp only [Nat.cast] at h; rw [show (NatCast.natCast n_x197 : Int) = _ from (by assumption)] at h)); (try rw [hn_x32] at h); (try rw [show (Nat.cast n_x32 : Int) = _ from (by assumption)] at h); (try rw [show (NatCast.natCast n_x32 : Int) = _ from (by assumption)] at h); (try (simp only [Nat.cast] at h; rw [show (NatCast.natCast n_x32 : Int) = _ from (by assumption)] at h)); (try rw [hn_x36] at h); (try rw [show (Nat.cast n_x36 : Int) = _ from (by assumption)] at h); (try rw [show (NatCast.natCast n_x36 : Int) = _ from (by assumption)] at h); (try (simp only [Nat.cast] at h; rw [show (NatCast.natCast n_x36 : Int) = _ from (by assumption)] at h)); (try rw [hn_x277] at h); (try rw [show (Nat.cast n_x277 : Int) = _ from (by assumption)] at h); (try rw [show (NatCast.natCast n_x277 : Int) = _ from (by assumption)] at h); (try (simp only [Nat.cast] at h; rw [show (NatCast.natCast n_x277 : Int) = _ from (by assumption)] at h)))
    | ((with_reducible show ∀ _ : Bool, _)
       first
        | (refine all_lt ?_ ?_ <;> (intro hd; first | exact absurd rfl hd | ((first | rw [if_pos hd] at h | rw [if_neg hd] at h | rw [if_pos (by omega)] at h | rw [if_neg (by omega)] at h | skip); (first | (rw [decide_eq_true hd] at h; (try simp only [bs, eq_self, if_true, if_false, reduceIte] at h)) | (rw [decide_eq_false hd] at h; (try simp only [bs, eq_self, if_true, if_false, reduceIte] at h)) | skip); cbv)))
        | (refine all_le ?_ ?_ <;> (intro hd; first | exact absurd rfl hd | ((first | rw [if_pos hd] at h | rw [if_neg hd] at h | rw [if_pos (by omega)] at h | rw [if_neg (by omega)] at h | skip); (first | (rw [decide_eq_true hd] at h; (try simp only [bs, eq_self, if_true, if_false, reduceIte] at h)) | (rw [decide_eq_false hd] at h; (try simp only [bs, eq_self, if_true, if_false, reduceIte] at h)) | skip); cbv)))
        | (refine all_beq ?_ ?_ <;> (intro hd; first | exact absurd rfl hd | ((first | rw [if_pos hd] at h | rw [if_neg hd] at h | rw [if_pos (by omega)] at h | rw [if_neg (by omega)] at h | skip); (first | (rw [beq_pos hd] at h; (try simp only [bs, eq_self, if_true, if_false, reduceIte] at h)) | (rw [beq_neg hd] at h; (try simp only [bs, eq_self, if_true, if_false, reduceIte] at h)) | skip); cbv)))
        | (refine all_bne ?_ ?_ <;> (intro hd; first | exact absurd rfl hd | ((first | rw [if_pos hd] at h | rw [if_neg hd] at h | rw [if_pos (by omega)] at h | rw [if_neg (by omega)] at h | skip); (first | (rw [bne_pos hd] at h; (try simp only [bs, eq_self, if_true, if_false, reduceIte] at h)) | (rw [bne_neg hd] at h; (try simp only [bs, eq_self, if_true, if_false, reduceIte] at h)) | skip); cbv))))
    | ((with_reducible show ∀ _ : Int, _)
       first
        | (refine all_wrap ?_; intro y hy; (try rw [hy] at h); cbv)
        | (refine all_len ?_; intro y hy; (try replace hy : ((_ : Nat) : Int) = y := hy); (try rw [hy] at h); (try rw [show (NatCast.natCast _ : Int) = _ from hy] at h); cbv))
    | ((with_reducible show ∀ _ : List V, _)
       first
        | (refine @all_rd_old _ _ eI rd ?_ ?_ ?_ ?_ _ _ _ (fun _ _ => rfl) ?_ ?_ ?_ ?_ ?_ ?_ ?_
           rotate_left 4
           assumption
           assumption
           (first | rfl | assumption)
           (first | assumption | exact lt_ix (by assumption) (by assumption) (by assumption) | exact lt_ix2 (by assumption) (by assumption) (by assumption) (by assumption) | exact lt_y (by assumption) (by assumption) | exact le_y (by assumption) | exact ge_y (by assumption) | exact cut_le (by assumption) (by assumption) | omega)
           (first | assumption | exact lt_ix (by assumption) (by assumption) (by assumption) | exact lt_ix2 (by assumption) (by assumption) (by assumption) (by assumption) | exact lt_y (by assumption) (by assumption) | exact le_y (by assumption) | exact ge_y (by assumption) | exact cut_le (by assumption) (by assumption) | omega)
           assumption
           cbv)
        | (refine @all_rd _ _ eI rd ?_ ?_ ?_ _ _ _ (fun _ _ => rfl) ?_ ?_ ?_ ?_ ?_ ?_
           rotate_left 3
           assumption
           assumption
           (first | rfl | assumption)
           (first | assumption | exact lt_ix (by assumption) (by assumption) (by assumption) | exact lt_ix2 (by assumption) (by assumption) (by assumption) (by assumption) | exact lt_y (by assumption) (by assumption) | exact le_y (by assumption) | exact ge_y (by assumption) | exact cut_le (by assumption) (by assumption) | omega)
           (first | assumption | exact lt_ix (by assumption) (by assumption) (by assumption) | exact lt_ix2 (by assumption) (by assumption) (by assumption) (by assumption) | exact lt_y (by assumption) (by assumption) | exact le_y (by assumption) | exact ge_y (by assumption) | exact cut_le (by assumption) (by assumption) | omega)
           intro z hz
           (try rw [hz] at h); cbv)
        | (refine @all_rd81 ?_ ?_ ?_ _ _ _ ?_ ?_ ?_ ?_ ?_ ?_
           rotate_left 3
           assumption
           assumption
           (first | rfl | assumption)
           (first | assumption | exact lt_ix (by assumption) (by assumption) (by assumption) | exact lt_ix2 (by assumption) (by assumption) (by assumption) (by assumption) | exact lt_y (by assumption) (by assumption) | exact le_y (by assumption) | exact ge_y (by assumption) | exact cut_le (by assumption) (by assumption) | omega)
           (first | assumption | exact lt_ix (by assumption) (by assumption) (by assumption) | exact lt_ix2 (by assumption) (by assumption) (by assumption) (by assumption) | exact lt_y (by assumption) (by assumption) | exact le_y (by assumption) | exact ge_y (by assumption) | exact cut_le (by assumption) (by assumption) | omega)
           intro z hz n_z hn_z g_z hg_z; (try rw [hz] at h); (try rw [hn_z] at h); cbv))
    | (obtain ⟨hc, h'⟩ := if_none h; clear h; have h := h'; clear h'; subst hc; (try (have e := hn_c63_0.symm.trans hn_c62_0; subst e)); (try (have e := hg_c63_0.symm.trans hg_c62_0; subst e)); (try (have e := hn_c65_0.symm.trans hn_c64_0; subst e)); (try (have e := hg_c65_0.symm.trans hg_c64_0; subst e)); (try (have e := hn_c69_0.symm.trans hn_c68_0; subst e)); (try (have e := hg_c69_0.symm.trans hg_c68_0; subst e)); (try (have e := hn_c73_0.symm.trans hn_c72_0; subst e)); (try (have e := hg_c73_0.symm.trans hg_c72_0; subst e)); (try (have e := hn_c75_0.symm.trans hn_c74_0; subst e)); (try (have e := hg_c75_0.symm.trans hg_c74_0; subst e)))
    | (obtain ⟨hc, h'⟩ := if_none h; clear h; have h := h'; clear h')
    | (cases h; done)
    | (simp only [Option.some.injEq, Prod.mk.injEq] at h; subst h)
    | trivial)

end Go.Proofs.Ythhoobpmjgpkkaa.E
