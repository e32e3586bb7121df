/- The functions and what they answer, proved over the engine; printed by a program. -/
import Derived.Test.YthhoobpmjgpkkaaQ1
set_option linter.unusedVariables false
set_option linter.unusedSimpArgs false
set_option maxRecDepth 10000
set_option maxHeartbeats 40000000
namespace Go.Proofs.Ythhoobpmjgpkkaa.E
open Go Go.Sim Go.Proofs Go.RowKit Go.Proofs.YthhoobpmjgpkkaaW.PrintWords Go.Proofs.YthhoobpmjgpkkaaW.PrintMore
def impl_MissingParts.l0 : Nat → List Int → List Int → Int → Int → Option (List Int × Bool)
  | 0, _, _, _, _ => none
  | k + 1, x0, x6, x19, x20 => if x20 < x19 then (if 0 ≤ x20 then (if x20 < (x6.length : Int) then (if x20 < (x0.length : Int) then (impl_MissingParts.l0 k x0 (x6.set (x20 : Int).toNat (mx 0 (wrap64 ((rd x6 x20) - (rd x0 x20))))) x19 (wrap64 (x20 + 1))) else (none)) else (none)) else (none)) else (some (x6, true))
def impl_MissingParts.j0 : Nat → List Int → Bool → Int → Int → List (S116) → Option (List Int × Bool)
  | 0, _, _, _, _, _ => none
  | k + 1, x0, x15, x1363000, x1363001, x1363002 => if x15 = true then (some (([] : List Int), false)) else ((impl_neededParts.f k x1363000 x1363001 x1363002).bind fun t1365 => (impl_MissingParts.l0 k x0 t1365 (t1365.length : Int) 0))
def impl_MissingParts.f (k : Nat) (l0 : List Int) (a1_0 : Int) (a1_1 : Int) (l1_2 : List (S116)) : Option (List Int × Bool) := (impl_isKit.f k l0).bind fun t1363 => (if t1363 = true then ((impl_IsBoard.f k a1_0 a1_1 l1_2).bind fun t1364 => (impl_MissingParts.j0 k l0 (!t1364) a1_0 a1_1 l1_2)) else (impl_MissingParts.j0 k l0 true a1_0 a1_1 l1_2))

theorem impl_MissingParts_ok (k : Nat) (l0 : List Int) (a1_0 : Int) (a1_1 : Int) (l1_2 : List (S116)) (r0 : List Int) (r1 : Bool) (h : impl_MissingParts.f k l0 a1_0 a1_1 l1_2 = some (r0, r1)) (n_l0 : Nat) (hn_l0 : l0.length = n_l0) (g_l0 : Nat → List V) (hg_l0 : encL eI l0 = g_l0) (n_l1_2 : Nat) (hn_l1_2 : l1_2.length = n_l1_2) (g_l1_2 : Nat → List V) (hg_l1_2 : encL e116 l1_2 = g_l1_2) (n_r0 : Nat) (hn_r0 : r0.length = n_r0) (g_r0 : Nat → List V) (hg_r0 : encL eI r0 = g_r0) : CallOK Try.prog 62 [.fz 1 n_l0 g_l0, .agg [.val (.int .i64 a1_0), .val (.int .i64 a1_1), .fz 2 n_l1_2 g_l1_2]] [] (.tup [.row 0 0 n_r0, .val (.bool r1)]) [.row 3 1 n_r0 g_r0] := by
  refine CallOK.of_code tabOK Try.func62 rfl rfl ⟨[(3, [0, 3]), (8, [0, 6, 19, 20]), (9, [6])], []⟩ ?_
  unfold impl_MissingParts.f at h
  obtain ⟨P, hP⟩ : ∃ P, Try.prog = P := ⟨_, rfl⟩
  rw [hP]
  (try rw [hn_l0] at h); (try rw [hn_l1_2] at h); skip
  cbv
  repeat' (first
    | ((with_reducible show ∃ _, _)
       first
        | (refine ⟨trivial, ?_⟩; cbv)
        | (refine side (by first | with_reducible eq_refl | assumption | (intro _ _; with_reducible eq_refl) | exact lt_ix (by assumption) (by assumption) (by assumption) | exact lt_ix2 (by assumption) (by assumption) (by assumption) (by assumption) | exact lt_y (by assumption) (by assumption) | exact le_y (by assumption) | exact ge_y (by assumption) | exact cut_le (by assumption) (by assumption) | omega) ?_; (try cbv))
        | (refine bind_side (Eq.refl _) ?_; (try cbv))
        | (refine ⟨.kept, side (Eq.refl _) (side (by first | trivial | exact ⟨clean_enc (by assumption) (by assumption) (fun _ => rfl), trivial⟩) ?_)⟩; cbv)
        | (refine ⟨Frz.own, ?_⟩; cbv)
        | (refine ⟨.row, ?_⟩; cbv)
        | (refine ⟨.still 13, side (by decide +kernel) ?_⟩; cbv))
    | ((with_reducible show ∃ _ : Nat, _)
       first
        | (refine ⟨_, [0, 6, 19, 20], Nat.lt_succ_self _, ?_⟩; cbv; exact ⟨_, _, _, _, _, _, _, _, h, by first | assumption | rfl, by first | assumption | rfl, by first | assumption | rfl, by first | assumption | rfl, rfl⟩))
    | ((with_reducible show ∃ _ : List Nat, _)
       first
        | ((with_reducible (have h0 : Option.bind (impl_isKit.f _ _) _ = some _ := h; clear h0))
           refine ⟨[], ?_⟩; cbv
           repeat (first | (refine all_show (by first | omega | decide) ?_; cbv) | (refine all_showT (by assumption) (by assumption) (by assumption) (by first | assumption | exact lt_ix (by assumption) (by assumption) (by assumption) | exact lt_ix2 (by assumption) (by assumption) (by assumption) (by assumption) | exact lt_y (by assumption) (by assumption) | exact le_y (by assumption) | exact ge_y (by assumption) | exact cut_le (by assumption) (by assumption) | omega) (by first | assumption | exact cut_hi (by assumption) | exact cut_hi2 (by assumption) (by assumption) | omega) ?_; intro D hD hnD g hgD; (try rw [hD] at h); cbv))
           obtain ⟨t, ht, h'⟩ := bind_some h
           clear h; have h := h'; clear h'; (try dsimp only at h)
           refine ⟨_, _, (hP ▸ impl_isKit_ok _ _ _ ht _ (by first | assumption | rfl) _ (by assumption)  : CallOK P 115 _ _ _ _), ?_⟩
           rcases t with _ | _ <;> (try simp only [bs, eq_self, if_true, if_false, reduceIte] at h) <;> (try (cases h; done)) <;> cbv)
        | ((with_reducible (have h0 : Option.bind (impl_IsBoard.f _ _ _ _) _ = some _ := h; clear h0))
           refine ⟨[], ?_⟩; cbv
           repeat (first | (refine all_show (by first | omega | decide) ?_; cbv) | (refine all_showT (by assumption) (by assumption) (by assumption) (by first | assumption | exact lt_ix (by assumption) (by assumption) (by assumption) | exact lt_ix2 (by assumption) (by assumption) (by assumption) (by assumption) | exact lt_y (by assumption) (by assumption) | exact le_y (by assumption) | exact ge_y (by assumption) | exact cut_le (by assumption) (by assumption) | omega) (by first | assumption | exact cut_hi (by assumption) | exact cut_hi2 (by assumption) (by assumption) | omega) ?_; intro D hD hnD g hgD; (try rw [hD] at h); cbv))
           obtain ⟨t, ht, h'⟩ := bind_some h
           clear h; have h := h'; clear h'; (try dsimp only at h)
           refine ⟨_, _, (hP ▸ impl_IsBoard_ok _ _ _ _ _ ht _ (by first | assumption | rfl) _ (by assumption)  : CallOK P 169 _ _ _ _), ?_⟩
           rcases t with _ | _ <;> (try simp only [bs, eq_self, if_true, if_false, reduceIte] at h) <;> (try (cases h; done)) <;> cbv)
        | ((with_reducible (have h0 : Option.bind (impl_neededParts.f _ _ _ _) _ = some _ := h; clear h0))
           refine ⟨[], ?_⟩; cbv
           repeat (first | (refine all_show (by first | omega | decide) ?_; cbv) | (refine all_showT (by assumption) (by assumption) (by assumption) (by first | assumption | exact lt_ix (by assumption) (by assumption) (by assumption) | exact lt_ix2 (by assumption) (by assumption) (by assumption) (by assumption) | exact lt_y (by assumption) (by assumption) | exact le_y (by assumption) | exact ge_y (by assumption) | exact cut_le (by assumption) (by assumption) | omega) (by first | assumption | exact cut_hi (by assumption) | exact cut_hi2 (by assumption) (by assumption) | omega) ?_; intro D hD hnD g hgD; (try rw [hD] at h); cbv))
           obtain ⟨t, ht, h'⟩ := bind_some h
           clear h; have h := h'; clear h'; (try dsimp only at h)
           obtain ⟨n_c170_0, hn_c170_0⟩ : ∃ n, t.length = n := ⟨_, rfl⟩; obtain ⟨g_t, hg_c170_0⟩ : ∃ g, encL eI t = g := ⟨_, rfl⟩; (try rw [hn_c170_0] at h)
           refine ⟨_, _, (hP ▸ impl_neededParts_ok _ _ _ _ _ ht _ (by first | assumption | rfl) _ (by assumption) _ hn_c170_0 _ hg_c170_0 : CallOK P 170 _ _ _ _), ?_⟩; cbv))
    | ((with_reducible show ∃ _ : Nat → List V, _)
       first
        | (refine all_putS eI (by assumption) (by assumption) (by (first | assumption | exact lt_ix (by assumption) (by assumption) (by assumption) | exact lt_ix2 (by assumption) (by assumption) (by assumption) (by assumption) | exact lt_y (by assumption) (by assumption) | exact le_y (by assumption) | exact ge_y (by assumption) | exact cut_le (by assumption) (by assumption) | omega)) rfl (fun _ => rfl) ?_; intro L hL hnL g hgL; (try rw [hL] at h); (try rw [Option.bind_some] at h); (try rw [hnL] at h); cbv))
    | ((with_reducible show ∃ _ : Nat → St → Prop, _)
       first
        | (refine ⟨fun k1 s => ∃ x0 x6 x19 x20 n_x0 g_x0 n_x6 g_x6, impl_MissingParts.l0 k1 x0 x6 x19 x20 = some (r0, r1) ∧ x0.length = n_x0 ∧ encL eI x0 = g_x0 ∧ x6.length = n_x6 ∧ encL eI x6 = g_x6 ∧ s = ⟨⟨38, (upd 38 (upd 38 (upd 38 (upd 38 noT 20 (.val (.int .i64 x20))) 19 (.val (.int .i64 x19))) 6 (.row 0 0 n_x6)) 0 (.fz 1 n_x0 g_x0))⟩, [.row 3 1 n_x6 g_x6]⟩, ?_, [], ?_⟩
           rotate_left
           · cbv; exact ⟨_, [0, 6, 19, 20], by cbv; exact ⟨_, _, _, _, _, _, _, _, h, by first | assumption | rfl, by first | assumption | rfl, by first | assumption | rfl, by first | assumption | rfl, rfl⟩⟩
           clear h
           rintro (_ | k1) s1 ⟨x0, x6, x19, x20, n_x0, g_x0, n_x6, g_x6, h, hn_x0, hg_x0, hn_x6, hg_x6, rfl⟩
           · cases h
           unfold impl_MissingParts.l0 at h
           (try rw [hn_x0] at h); (try rw [hn_x6] at h); skip
           cbv))
    | ((with_reducible (have h0 : impl_MissingParts.j0 _ _ _ _ _ _ = some _ := h; clear h0))
       first
        | (unfold impl_MissingParts.j0 at h
           rcases k with _ | k
           · cases h
           (try dsimp only at h); (try simp only [bs, eq_self, if_true, if_false, reduceIte] at h); (try rw [hn_l0] at h); (try rw [show (Nat.cast n_l0 : Int) = _ from (by assumption)] at h); (try rw [show (NatCast.natCast n_l0 : Int) = _ from (by assumption)] at h); (try (simp only [Nat.cast] at h; rw [show (NatCast.natCast n_l0 : Int) = _ from (by assumption)] at h)); (try rw [hn_l1_2] at h); (try rw [show (Nat.cast n_l1_2 : Int) = _ from (by assumption)] at h); (try rw [show (NatCast.natCast n_l1_2 : Int) = _ from (by assumption)] at h); (try (simp only [Nat.cast] at h; rw [show (NatCast.natCast n_l1_2 : Int) = _ from (by assumption)] at h)); (try rw [hn_c170_0] at h); (try rw [show (Nat.cast n_c170_0 : Int) = _ from (by assumption)] at h); (try rw [show (NatCast.natCast n_c170_0 : Int) = _ from (by assumption)] at h); (try (simp only [Nat.cast] at h; rw [show (NatCast.natCast n_c170_0 : Int) = _ from (by assumption)] at h)); (try rw [hn_x0] at h); (try rw [show (Nat.cast n_x0 : Int) = _ from (by assumption)] at h); (try rw [show (NatCast.natCast n_x0 : Int) = _ from (by assumption)] at h); (try (simp only [Nat.cast] at h; rw [show (NatCast.natCast n_x0 : Int) = _ from (by assumption)] at h)); (try rw [hn_x6] at h); (try rw [show (Nat.cast n_x6 : Int) = _ from (by assumption)] at h); (try rw [show (NatCast.natCast n_x6 : Int) = _ from (by assumption)] at h); (try (simp only [Nat.cast] at h; rw [show (NatCast.natCast n_x6 : Int) = _ from (by assumption)] at h))))
    | ((with_reducible show ∀ _ : Bool, _)
       first
        | (refine all_lt ?_ ?_ <;> (intro hd; first | exact absurd rfl hd | ((first | rw [if_pos hd] at h | rw [if_neg hd] at h | rw [if_pos (by omega)] at h | rw [if_neg (by omega)] at h | skip); (first | (rw [decide_eq_true hd] at h; (try simp only [bs, eq_self, if_true, if_false, reduceIte] at h)) | (rw [decide_eq_false hd] at h; (try simp only [bs, eq_self, if_true, if_false, reduceIte] at h)) | skip); cbv))))
    | ((with_reducible show ∀ _ : Int, _)
       first
        | (refine all_mx ?_; intro y hy; (try rw [hy] at h); cbv)
        | (refine all_wrap ?_; intro y hy; (try rw [hy] at h); cbv)
        | (refine all_len ?_; intro y hy; (try replace hy : ((_ : Nat) : Int) = y := hy); (try rw [hy] at h); (try rw [show (NatCast.natCast _ : Int) = _ from hy] at h); cbv))
    | ((with_reducible show ∀ _ : Nat, _)
       first
        | (refine all_ix0_old (by assumption) ?_; cbv)
        | (refine all_ix0 ?_; intro q hq; (try rw [hq] at h); cbv))
    | ((with_reducible show ∀ _ : List V, _)
       first
        | (refine @all_rd _ _ eI rd ?_ ?_ ?_ _ _ _ (fun _ _ => rfl) ?_ ?_ ?_ ?_ ?_ ?_
           rotate_left 3
           assumption
           assumption
           (first | rfl | assumption)
           (first | assumption | exact lt_ix (by assumption) (by assumption) (by assumption) | exact lt_ix2 (by assumption) (by assumption) (by assumption) (by assumption) | exact lt_y (by assumption) (by assumption) | exact le_y (by assumption) | exact ge_y (by assumption) | exact cut_le (by assumption) (by assumption) | omega)
           (first | assumption | exact lt_ix (by assumption) (by assumption) (by assumption) | exact lt_ix2 (by assumption) (by assumption) (by assumption) (by assumption) | exact lt_y (by assumption) (by assumption) | exact le_y (by assumption) | exact ge_y (by assumption) | exact cut_le (by assumption) (by assumption) | omega)
           intro z hz
           (try rw [hz] at h); cbv))
    | (obtain ⟨hc, h'⟩ := if_none h; clear h; have h := h'; clear h')
    | (simp only [Option.some.injEq, Prod.mk.injEq] at h; obtain ⟨rfl, rfl⟩ := h)
    | ((with_reducible show ∃ _, _)
       refine side (by first | exact enc_same (by assumption) (by assumption) _ | exact take_s1 (by assumption) (by assumption) (by assumption) | exact take_s2 (by assumption) (by assumption) (by assumption) (by assumption) (by assumption) | exact take_s3 (by assumption) (by assumption) (by assumption) | exact take_s4 (by assumption) (by assumption) (by assumption) | (intro k hk; subst_vars; first | eq_refl | exact enc_drop | exact enc_take hk | exact absurd hk (Nat.not_lt_zero k)) | (subst_vars; first | eq_refl | (simp; done) | (simp; omega)) | (have h1 : Int.toNat 1 = 1 := rfl; have h2 := one_le (by assumption) (by assumption); simp only [List.length_append, List.length_nil, List.length_drop, h1] at *; omega) | (simp only [Nat.cast] at *; omega)) ?_; (try cbv)))

def spec_MissingParts.l0 : Nat → List Int → List Int → List Int → Int → Int → Option (List Int × Bool)
  | 0, _, _, _, _, _ => none
  | k + 1, x0, x6, x18, x19, x20 => if x20 < x19 then (if 0 ≤ x20 then (if x20 < (x18.length : Int) then (if x20 < (x0.length : Int) then ((spec_l1Most.f 0 (wrap64 ((rd x18 x20) - (rd x0 x20)))).bind fun t1379 => (if x6.length < 17592186044416 then (spec_MissingParts.l0 k x0 (x6 ++ [t1379]) x18 x19 (wrap64 (x20 + 1))) else (none))) else (none)) else (none)) else (none)) else (some (x6, true))
def spec_MissingParts.j0 : Nat → List Int → Bool → Int → Int → List (S116) → Option (List Int × Bool)
  | 0, _, _, _, _, _ => none
  | k + 1, x0, x16, x1372000, x1372001, x1372002 => if x16 = true then (some (([] : List Int), false)) else ((spec_kiOf.f k x1372000 x1372001 x1372002).bind fun t1374 => (spec_MissingParts.l0 k x0 ([] : List Int) t1374 (t1374.length : Int) 0))
def spec_MissingParts.f (k : Nat) (l0 : List Int) (a1_0 : Int) (a1_1 : Int) (l1_2 : List (S116)) : Option (List Int × Bool) := (spec_kiParts.f k l0).bind fun t1372 => (if t1372 = true then ((spec_boGood.f k a1_0 a1_1 l1_2).bind fun t1373 => (spec_MissingParts.j0 k l0 (!t1373) a1_0 a1_1 l1_2)) else (spec_MissingParts.j0 k l0 true a1_0 a1_1 l1_2))

theorem spec_MissingParts_ok (k : Nat) (l0 : List Int) (a1_0 : Int) (a1_1 : Int) (l1_2 : List (S116)) (r0 : List Int) (r1 : Bool) (h : spec_MissingParts.f k l0 a1_0 a1_1 l1_2 = some (r0, r1)) (n_l0 : Nat) (hn_l0 : l0.length = n_l0) (g_l0 : Nat → List V) (hg_l0 : encL eI l0 = g_l0) (n_l1_2 : Nat) (hn_l1_2 : l1_2.length = n_l1_2) (g_l1_2 : Nat → List V) (hg_l1_2 : encL e116 l1_2 = g_l1_2) (n_r0 : Nat) (hn_r0 : r0.length = n_r0) (g_r0 : Nat → List V) (hg_r0 : encL eI r0 = g_r0) : CallOK Try.prog 63 [.fz 1 n_l0 g_l0, .agg [.val (.int .i64 a1_0), .val (.int .i64 a1_1), .fz 2 n_l1_2 g_l1_2]] [] (.tup [.row 0 0 n_r0, .val (.bool r1)]) [.row 3 1 n_r0 g_r0] := by
  refine CallOK.of_code tabOK Try.func63 rfl rfl ⟨[(3, [0, 3]), (8, [0, 6, 18, 19, 20]), (9, [6])], []⟩ ?_
  unfold spec_MissingParts.f at h
  obtain ⟨P, hP⟩ : ∃ P, Try.prog = P := ⟨_, rfl⟩
  rw [hP]
  (try rw [hn_l0] at h); (try rw [hn_l1_2] at h); skip
  cbv
  repeat' (first
    | ((with_reducible show ∃ _, _)
       first
        | (refine ⟨trivial, ?_⟩; cbv)
        | (refine side (by first | with_reducible eq_refl | assumption | (intro _ _; with_reducible eq_refl) | exact lt_ix (by assumption) (by assumption) (by assumption) | exact lt_ix2 (by assumption) (by assumption) (by assumption) (by assumption) | exact lt_y (by assumption) (by assumption) | exact le_y (by assumption) | exact ge_y (by assumption) | exact cut_le (by assumption) (by assumption) | omega) ?_; (try cbv))
        | (refine bind_side (Eq.refl _) ?_; (try cbv))
        | (refine ⟨.kept, side (Eq.refl _) (side (by first | trivial | exact ⟨clean_enc (by assumption) (by assumption) (fun _ => rfl), trivial⟩) ?_)⟩; cbv)
        | (refine ⟨Frz.own, ?_⟩; cbv)
        | (refine ⟨.row, ?_⟩; cbv))
    | ((with_reducible show ∃ _ : Nat, _)
       first
        | (refine ⟨_, [0, 6, 18, 19, 20], Nat.lt_succ_self _, ?_⟩; cbv; exact ⟨_, _, _, _, _, _, _, _, _, _, _, h, by first | assumption | rfl, by first | assumption | rfl, by first | assumption | rfl, by first | assumption | rfl, by first | assumption | rfl, by first | assumption | rfl, rfl⟩))
    | ((with_reducible show ∃ _ : List Nat, _)
       first
        | ((with_reducible (have h0 : Option.bind (spec_kiParts.f _ _) _ = some _ := h; clear h0))
           refine ⟨[], ?_⟩; cbv
           repeat (first | (refine all_show (by first | omega | decide) ?_; cbv) | (refine all_showT (by assumption) (by assumption) (by assumption) (by first | assumption | exact lt_ix (by assumption) (by assumption) (by assumption) | exact lt_ix2 (by assumption) (by assumption) (by assumption) (by assumption) | exact lt_y (by assumption) (by assumption) | exact le_y (by assumption) | exact ge_y (by assumption) | exact cut_le (by assumption) (by assumption) | omega) (by first | assumption | exact cut_hi (by assumption) | exact cut_hi2 (by assumption) (by assumption) | omega) ?_; intro D hD hnD g hgD; (try rw [hD] at h); cbv))
           obtain ⟨t, ht, h'⟩ := bind_some h
           clear h; have h := h'; clear h'; (try dsimp only at h)
           refine ⟨_, _, (hP ▸ spec_kiParts_ok _ _ _ ht _ (by first | assumption | rfl) _ (by assumption)  : CallOK P 112 _ _ _ _), ?_⟩
           rcases t with _ | _ <;> (try simp only [bs, eq_self, if_true, if_false, reduceIte] at h) <;> (try (cases h; done)) <;> cbv)
        | ((with_reducible (have h0 : Option.bind (spec_boGood.f _ _ _ _) _ = some _ := h; clear h0))
           refine ⟨[], ?_⟩; cbv
           repeat (first | (refine all_show (by first | omega | decide) ?_; cbv) | (refine all_showT (by assumption) (by assumption) (by assumption) (by first | assumption | exact lt_ix (by assumption) (by assumption) (by assumption) | exact lt_ix2 (by assumption) (by assumption) (by assumption) (by assumption) | exact lt_y (by assumption) (by assumption) | exact le_y (by assumption) | exact ge_y (by assumption) | exact cut_le (by assumption) (by assumption) | omega) (by first | assumption | exact cut_hi (by assumption) | exact cut_hi2 (by assumption) (by assumption) | omega) ?_; intro D hD hnD g hgD; (try rw [hD] at h); cbv))
           obtain ⟨t, ht, h'⟩ := bind_some h
           clear h; have h := h'; clear h'; (try dsimp only at h)
           refine ⟨_, _, (hP ▸ spec_boGood_ok _ _ _ _ _ ht _ (by first | assumption | rfl) _ (by assumption)  : CallOK P 171 _ _ _ _), ?_⟩
           rcases t with _ | _ <;> (try simp only [bs, eq_self, if_true, if_false, reduceIte] at h) <;> (try (cases h; done)) <;> cbv)
        | ((with_reducible (have h0 : Option.bind (spec_kiOf.f _ _ _ _) _ = some _ := h; clear h0))
           refine ⟨[], ?_⟩; cbv
           repeat (first | (refine all_show (by first | omega | decide) ?_; cbv) | (refine all_showT (by assumption) (by assumption) (by assumption) (by first | assumption | exact lt_ix (by assumption) (by assumption) (by assumption) | exact lt_ix2 (by assumption) (by assumption) (by assumption) (by assumption) | exact lt_y (by assumption) (by assumption) | exact le_y (by assumption) | exact ge_y (by assumption) | exact cut_le (by assumption) (by assumption) | omega) (by first | assumption | exact cut_hi (by assumption) | exact cut_hi2 (by assumption) (by assumption) | omega) ?_; intro D hD hnD g hgD; (try rw [hD] at h); cbv))
           obtain ⟨t, ht, h'⟩ := bind_some h
           clear h; have h := h'; clear h'; (try dsimp only at h)
           obtain ⟨n_c173_0, hn_c173_0⟩ : ∃ n, t.length = n := ⟨_, rfl⟩; obtain ⟨g_t, hg_c173_0⟩ : ∃ g, encL eI t = g := ⟨_, rfl⟩; (try rw [hn_c173_0] at h)
           refine ⟨_, _, (hP ▸ spec_kiOf_ok _ _ _ _ _ ht _ (by first | assumption | rfl) _ (by assumption) _ hn_c173_0 _ hg_c173_0 : CallOK P 173 _ _ _ _), ?_⟩; cbv)
        | ((with_reducible (have h0 : Option.bind (spec_l1Most.f _ _) _ = some _ := h; clear h0))
           refine ⟨[], ?_⟩; cbv
           repeat (first | (refine all_show (by first | omega | decide) ?_; cbv) | (refine all_showT (by assumption) (by assumption) (by assumption) (by first | assumption | exact lt_ix (by assumption) (by assumption) (by assumption) | exact lt_ix2 (by assumption) (by assumption) (by assumption) (by assumption) | exact lt_y (by assumption) (by assumption) | exact le_y (by assumption) | exact ge_y (by assumption) | exact cut_le (by assumption) (by assumption) | omega) (by first | assumption | exact cut_hi (by assumption) | exact cut_hi2 (by assumption) (by assumption) | omega) ?_; intro D hD hnD g hgD; (try rw [hD] at h); cbv))
           obtain ⟨t, ht, h'⟩ := bind_some h
           clear h; have h := h'; clear h'; (try dsimp only at h)
           refine ⟨_, _, (hP ▸ spec_l1Most_ok _ _ _ ht   : CallOK P 174 _ _ _ _), ?_⟩; cbv))
    | ((with_reducible show ∃ _ : Nat → List V, _)
       first
        | (refine all_buildI1 ?_; intro g_b hg_b; cbv))
    | ((with_reducible show ∃ _ : Nat → St → Prop, _)
       first
        | (refine ⟨fun k1 s => ∃ x0 x6 x18 x19 x20 n_x0 g_x0 n_x6 g_x6 n_x18 g_x18, spec_MissingParts.l0 k1 x0 x6 x18 x19 x20 = some (r0, r1) ∧ x0.length = n_x0 ∧ encL eI x0 = g_x0 ∧ x6.length = n_x6 ∧ encL eI x6 = g_x6 ∧ x18.length = n_x18 ∧ encL eI x18 = g_x18 ∧ s = ⟨⟨37, (upd 37 (upd 37 (upd 37 (upd 37 (upd 37 noT 20 (.val (.int .i64 x20))) 19 (.val (.int .i64 x19))) 18 (.row 1 0 n_x18)) 6 (.row 0 0 n_x6)) 0 (.fz 1 n_x0 g_x0))⟩, [.row 3 1 n_x6 g_x6, .row 3 1 n_x18 g_x18]⟩, ?_, [], ?_⟩
           rotate_left
           · cbv; exact ⟨_, [0, 6, 18, 19, 20], by cbv; exact ⟨_, _, _, _, _, _, _, _, _, _, _, h, by first | assumption | rfl, by first | assumption | rfl, by first | assumption | rfl, by first | assumption | rfl, by first | assumption | rfl, by first | assumption | rfl, rfl⟩⟩
           clear h
           rintro (_ | k1) s1 ⟨x0, x6, x18, x19, x20, n_x0, g_x0, n_x6, g_x6, n_x18, g_x18, h, hn_x0, hg_x0, hn_x6, hg_x6, hn_x18, hg_x18, rfl⟩
           · cases h
           unfold spec_MissingParts.l0 at h
           (try rw [hn_x0] at h); (try rw [hn_x6] at h); (try rw [hn_x18] at h); skip
           cbv))
    | ((with_reducible (have h0 : spec_MissingParts.j0 _ _ _ _ _ _ = some _ := h; clear h0))
       first
        | (unfold spec_MissingParts.j0 at h
           rcases k with _ | k
           · cases h
           (try dsimp only at h); (try simp only [bs, eq_self, if_true, if_false, reduceIte] at h); (try rw [hn_l0] at h); (try rw [show (Nat.cast n_l0 : Int) = _ from (by assumption)] at h); (try rw [show (NatCast.natCast n_l0 : Int) = _ from (by assumption)] at h); (try (simp only [Nat.cast] at h; rw [show (NatCast.natCast n_l0 : Int) = _ from (by assumption)] at h)); (try rw [hn_l1_2] at h); (try rw [show (Nat.cast n_l1_2 : Int) = _ from (by assumption)] at h); (try rw [show (NatCast.natCast n_l1_2 : Int) = _ from (by assumption)] at h); (try (simp only [Nat.cast] at h; rw [show (NatCast.natCast n_l1_2 : Int) = _ from (by assumption)] at h)); (try rw [hn_c173_0] at h); (try rw [show (Nat.cast n_c173_0 : Int) = _ from (by assumption)] at h); (try rw [show (NatCast.natCast n_c173_0 : Int) = _ from (by assumption)] at h); (try (simp only [Nat.cast] at h; rw [show (NatCast.natCast n_c173_0 : Int) = _ from (by assumption)] at h)); (try rw [hn_x0] at h); (try rw [show (Nat.cast n_x0 : Int) = _ from (by assumption)] at h); (try rw [show (NatCast.natCast n_x0 : Int) = _ from (by assumption)] at h); (try (simp only [Nat.cast] at h; rw [show (NatCast.natCast n_x0 : Int) = _ from (by assumption)] at h)); (try rw [hn_x6] at h); (try rw [show (Nat.cast n_x6 : Int) = _ from (by assumption)] at h); (try rw [show (NatCast.natCast n_x6 : Int) = _ from (by assumption)] at h); (try (simp only [Nat.cast] at h; rw [show (NatCast.natCast n_x6 : Int) = _ from (by assumption)] at h)); (try rw [hn_x18] at h); (try rw [show (Nat.cast n_x18 : Int) = _ from (by assumption)] at h); (try rw [show (NatCast.natCast n_x18 : Int) = _ from (by assumption)] at h); (try (simp only [Nat.cast] at h; rw [show (NatCast.natCast n_x18 : Int) = _ from (by assumption)] at h))))
    | ((with_reducible show ∀ _ : Bool, _)
       first
        | (refine all_lt ?_ ?_ <;> (intro hd; first | exact absurd rfl hd | ((first | rw [if_pos hd] at h | rw [if_neg hd] at h | rw [if_pos (by omega)] at h | rw [if_neg (by omega)] at h | skip); (first | (rw [decide_eq_true hd] at h; (try simp only [bs, eq_self, if_true, if_false, reduceIte] at h)) | (rw [decide_eq_false hd] at h; (try simp only [bs, eq_self, if_true, if_false, reduceIte] at h)) | skip); cbv))))
    | ((with_reducible show ∀ _ : Int, _)
       first
        | (refine all_wrap ?_; intro y hy; (try rw [hy] at h); cbv)
        | (refine all_len ?_; intro y hy; (try replace hy : ((_ : Nat) : Int) = y := hy); (try rw [hy] at h); (try rw [show (NatCast.natCast _ : Int) = _ from hy] at h); cbv))
    | ((with_reducible show ∀ _ : Nat, _)
       first
        | (refine all_ix0 ?_; intro q hq; (try rw [hq] at h); cbv)
        | (refine all_app (by first | assumption | exact (rfl : encL _ ([] : List _) = _)) (by first | assumption | rfl) (by assumption) (by first | assumption | rfl) ?_; intro L hL n_L hnL g hgL; (try rw [hL] at h); (try rw [Option.bind_some] at h); (try rw [hnL] at h); cbv))
    | ((with_reducible show ∀ _ : List V, _)
       first
        | (refine @all_rd _ _ eI rd ?_ ?_ ?_ _ _ _ (fun _ _ => rfl) ?_ ?_ ?_ ?_ ?_ ?_
           rotate_left 3
           assumption
           assumption
           (first | rfl | assumption)
           (first | assumption | exact lt_ix (by assumption) (by assumption) (by assumption) | exact lt_ix2 (by assumption) (by assumption) (by assumption) (by assumption) | exact lt_y (by assumption) (by assumption) | exact le_y (by assumption) | exact ge_y (by assumption) | exact cut_le (by assumption) (by assumption) | omega)
           (first | assumption | exact lt_ix (by assumption) (by assumption) (by assumption) | exact lt_ix2 (by assumption) (by assumption) (by assumption) (by assumption) | exact lt_y (by assumption) (by assumption) | exact le_y (by assumption) | exact ge_y (by assumption) | exact cut_le (by assumption) (by assumption) | omega)
           intro z hz
           (try rw [hz] at h); cbv))
    | (obtain ⟨hc, h'⟩ := if_none h; clear h; have h := h'; clear h')
    | (simp only [Option.some.injEq, Prod.mk.injEq] at h; obtain ⟨rfl, rfl⟩ := h)
    | ((with_reducible show ∃ _, _)
       refine side (by first | exact enc_same (by assumption) (by assumption) _ | exact take_s1 (by assumption) (by assumption) (by assumption) | exact take_s2 (by assumption) (by assumption) (by assumption) (by assumption) (by assumption) | exact take_s3 (by assumption) (by assumption) (by assumption) | exact take_s4 (by assumption) (by assumption) (by assumption) | (intro k hk; subst_vars; first | eq_refl | exact enc_drop | exact enc_take hk | exact absurd hk (Nat.not_lt_zero k)) | (subst_vars; first | eq_refl | (simp; done) | (simp; omega)) | (have h1 : Int.toNat 1 = 1 := rfl; have h2 := one_le (by assumption) (by assumption); simp only [List.length_append, List.length_nil, List.length_drop, h1] at *; omega) | (simp only [Nat.cast] at *; omega)) ?_; (try cbv)))

def impl_RestOfKit.l0 : Nat → List Int → List Int → Int → Int → Option (List Int × Bool)
  | 0, _, _, _, _ => none
  | k + 1, x6, x28, x29, x30 => if x30 < x29 then (if 0 ≤ x30 then (if x30 < (x28.length : Int) then (if x30 < (x6.length : Int) then (impl_RestOfKit.l0 k (x6.set (x30 : Int).toNat (wrap64 ((rd x6 x30) - (rd x28 x30)))) x28 x29 (wrap64 (x30 + 1))) else (none)) else (none)) else (none)) else (some (x6, true))
def impl_RestOfKit.j0 : Nat → List Int → Bool → Int → Int → List (S116) → Option (List Int × Bool)
  | 0, _, _, _, _, _ => none
  | k + 1, x0, x23, x1384000, x1384001, x1384002 => if x23 = true then (some (([] : List Int), false)) else ((some (([] : List Int) : List Int)).bind fun y1390 => (if y1390.length + x0.length < 17592186044416 then ((impl_neededParts.f k x1384000 x1384001 x1384002).bind fun t1396 => (impl_RestOfKit.l0 k (y1390 ++ x0) t1396 (t1396.length : Int) 0)) else (none)))
def impl_RestOfKit.f (k : Nat) (l0 : List Int) (a1_0 : Int) (a1_1 : Int) (l1_2 : List (S116)) : Option (List Int × Bool) := (impl_isKit.f k l0).bind fun t1384 => (if t1384 = true then ((impl_IsBoard.f k a1_0 a1_1 l1_2).bind fun t1385 => (if t1385 = true then ((impl_neededParts.f k a1_0 a1_1 l1_2).bind fun t1386 => ((impl_isEnough.f k l0 t1386).bind fun t1389 => (impl_RestOfKit.j0 k l0 (!t1389) a1_0 a1_1 l1_2))) else (impl_RestOfKit.j0 k l0 true a1_0 a1_1 l1_2))) else (impl_RestOfKit.j0 k l0 true a1_0 a1_1 l1_2))

theorem impl_RestOfKit_ok (k : Nat) (l0 : List Int) (a1_0 : Int) (a1_1 : Int) (l1_2 : List (S116)) (r0 : List Int) (r1 : Bool) (h : impl_RestOfKit.f k l0 a1_0 a1_1 l1_2 = some (r0, r1)) (n_l0 : Nat) (hn_l0 : l0.length = n_l0) (g_l0 : Nat → List V) (hg_l0 : encL eI l0 = g_l0) (n_l1_2 : Nat) (hn_l1_2 : l1_2.length = n_l1_2) (g_l1_2 : Nat → List V) (hg_l1_2 : encL e116 l1_2 = g_l1_2) (n_r0 : Nat) (hn_r0 : r0.length = n_r0) (g_r0 : Nat → List V) (hg_r0 : encL eI r0 = g_r0) : CallOK Try.prog 64 [.fz 1 n_l0 g_l0, .agg [.val (.int .i64 a1_0), .val (.int .i64 a1_1), .fz 2 n_l1_2 g_l1_2]] [] (.tup [.row 0 0 n_r0, .val (.bool r1)]) [.row 3 1 n_r0 g_r0] := by
  refine CallOK.of_code tabOK Try.func64 rfl rfl ⟨[(2, []), (3, [0, 3]), (8, [6, 28, 29, 30]), (9, [6])], []⟩ ?_
  unfold impl_RestOfKit.f at h
  obtain ⟨P, hP⟩ : ∃ P, Try.prog = P := ⟨_, rfl⟩
  rw [hP]
  (try rw [hn_l0] at h); (try rw [hn_l1_2] at h); skip
  cbv
  repeat' (first
    | ((with_reducible show ∃ _, _)
       first
        | (refine ⟨trivial, ?_⟩; cbv)
        | (refine side (by first | with_reducible eq_refl | assumption | (intro _ _; with_reducible eq_refl) | exact lt_ix (by assumption) (by assumption) (by assumption) | exact lt_ix2 (by assumption) (by assumption) (by assumption) (by assumption) | exact lt_y (by assumption) (by assumption) | exact le_y (by assumption) | exact ge_y (by assumption) | exact cut_le (by assumption) (by assumption) | omega) ?_; (try cbv))
        | (refine bind_side (Eq.refl _) ?_; (try cbv))
        | (refine ⟨.kept, side (Eq.refl _) (side (by first | trivial | exact ⟨clean_enc (by assumption) (by assumption) (fun _ => rfl), trivial⟩) ?_)⟩; cbv)
        | (refine ⟨Frz.own, ?_⟩; cbv)
        | (refine ⟨.row, ?_⟩; cbv))
    | ((with_reducible show ∃ _ : Nat, _)
       first
        | (refine ⟨_, [6, 28, 29, 30], Nat.lt_succ_self _, ?_⟩; cbv; exact ⟨_, _, _, _, _, _, _, _, h, by first | assumption | rfl, by first | assumption | rfl, by first | assumption | rfl, by first | assumption | rfl, rfl⟩))
    | ((with_reducible show ∃ _ : List Nat, _)
       first
        | ((with_reducible (have h0 : Option.bind (impl_isKit.f _ _) _ = some _ := h; clear h0))
           refine ⟨[], ?_⟩; cbv
           repeat (first | (refine all_show (by first | omega | decide) ?_; cbv) | (refine all_showT (by assumption) (by assumption) (by assumption) (by first | assumption | exact lt_ix (by assumption) (by assumption) (by assumption) | exact lt_ix2 (by assumption) (by assumption) (by assumption) (by assumption) | exact lt_y (by assumption) (by assumption) | exact le_y (by assumption) | exact ge_y (by assumption) | exact cut_le (by assumption) (by assumption) | omega) (by first | assumption | exact cut_hi (by assumption) | exact cut_hi2 (by assumption) (by assumption) | omega) ?_; intro D hD hnD g hgD; (try rw [hD] at h); cbv))
           obtain ⟨t, ht, h'⟩ := bind_some h
           clear h; have h := h'; clear h'; (try dsimp only at h)
           refine ⟨_, _, (hP ▸ impl_isKit_ok _ _ _ ht _ (by first | assumption | rfl) _ (by assumption)  : CallOK P 115 _ _ _ _), ?_⟩
           rcases t with _ | _ <;> (try simp only [bs, eq_self, if_true, if_false, reduceIte] at h) <;> (try (cases h; done)) <;> cbv)
        | ((with_reducible (have h0 : Option.bind (impl_isEnough.f _ _ _) _ = some _ := h; clear h0))
           refine ⟨[], ?_⟩; cbv
           repeat (first | (refine all_show (by first | omega | decide) ?_; cbv) | (refine all_showT (by assumption) (by assumption) (by assumption) (by first | assumption | exact lt_ix (by assumption) (by assumption) (by assumption) | exact lt_ix2 (by assumption) (by assumption) (by assumption) (by assumption) | exact lt_y (by assumption) (by assumption) | exact le_y (by assumption) | exact ge_y (by assumption) | exact cut_le (by assumption) (by assumption) | omega) (by first | assumption | exact cut_hi (by assumption) | exact cut_hi2 (by assumption) (by assumption) | omega) ?_; intro D hD hnD g hgD; (try rw [hD] at h); cbv))
           obtain ⟨t, ht, h'⟩ := bind_some h
           clear h; have h := h'; clear h'; (try dsimp only at h)
           refine ⟨_, _, (hP ▸ impl_isEnough_ok _ _ _ _ ht _ (by first | assumption | rfl) _ (by assumption) _ (by first | assumption | rfl) _ (by assumption)  : CallOK P 117 _ _ _ _), ?_⟩
           rcases t with _ | _ <;> (try simp only [bs, eq_self, if_true, if_false, reduceIte] at h) <;> (try (cases h; done)) <;> cbv)
        | ((with_reducible (have h0 : Option.bind (impl_IsBoard.f _ _ _ _) _ = some _ := h; clear h0))
           refine ⟨[], ?_⟩; cbv
           repeat (first | (refine all_show (by first | omega | decide) ?_; cbv) | (refine all_showT (by assumption) (by assumption) (by assumption) (by first | assumption | exact lt_ix (by assumption) (by assumption) (by assumption) | exact lt_ix2 (by assumption) (by assumption) (by assumption) (by assumption) | exact lt_y (by assumption) (by assumption) | exact le_y (by assumption) | exact ge_y (by assumption) | exact cut_le (by assumption) (by assumption) | omega) (by first | assumption | exact cut_hi (by assumption) | exact cut_hi2 (by assumption) (by assumption) | omega) ?_; intro D hD hnD g hgD; (try rw [hD] at h); cbv))
           obtain ⟨t, ht, h'⟩ := bind_some h
           clear h; have h := h'; clear h'; (try dsimp only at h)
           refine ⟨_, _, (hP ▸ impl_IsBoard_ok _ _ _ _ _ ht _ (by first | assumption | rfl) _ (by assumption)  : CallOK P 169 _ _ _ _), ?_⟩
           rcases t with _ | _ <;> (try simp only [bs, eq_self, if_true, if_false, reduceIte] at h) <;> (try (cases h; done)) <;> cbv)
        | ((with_reducible (have h0 : Option.bind (impl_neededParts.f _ _ _ _) _ = some _ := h; clear h0))
           refine ⟨[], ?_⟩; cbv
           repeat (first | (refine all_show (by first | omega | decide) ?_; cbv) | (refine all_showT (by assumption) (by assumption) (by assumption) (by first | assumption | exact lt_ix (by assumption) (by assumption) (by assumption) | exact lt_ix2 (by assumption) (by assumption) (by assumption) (by assumption) | exact lt_y (by assumption) (by assumption) | exact le_y (by assumption) | exact ge_y (by assumption) | exact cut_le (by assumption) (by assumption) | omega) (by first | assumption | exact cut_hi (by assumption) | exact cut_hi2 (by assumption) (by assumption) | omega) ?_; intro D hD hnD g hgD; (try rw [hD] at h); cbv))
           obtain ⟨t, ht, h'⟩ := bind_some h
           clear h; have h := h'; clear h'; (try dsimp only at h)
           obtain ⟨n_c170_0, hn_c170_0⟩ : ∃ n, t.length = n := ⟨_, rfl⟩; obtain ⟨g_t, hg_c170_0⟩ : ∃ g, encL eI t = g := ⟨_, rfl⟩; (try rw [hn_c170_0] at h)
           refine ⟨_, _, (hP ▸ impl_neededParts_ok _ _ _ _ _ ht _ (by first | assumption | rfl) _ (by assumption) _ hn_c170_0 _ hg_c170_0 : CallOK P 170 _ _ _ _), ?_⟩; cbv))
    | ((with_reducible show ∃ _ : Nat → List V, _)
       first
        | (refine all_putS eI (by assumption) (by assumption) (by (first | assumption | exact lt_ix (by assumption) (by assumption) (by assumption) | exact lt_ix2 (by assumption) (by assumption) (by assumption) (by assumption) | exact lt_y (by assumption) (by assumption) | exact le_y (by assumption) | exact ge_y (by assumption) | exact cut_le (by assumption) (by assumption) | omega)) rfl (fun _ => rfl) ?_; intro L hL hnL g hgL; (try rw [hL] at h); (try rw [Option.bind_some] at h); (try rw [hnL] at h); cbv)
        | (refine all_build0 eI ?_; intro g_b hg_b; cbv))
    | ((with_reducible show ∃ _ : Nat → St → Prop, _)
       first
        | (refine ⟨fun k1 s => ∃ x6 x28 x29 x30 n_x6 g_x6 n_x28 g_x28, impl_RestOfKit.l0 k1 x6 x28 x29 x30 = some (r0, r1) ∧ x6.length = n_x6 ∧ encL eI x6 = g_x6 ∧ x28.length = n_x28 ∧ encL eI x28 = g_x28 ∧ s = ⟨⟨44, (upd 44 (upd 44 (upd 44 (upd 44 noT 30 (.val (.int .i64 x30))) 29 (.val (.int .i64 x29))) 28 (.row 1 0 n_x28)) 6 (.row 0 0 n_x6))⟩, [.row 3 1 n_x6 g_x6, .row 3 1 n_x28 g_x28]⟩, ?_, [], ?_⟩
           rotate_left
           · cbv; exact ⟨_, [6, 28, 29, 30], by cbv; exact ⟨_, _, _, _, _, _, _, _, h, by first | assumption | rfl, by first | assumption | rfl, by first | assumption | rfl, by first | assumption | rfl, rfl⟩⟩
           clear h
           rintro (_ | k1) s1 ⟨x6, x28, x29, x30, n_x6, g_x6, n_x28, g_x28, h, hn_x6, hg_x6, hn_x28, hg_x28, rfl⟩
           · cases h
           unfold impl_RestOfKit.l0 at h
           (try rw [hn_x6] at h); (try rw [hn_x28] at h); skip
           cbv))
    | ((with_reducible (have h0 : impl_RestOfKit.j0 _ _ _ _ _ _ = some _ := h; clear h0))
       first
        | (unfold impl_RestOfKit.j0 at h
           rcases k with _ | k
           · cases h
           (try dsimp only at h); (try simp only [bs, eq_self, if_true, if_false, reduceIte] at h); (try rw [hn_l0] at h); (try rw [show (Nat.cast n_l0 : Int) = _ from (by assumption)] at h); (try rw [show (NatCast.natCast n_l0 : Int) = _ from (by assumption)] at h); (try (simp only [Nat.cast] at h; rw [show (NatCast.natCast n_l0 : Int) = _ from (by assumption)] at h)); (try rw [hn_l1_2] at h); (try rw [show (Nat.cast n_l1_2 : Int) = _ from (by assumption)] at h); (try rw [show (NatCast.natCast n_l1_2 : Int) = _ from (by assumption)] at h); (try (simp only [Nat.cast] at h; rw [show (NatCast.natCast n_l1_2 : Int) = _ from (by assumption)] at h)); (try rw [hn_c170_0] at h); (try rw [show (Nat.cast n_c170_0 : Int) = _ from (by assumption)] at h); (try rw [show (NatCast.natCast n_c170_0 : Int) = _ from (by assumption)] at h); (try (simp only [Nat.cast] at h; rw [show (NatCast.natCast n_c170_0 : Int) = _ from (by assumption)] at h)); (try rw [hn_x6] at h); (try rw [show (Nat.cast n_x6 : Int) = _ from (by assumption)] at h); (try rw [show (NatCast.natCast n_x6 : Int) = _ from (by assumption)] at h); (try (simp only [Nat.cast] at h; rw [show (NatCast.natCast n_x6 : Int) = _ from (by assumption)] at h)); (try rw [hn_x28] at h); (try rw [show (Nat.cast n_x28 : Int) = _ from (by assumption)] at h); (try rw [show (NatCast.natCast n_x28 : Int) = _ from (by assumption)] at h); (try (simp only [Nat.cast] at h; rw [show (NatCast.natCast n_x28 : Int) = _ from (by assumption)] at h))))
    | ((with_reducible show ∀ _ : Bool, _)
       first
        | (refine all_lt ?_ ?_ <;> (intro hd; first | exact absurd rfl hd | ((first | rw [if_pos hd] at h | rw [if_neg hd] at h | rw [if_pos (by omega)] at h | rw [if_neg (by omega)] at h | skip); (first | (rw [decide_eq_true hd] at h; (try simp only [bs, eq_self, if_true, if_false, reduceIte] at h)) | (rw [decide_eq_false hd] at h; (try simp only [bs, eq_self, if_true, if_false, reduceIte] at h)) | skip); cbv))))
    | ((with_reducible show ∀ _ : Int, _)
       first
        | (refine all_wrap ?_; intro y hy; (try rw [hy] at h); cbv)
        | (refine all_len ?_; intro y hy; (try replace hy : ((_ : Nat) : Int) = y := hy); (try rw [hy] at h); (try rw [show (NatCast.natCast _ : Int) = _ from hy] at h); cbv))
    | ((with_reducible show ∀ _ : Nat, _)
       first
        | (refine all_ix0_old (by assumption) ?_; cbv)
        | (refine all_ix0 ?_; intro q hq; (try rw [hq] at h); cbv)
        | (refine all_app (by first | assumption | exact (rfl : encL _ ([] : List _) = _)) (by first | assumption | rfl) (by assumption) (by first | assumption | rfl) ?_; intro L hL n_L hnL g hgL; (try rw [hL] at h); (try rw [Option.bind_some] at h); (try rw [hnL] at h); cbv))
    | ((with_reducible show ∀ _ : List V, _)
       first
        | (refine @all_rd _ _ eI rd ?_ ?_ ?_ _ _ _ (fun _ _ => rfl) ?_ ?_ ?_ ?_ ?_ ?_
           rotate_left 3
           assumption
           assumption
           (first | rfl | assumption)
           (first | assumption | exact lt_ix (by assumption) (by assumption) (by assumption) | exact lt_ix2 (by assumption) (by assumption) (by assumption) (by assumption) | exact lt_y (by assumption) (by assumption) | exact le_y (by assumption) | exact ge_y (by assumption) | exact cut_le (by assumption) (by assumption) | omega)
           (first | assumption | exact lt_ix (by assumption) (by assumption) (by assumption) | exact lt_ix2 (by assumption) (by assumption) (by assumption) (by assumption) | exact lt_y (by assumption) (by assumption) | exact le_y (by assumption) | exact ge_y (by assumption) | exact cut_le (by assumption) (by assumption) | omega)
           intro z hz
           (try rw [hz] at h); cbv))
    | (obtain ⟨hc, h'⟩ := if_none h; clear h; have h := h'; clear h')
    | (simp only [Option.some.injEq, Prod.mk.injEq] at h; obtain ⟨rfl, rfl⟩ := h)
    | ((with_reducible show ∃ _, _)
       refine side (by first | exact enc_same (by assumption) (by assumption) _ | exact take_s1 (by assumption) (by assumption) (by assumption) | exact take_s2 (by assumption) (by assumption) (by assumption) (by assumption) (by assumption) | exact take_s3 (by assumption) (by assumption) (by assumption) | exact take_s4 (by assumption) (by assumption) (by assumption) | (intro k hk; subst_vars; first | eq_refl | exact enc_drop | exact enc_take hk | exact absurd hk (Nat.not_lt_zero k)) | (subst_vars; first | eq_refl | (simp; done) | (simp; omega)) | (have h1 : Int.toNat 1 = 1 := rfl; have h2 := one_le (by assumption) (by assumption); simp only [List.length_append, List.length_nil, List.length_drop, h1] at *; omega) | (simp only [Nat.cast] at *; omega)) ?_; (try cbv)))

def spec_RestOfKit.l0 : Nat → List Int → List Int → List Int → Int → Int → Option (List Int × Bool)
  | 0, _, _, _, _, _ => none
  | k + 1, x0, x6, x25, x26, x27 => if x27 < x26 then (if 0 ≤ x27 then (if x27 < (x25.length : Int) then (if x27 < (x0.length : Int) then (if x6.length < 17592186044416 then (spec_RestOfKit.l0 k x0 (x6 ++ [wrap64 ((rd x0 x27) - (rd x25 x27))]) x25 x26 (wrap64 (x27 + 1))) else (none)) else (none)) else (none)) else (none)) else (some (x6, true))
def spec_RestOfKit.j0 : Nat → List Int → Bool → Int → Int → List (S116) → Option (List Int × Bool)
  | 0, _, _, _, _, _ => none
  | k + 1, x0, x23, x1403000, x1403001, x1403002 => if x23 = true then (some (([] : List Int), false)) else ((spec_kiOf.f k x1403000 x1403001 x1403002).bind fun t1409 => (spec_RestOfKit.l0 k x0 ([] : List Int) t1409 (t1409.length : Int) 0))
def spec_RestOfKit.f (k : Nat) (l0 : List Int) (a1_0 : Int) (a1_1 : Int) (l1_2 : List (S116)) : Option (List Int × Bool) := (spec_kiParts.f k l0).bind fun t1403 => (if t1403 = true then ((spec_boGood.f k a1_0 a1_1 l1_2).bind fun t1404 => (if t1404 = true then ((spec_kiOf.f k a1_0 a1_1 l1_2).bind fun t1405 => ((spec_kiEnough.f k l0 t1405).bind fun t1408 => (spec_RestOfKit.j0 k l0 (!t1408) a1_0 a1_1 l1_2))) else (spec_RestOfKit.j0 k l0 true a1_0 a1_1 l1_2))) else (spec_RestOfKit.j0 k l0 true a1_0 a1_1 l1_2))

theorem spec_RestOfKit_ok (k : Nat) (l0 : List Int) (a1_0 : Int) (a1_1 : Int) (l1_2 : List (S116)) (r0 : List Int) (r1 : Bool) (h : spec_RestOfKit.f k l0 a1_0 a1_1 l1_2 = some (r0, r1)) (n_l0 : Nat) (hn_l0 : l0.length = n_l0) (g_l0 : Nat → List V) (hg_l0 : encL eI l0 = g_l0) (n_l1_2 : Nat) (hn_l1_2 : l1_2.length = n_l1_2) (g_l1_2 : Nat → List V) (hg_l1_2 : encL e116 l1_2 = g_l1_2) (n_r0 : Nat) (hn_r0 : r0.length = n_r0) (g_r0 : Nat → List V) (hg_r0 : encL eI r0 = g_r0) : CallOK Try.prog 65 [.fz 1 n_l0 g_l0, .agg [.val (.int .i64 a1_0), .val (.int .i64 a1_1), .fz 2 n_l1_2 g_l1_2]] [] (.tup [.row 0 0 n_r0, .val (.bool r1)]) [.row 3 1 n_r0 g_r0] := by
  refine CallOK.of_code tabOK Try.func65 rfl rfl ⟨[(2, []), (3, [0, 3]), (8, [0, 6, 25, 26, 27]), (9, [6])], []⟩ ?_
  unfold spec_RestOfKit.f at h
  obtain ⟨P, hP⟩ : ∃ P, Try.prog = P := ⟨_, rfl⟩
  rw [hP]
  (try rw [hn_l0] at h); (try rw [hn_l1_2] at h); skip
  cbv
  repeat' (first
    | ((with_reducible show ∃ _, _)
       first
        | (refine ⟨trivial, ?_⟩; cbv)
        | (refine side (by first | with_reducible eq_refl | assumption | (intro _ _; with_reducible eq_refl) | exact lt_ix (by assumption) (by assumption) (by assumption) | exact lt_ix2 (by assumption) (by assumption) (by assumption) (by assumption) | exact lt_y (by assumption) (by assumption) | exact le_y (by assumption) | exact ge_y (by assumption) | exact cut_le (by assumption) (by assumption) | omega) ?_; (try cbv))
        | (refine bind_side (Eq.refl _) ?_; (try cbv))
        | (refine ⟨.kept, side (Eq.refl _) (side (by first | trivial | exact ⟨clean_enc (by assumption) (by assumption) (fun _ => rfl), trivial⟩) ?_)⟩; cbv)
        | (refine ⟨Frz.own, ?_⟩; cbv)
        | (refine ⟨.row, ?_⟩; cbv))
    | ((with_reducible show ∃ _ : Nat, _)
       first
        | (refine ⟨_, [0, 6, 25, 26, 27], Nat.lt_succ_self _, ?_⟩; cbv; exact ⟨_, _, _, _, _, _, _, _, _, _, _, h, by first | assumption | rfl, by first | assumption | rfl, by first | assumption | rfl, by first | assumption | rfl, by first | assumption | rfl, by first | assumption | rfl, rfl⟩))
    | ((with_reducible show ∃ _ : List Nat, _)
       first
        | ((with_reducible (have h0 : Option.bind (spec_kiParts.f _ _) _ = some _ := h; clear h0))
           refine ⟨[], ?_⟩; cbv
           repeat (first | (refine all_show (by first | omega | decide) ?_; cbv) | (refine all_showT (by assumption) (by assumption) (by assumption) (by first | assumption | exact lt_ix (by assumption) (by assumption) (by assumption) | exact lt_ix2 (by assumption) (by assumption) (by assumption) (by assumption) | exact lt_y (by assumption) (by assumption) | exact le_y (by assumption) | exact ge_y (by assumption) | exact cut_le (by assumption) (by assumption) | omega) (by first | assumption | exact cut_hi (by assumption) | exact cut_hi2 (by assumption) (by assumption) | omega) ?_; intro D hD hnD g hgD; (try rw [hD] at h); cbv))
           obtain ⟨t, ht, h'⟩ := bind_some h
           clear h; have h := h'; clear h'; (try dsimp only at h)
           refine ⟨_, _, (hP ▸ spec_kiParts_ok _ _ _ ht _ (by first | assumption | rfl) _ (by assumption)  : CallOK P 112 _ _ _ _), ?_⟩
           rcases t with _ | _ <;> (try simp only [bs, eq_self, if_true, if_false, reduceIte] at h) <;> (try (cases h; done)) <;> cbv)
        | ((with_reducible (have h0 : Option.bind (spec_boGood.f _ _ _ _) _ = some _ := h; clear h0))
           refine ⟨[], ?_⟩; cbv
           repeat (first | (refine all_show (by first | omega | decide) ?_; cbv) | (refine all_showT (by assumption) (by assumption) (by assumption) (by first | assumption | exact lt_ix (by assumption) (by assumption) (by assumption) | exact lt_ix2 (by assumption) (by assumption) (by assumption) (by assumption) | exact lt_y (by assumption) (by assumption) | exact le_y (by assumption) | exact ge_y (by assumption) | exact cut_le (by assumption) (by assumption) | omega) (by first | assumption | exact cut_hi (by assumption) | exact cut_hi2 (by assumption) (by assumption) | omega) ?_; intro D hD hnD g hgD; (try rw [hD] at h); cbv))
           obtain ⟨t, ht, h'⟩ := bind_some h
           clear h; have h := h'; clear h'; (try dsimp only at h)
           refine ⟨_, _, (hP ▸ spec_boGood_ok _ _ _ _ _ ht _ (by first | assumption | rfl) _ (by assumption)  : CallOK P 171 _ _ _ _), ?_⟩
           rcases t with _ | _ <;> (try simp only [bs, eq_self, if_true, if_false, reduceIte] at h) <;> (try (cases h; done)) <;> cbv)
        | ((with_reducible (have h0 : Option.bind (spec_kiEnough.f _ _ _) _ = some _ := h; clear h0))
           refine ⟨[], ?_⟩; cbv
           repeat (first | (refine all_show (by first | omega | decide) ?_; cbv) | (refine all_showT (by assumption) (by assumption) (by assumption) (by first | assumption | exact lt_ix (by assumption) (by assumption) (by assumption) | exact lt_ix2 (by assumption) (by assumption) (by assumption) (by assumption) | exact lt_y (by assumption) (by assumption) | exact le_y (by assumption) | exact ge_y (by assumption) | exact cut_le (by assumption) (by assumption) | omega) (by first | assumption | exact cut_hi (by assumption) | exact cut_hi2 (by assumption) (by assumption) | omega) ?_; intro D hD hnD g hgD; (try rw [hD] at h); cbv))
           obtain ⟨t, ht, h'⟩ := bind_some h
           clear h; have h := h'; clear h'; (try dsimp only at h)
           refine ⟨_, _, (hP ▸ spec_kiEnough_ok _ _ _ _ ht _ (by first | assumption | rfl) _ (by assumption) _ (by first | assumption | rfl) _ (by assumption)  : CallOK P 172 _ _ _ _), ?_⟩
           rcases t with _ | _ <;> (try simp only [bs, eq_self, if_true, if_false, reduceIte] at h) <;> (try (cases h; done)) <;> cbv)
        | ((with_reducible (have h0 : Option.bind (spec_kiOf.f _ _ _ _) _ = some _ := h; clear h0))
           refine ⟨[], ?_⟩; cbv
           repeat (first | (refine all_show (by first | omega | decide) ?_; cbv) | (refine all_showT (by assumption) (by assumption) (by assumption) (by first | assumption | exact lt_ix (by assumption) (by assumption) (by assumption) | exact lt_ix2 (by assumption) (by assumption) (by assumption) (by assumption) | exact lt_y (by assumption) (by assumption) | exact le_y (by assumption) | exact ge_y (by assumption) | exact cut_le (by assumption) (by assumption) | omega) (by first | assumption | exact cut_hi (by assumption) | exact cut_hi2 (by assumption) (by assumption) | omega) ?_; intro D hD hnD g hgD; (try rw [hD] at h); cbv))
           obtain ⟨t, ht, h'⟩ := bind_some h
           clear h; have h := h'; clear h'; (try dsimp only at h)
           obtain ⟨n_c173_0, hn_c173_0⟩ : ∃ n, t.length = n := ⟨_, rfl⟩; obtain ⟨g_t, hg_c173_0⟩ : ∃ g, encL eI t = g := ⟨_, rfl⟩; (try rw [hn_c173_0] at h)
           refine ⟨_, _, (hP ▸ spec_kiOf_ok _ _ _ _ _ ht _ (by first | assumption | rfl) _ (by assumption) _ hn_c173_0 _ hg_c173_0 : CallOK P 173 _ _ _ _), ?_⟩; cbv))
    | ((with_reducible show ∃ _ : Nat → List V, _)
       first
        | (refine all_buildI1 ?_; intro g_b hg_b; cbv))
    | ((with_reducible show ∃ _ : Nat → St → Prop, _)
       first
        | (refine ⟨fun k1 s => ∃ x0 x6 x25 x26 x27 n_x0 g_x0 n_x6 g_x6 n_x25 g_x25, spec_RestOfKit.l0 k1 x0 x6 x25 x26 x27 = some (r0, r1) ∧ x0.length = n_x0 ∧ encL eI x0 = g_x0 ∧ x6.length = n_x6 ∧ encL eI x6 = g_x6 ∧ x25.length = n_x25 ∧ encL eI x25 = g_x25 ∧ s = ⟨⟨43, (upd 43 (upd 43 (upd 43 (upd 43 (upd 43 noT 27 (.val (.int .i64 x27))) 26 (.val (.int .i64 x26))) 25 (.row 1 0 n_x25)) 6 (.row 0 0 n_x6)) 0 (.fz 1 n_x0 g_x0))⟩, [.row 3 1 n_x6 g_x6, .row 3 1 n_x25 g_x25]⟩, ?_, [], ?_⟩
           rotate_left
           · cbv; exact ⟨_, [0, 6, 25, 26, 27], by cbv; exact ⟨_, _, _, _, _, _, _, _, _, _, _, h, by first | assumption | rfl, by first | assumption | rfl, by first | assumption | rfl, by first | assumption | rfl, by first | assumption | rfl, by first | assumption | rfl, rfl⟩⟩
           clear h
           rintro (_ | k1) s1 ⟨x0, x6, x25, x26, x27, n_x0, g_x0, n_x6, g_x6, n_x25, g_x25, h, hn_x0, hg_x0, hn_x6, hg_x6, hn_x25, hg_x25, rfl⟩
           · cases h
           unfold spec_RestOfKit.l0 at h
           (try rw [hn_x0] at h); (try rw [hn_x6] at h); (try rw [hn_x25] at h); skip
           cbv))
    | ((with_reducible (have h0 : spec_RestOfKit.j0 _ _ _ _ _ _ = some _ := h; clear h0))
       first
        | (unfold spec_RestOfKit.j0 at h
           rcases k with _ | k
           · cases h
           (try dsimp only at h); (try simp only [bs, eq_self, if_true, if_false, reduceIte] at h); (try rw [hn_l0] at h); (try rw [show (Nat.cast n_l0 : Int) = _ from (by assumption)] at h); (try rw [show (NatCast.natCast n_l0 : Int) = _ from (by assumption)] at h); (try (simp only [Nat.cast] at h; rw [show (NatCast.natCast n_l0 : Int) = _ from (by assumption)] at h)); (try rw [hn_l1_2] at h); (try rw [show (Nat.cast n_l1_2 : Int) = _ from (by assumption)] at h); (try rw [show (NatCast.natCast n_l1_2 : Int) = _ from (by assumption)] at h); (try (simp only [Nat.cast] at h; rw [show (NatCast.natCast n_l1_2 : Int) = _ from (by assumption)] at h)); (try rw [hn_c173_0] at h); (try rw [show (Nat.cast n_c173_0 : Int) = _ from (by assumption)] at h); (try rw [show (NatCast.natCast n_c173_0 : Int) = _ from (by assumption)] at h); (try (simp only [Nat.cast] at h; rw [show (NatCast.natCast n_c173_0 : Int) = _ from (by assumption)] at h)); (try rw [hn_x0] at h); (try rw [show (Nat.cast n_x0 : Int) = _ from (by assumption)] at h); (try rw [show (NatCast.natCast n_x0 : Int) = _ from (by assumption)] at h); (try (simp only [Nat.cast] at h; rw [show (NatCast.natCast n_x0 : Int) = _ from (by assumption)] at h)); (try rw [hn_x6] at h); (try rw [show (Nat.cast n_x6 : Int) = _ from (by assumption)] at h); (try rw [show (NatCast.natCast n_x6 : Int) = _ from (by assumption)] at h); (try (simp only [Nat.cast] at h; rw [show (NatCast.natCast n_x6 : Int) = _ from (by assumption)] at h)); (try rw [hn_x25] at h); (try rw [show (Nat.cast n_x25 : Int) = _ from (by assumption)] at h); (try rw [show (NatCast.natCast n_x25 : Int) = _ from (by assumption)] at h); (try (simp only [Nat.cast] at h; rw [show (NatCast.natCast n_x25 : Int) = _ from (by assumption)] at h))))
    | ((with_reducible show ∀ _ : Bool, _)
       first
        | (refine all_lt ?_ ?_ <;> (intro hd; first | exact absurd rfl hd | ((first | rw [if_pos hd] at h | rw [if_neg hd] at h | rw [if_pos (by omega)] at h | rw [if_neg (by omega)] at h | skip); (first | (rw [decide_eq_true hd] at h; (try simp only [bs, eq_self, if_true, if_false, reduceIte] at h)) | (rw [decide_eq_false hd] at h; (try simp only [bs, eq_self, if_true, if_false, reduceIte] at h)) | skip); cbv))))
    | ((with_reducible show ∀ _ : Int, _)
       first
        | (refine all_wrap ?_; intro y hy; (try rw [hy] at h); cbv)
        | (refine all_len ?_; intro y hy; (try replace hy : ((_ : Nat) : Int) = y := hy); (try rw [hy] at h); (try rw [show (NatCast.natCast _ : Int) = _ from hy] at h); cbv))
    | ((with_reducible show ∀ _ : Nat, _)
       first
        | (refine all_ix0 ?_; intro q hq; (try rw [hq] at h); cbv)
        | (refine all_app (by first | assumption | exact (rfl : encL _ ([] : List _) = _)) (by first | assumption | rfl) (by assumption) (by first | assumption | rfl) ?_; intro L hL n_L hnL g hgL; (try rw [hL] at h); (try rw [Option.bind_some] at h); (try rw [hnL] at h); cbv))
    | ((with_reducible show ∀ _ : List V, _)
       first
        | (refine @all_rd _ _ eI rd ?_ ?_ ?_ _ _ _ (fun _ _ => rfl) ?_ ?_ ?_ ?_ ?_ ?_
           rotate_left 3
           assumption
           assumption
           (first | rfl | assumption)
           (first | assumption | exact lt_ix (by assumption) (by assumption) (by assumption) | exact lt_ix2 (by assumption) (by assumption) (by assumption) (by assumption) | exact lt_y (by assumption) (by assumption) | exact le_y (by assumption) | exact ge_y (by assumption) | exact cut_le (by assumption) (by assumption) | omega)
           (first | assumption | exact lt_ix (by assumption) (by assumption) (by assumption) | exact lt_ix2 (by assumption) (by assumption) (by assumption) (by assumption) | exact lt_y (by assumption) (by assumption) | exact le_y (by assumption) | exact ge_y (by assumption) | exact cut_le (by assumption) (by assumption) | omega)
           intro z hz
           (try rw [hz] at h); cbv))
    | (obtain ⟨hc, h'⟩ := if_none h; clear h; have h := h'; clear h')
    | (simp only [Option.some.injEq, Prod.mk.injEq] at h; obtain ⟨rfl, rfl⟩ := h)
    | ((with_reducible show ∃ _, _)
       refine side (by first | exact enc_same (by assumption) (by assumption) _ | exact take_s1 (by assumption) (by assumption) (by assumption) | exact take_s2 (by assumption) (by assumption) (by assumption) (by assumption) (by assumption) | exact take_s3 (by assumption) (by assumption) (by assumption) | exact take_s4 (by assumption) (by assumption) (by assumption) | (intro k hk; subst_vars; first | eq_refl | exact enc_drop | exact enc_take hk | exact absurd hk (Nat.not_lt_zero k)) | (subst_vars; first | eq_refl | (simp; done) | (simp; omega)) | (have h1 : Int.toNat 1 = 1 := rfl; have h2 := one_le (by assumption) (by assumption); simp only [List.length_append, List.length_nil, List.length_drop, h1] at *; omega) | (simp only [Nat.cast] at *; omega)) ?_; (try cbv)))

def impl_MostCopies.l0 : Nat → List Int → Int → List Int → Int → Int → Option (Int × Bool)
  | 0, _, _, _, _, _ => none
  | k + 1, x0, x6, x18, x19, x20 => if x20 < x19 then (if 0 ≤ x20 then (if x20 < (x18.length : Int) then (if (rd x18 x20) > 0 then (if x20 < (x0.length : Int) then (if (rd x18 x20) = 0 then (none) else (impl_MostCopies.l0 k x0 (mn x6 (wrap64 (Int.tdiv (rd x0 x20) (rd x18 x20)))) x18 x19 (wrap64 (x20 + 1)))) else (none)) else (impl_MostCopies.l0 k x0 x6 x18 x19 (wrap64 (x20 + 1)))) else (none)) else (none)) else (some (x6, true))
def impl_MostCopies.j0 : Nat → List Int → Bool → Int → Int → List (S116) → Option (Int × Bool)
  | 0, _, _, _, _, _ => none
  | k + 1, x0, x16, x1418000, x1418001, x1418002 => if x16 = true then (some (0, false)) else ((impl_neededParts.f k x1418000 x1418001 x1418002).bind fun t1420 => (impl_MostCopies.l0 k x0 500 t1420 (t1420.length : Int) 0))
def impl_MostCopies.f (k : Nat) (l0 : List Int) (a1_0 : Int) (a1_1 : Int) (l1_2 : List (S116)) : Option (Int × Bool) := (impl_isKit.f k l0).bind fun t1418 => (if t1418 = true then ((impl_IsBoard.f k a1_0 a1_1 l1_2).bind fun t1419 => (impl_MostCopies.j0 k l0 (!t1419) a1_0 a1_1 l1_2)) else (impl_MostCopies.j0 k l0 true a1_0 a1_1 l1_2))

theorem impl_MostCopies_ok (k : Nat) (l0 : List Int) (a1_0 : Int) (a1_1 : Int) (l1_2 : List (S116)) (r0 : Int) (r1 : Bool) (h : impl_MostCopies.f k l0 a1_0 a1_1 l1_2 = some (r0, r1)) (n_l0 : Nat) (hn_l0 : l0.length = n_l0) (g_l0 : Nat → List V) (hg_l0 : encL eI l0 = g_l0) (n_l1_2 : Nat) (hn_l1_2 : l1_2.length = n_l1_2) (g_l1_2 : Nat → List V) (hg_l1_2 : encL e116 l1_2 = g_l1_2)  : CallOK Try.prog 66 [.fz 1 n_l0 g_l0, .agg [.val (.int .i64 a1_0), .val (.int .i64 a1_1), .fz 2 n_l1_2 g_l1_2]] [] (.tup [.val (.int .i64 r0), .val (.bool r1)]) [] := by
  refine CallOK.of_code tabOK Try.func66 rfl rfl ⟨[(3, [0, 3]), (9, [0, 6, 18, 19, 20]), (10, [6])], []⟩ ?_
  unfold impl_MostCopies.f at h
  obtain ⟨P, hP⟩ : ∃ P, Try.prog = P := ⟨_, rfl⟩
  rw [hP]
  (try rw [hn_l0] at h); (try rw [hn_l1_2] at h); skip
  cbv
  repeat' (first
    | ((with_reducible show ∃ _, _)
       first
        | (refine ⟨trivial, ?_⟩; cbv)
        | (refine side (by first | with_reducible eq_refl | assumption | (intro _ _; with_reducible eq_refl) | exact lt_ix (by assumption) (by assumption) (by assumption) | exact lt_ix2 (by assumption) (by assumption) (by assumption) (by assumption) | exact lt_y (by assumption) (by assumption) | exact le_y (by assumption) | exact ge_y (by assumption) | exact cut_le (by assumption) (by assumption) | omega) ?_; (try cbv))
        | (refine ⟨Frz.own, ?_⟩; cbv))
    | ((with_reducible show ∃ _ : Nat, _)
       first
        | (refine ⟨_, [0, 6, 18, 19, 20], Nat.lt_succ_self _, ?_⟩; cbv; exact ⟨_, _, _, _, _, _, _, _, _, h, by first | assumption | rfl, by first | assumption | rfl, by first | assumption | rfl, by first | assumption | rfl, rfl⟩))
    | ((with_reducible show ∃ _ : List Nat, _)
       first
        | ((with_reducible (have h0 : Option.bind (impl_isKit.f _ _) _ = some _ := h; clear h0))
           refine ⟨[], ?_⟩; cbv
           repeat (first | (refine all_show (by first | omega | decide) ?_; cbv) | (refine all_showT (by assumption) (by assumption) (by assumption) (by first | assumption | exact lt_ix (by assumption) (by assumption) (by assumption) | exact lt_ix2 (by assumption) (by assumption) (by assumption) (by assumption) | exact lt_y (by assumption) (by assumption) | exact le_y (by assumption) | exact ge_y (by assumption) | exact cut_le (by assumption) (by assumption) | omega) (by first | assumption | exact cut_hi (by assumption) | exact cut_hi2 (by assumption) (by assumption) | omega) ?_; intro D hD hnD g hgD; (try rw [hD] at h); cbv))
           obtain ⟨t, ht, h'⟩ := bind_some h
           clear h; have h := h'; clear h'; (try dsimp only at h)
           refine ⟨_, _, (hP ▸ impl_isKit_ok _ _ _ ht _ (by first | assumption | rfl) _ (by assumption)  : CallOK P 115 _ _ _ _), ?_⟩
           rcases t with _ | _ <;> (try simp only [bs, eq_self, if_true, if_false, reduceIte] at h) <;> (try (cases h; done)) <;> cbv)
        | ((with_reducible (have h0 : Option.bind (impl_IsBoard.f _ _ _ _) _ = some _ := h; clear h0))
           refine ⟨[], ?_⟩; cbv
           repeat (first | (refine all_show (by first | omega | decide) ?_; cbv) | (refine all_showT (by assumption) (by assumption) (by assumption) (by first | assumption | exact lt_ix (by assumption) (by assumption) (by assumption) | exact lt_ix2 (by assumption) (by assumption) (by assumption) (by assumption) | exact lt_y (by assumption) (by assumption) | exact le_y (by assumption) | exact ge_y (by assumption) | exact cut_le (by assumption) (by assumption) | omega) (by first | assumption | exact cut_hi (by assumption) | exact cut_hi2 (by assumption) (by assumption) | omega) ?_; intro D hD hnD g hgD; (try rw [hD] at h); cbv))
           obtain ⟨t, ht, h'⟩ := bind_some h
           clear h; have h := h'; clear h'; (try dsimp only at h)
           refine ⟨_, _, (hP ▸ impl_IsBoard_ok _ _ _ _ _ ht _ (by first | assumption | rfl) _ (by assumption)  : CallOK P 169 _ _ _ _), ?_⟩
           rcases t with _ | _ <;> (try simp only [bs, eq_self, if_true, if_false, reduceIte] at h) <;> (try (cases h; done)) <;> cbv)
        | ((with_reducible (have h0 : Option.bind (impl_neededParts.f _ _ _ _) _ = some _ := h; clear h0))
           refine ⟨[], ?_⟩; cbv
           repeat (first | (refine all_show (by first | omega | decide) ?_; cbv) | (refine all_showT (by assumption) (by assumption) (by assumption) (by first | assumption | exact lt_ix (by assumption) (by assumption) (by assumption) | exact lt_ix2 (by assumption) (by assumption) (by assumption) (by assumption) | exact lt_y (by assumption) (by assumption) | exact le_y (by assumption) | exact ge_y (by assumption) | exact cut_le (by assumption) (by assumption) | omega) (by first | assumption | exact cut_hi (by assumption) | exact cut_hi2 (by assumption) (by assumption) | omega) ?_; intro D hD hnD g hgD; (try rw [hD] at h); cbv))
           obtain ⟨t, ht, h'⟩ := bind_some h
           clear h; have h := h'; clear h'; (try dsimp only at h)
           obtain ⟨n_c170_0, hn_c170_0⟩ : ∃ n, t.length = n := ⟨_, rfl⟩; obtain ⟨g_t, hg_c170_0⟩ : ∃ g, encL eI t = g := ⟨_, rfl⟩; (try rw [hn_c170_0] at h)
           refine ⟨_, _, (hP ▸ impl_neededParts_ok _ _ _ _ _ ht _ (by first | assumption | rfl) _ (by assumption) _ hn_c170_0 _ hg_c170_0 : CallOK P 170 _ _ _ _), ?_⟩; cbv))
    | ((with_reducible show ∃ _ : Nat → St → Prop, _)
       first
        | (refine ⟨fun k1 s => ∃ x0 x6 x18 x19 x20 n_x0 g_x0 n_x18 g_x18, impl_MostCopies.l0 k1 x0 x6 x18 x19 x20 = some (r0, r1) ∧ x0.length = n_x0 ∧ encL eI x0 = g_x0 ∧ x18.length = n_x18 ∧ encL eI x18 = g_x18 ∧ s = ⟨⟨37, (upd 37 (upd 37 (upd 37 (upd 37 (upd 37 noT 20 (.val (.int .i64 x20))) 19 (.val (.int .i64 x19))) 18 (.row 0 0 n_x18)) 6 (.val (.int .i64 x6))) 0 (.fz 1 n_x0 g_x0))⟩, [.row 3 1 n_x18 g_x18]⟩, ?_, [], ?_⟩
           rotate_left
           · cbv; exact ⟨_, [0, 6, 18, 19, 20], by cbv; exact ⟨_, _, _, _, _, _, _, _, _, h, by first | assumption | rfl, by first | assumption | rfl, by first | assumption | rfl, by first | assumption | rfl, rfl⟩⟩
           clear h
           rintro (_ | k1) s1 ⟨x0, x6, x18, x19, x20, n_x0, g_x0, n_x18, g_x18, h, hn_x0, hg_x0, hn_x18, hg_x18, rfl⟩
           · cases h
           unfold impl_MostCopies.l0 at h
           (try rw [hn_x0] at h); (try rw [hn_x18] at h); skip
           cbv))
    | ((with_reducible (have h0 : impl_MostCopies.j0 _ _ _ _ _ _ = some _ := h; clear h0))
       first
        | (unfold impl_MostCopies.j0 at h
           rcases k with _ | k
           · cases h
           (try dsimp only at h); (try simp only [bs, eq_self, if_true, if_false, reduceIte] at h); (try rw [hn_l0] at h); (try rw [show (Nat.cast n_l0 : Int) = _ from (by assumption)] at h); (try rw [show (NatCast.natCast n_l0 : Int) = _ from (by assumption)] at h); (try (simp only [Nat.cast] at h; rw [show (NatCast.natCast n_l0 : Int) = _ from (by assumption)] at h)); (try rw [hn_l1_2] at h); (try rw [show (Nat.cast n_l1_2 : Int) = _ from (by assumption)] at h); (try rw [show (NatCast.natCast n_l1_2 : Int) = _ from (by assumption)] at h); (try (simp only [Nat.cast] at h; rw [show (NatCast.natCast n_l1_2 : Int) = _ from (by assumption)] at h)); (try rw [hn_c170_0] at h); (try rw [show (Nat.cast n_c170_0 : Int) = _ from (by assumption)] at h); (try rw [show (NatCast.natCast n_c170_0 : Int) = _ from (by assumption)] at h); (try (simp only [Nat.cast] at h; rw [show (NatCast.natCast n_c170_0 : Int) = _ from (by assumption)] at h)); (try rw [hn_x0] at h); (try rw [show (Nat.cast n_x0 : Int) = _ from (by assumption)] at h); (try rw [show (NatCast.natCast n_x0 : Int) = _ from (by assumption)] at h); (try (simp only [Nat.cast] at h; rw [show (NatCast.natCast n_x0 : Int) = _ from (by assumption)] at h)); (try rw [hn_x18] at h); (try rw [show (Nat.cast n_x18 : Int) = _ from (by assumption)] at h); (try rw [show (NatCast.natCast n_x18 : Int) = _ from (by assumption)] at h); (try (simp only [Nat.cast] at h; rw [show (NatCast.natCast n_x18 : Int) = _ from (by assumption)] at h))))
    | ((with_reducible show ∀ _ : Bool, _)
       first
        | (refine all_lt ?_ ?_ <;> (intro hd; first | exact absurd rfl hd | ((first | rw [if_pos hd] at h | rw [if_neg hd] at h | rw [if_pos (by omega)] at h | rw [if_neg (by omega)] at h | skip); (first | (rw [decide_eq_true hd] at h; (try simp only [bs, eq_self, if_true, if_false, reduceIte] at h)) | (rw [decide_eq_false hd] at h; (try simp only [bs, eq_self, if_true, if_false, reduceIte] at h)) | skip); cbv))))
    | ((with_reducible show ∀ _ : Int, _)
       first
        | (refine all_mn ?_; intro y hy; (try rw [hy] at h); cbv)
        | (refine all_wrap ?_; intro y hy; (try rw [hy] at h); cbv)
        | (refine all_len ?_; intro y hy; (try replace hy : ((_ : Nat) : Int) = y := hy); (try rw [hy] at h); (try rw [show (NatCast.natCast _ : Int) = _ from hy] at h); cbv))
    | ((with_reducible show ∀ _ : Nat, _)
       first
        | (refine all_ix0 ?_; intro q hq; (try rw [hq] at h); cbv))
    | ((with_reducible show ∀ _ : List V, _)
       first
        | (refine @all_rd _ _ eI rd ?_ ?_ ?_ _ _ _ (fun _ _ => rfl) ?_ ?_ ?_ ?_ ?_ ?_
           rotate_left 3
           assumption
           assumption
           (first | rfl | assumption)
           (first | assumption | exact lt_ix (by assumption) (by assumption) (by assumption) | exact lt_ix2 (by assumption) (by assumption) (by assumption) (by assumption) | exact lt_y (by assumption) (by assumption) | exact le_y (by assumption) | exact ge_y (by assumption) | exact cut_le (by assumption) (by assumption) | omega)
           (first | assumption | exact lt_ix (by assumption) (by assumption) (by assumption) | exact lt_ix2 (by assumption) (by assumption) (by assumption) (by assumption) | exact lt_y (by assumption) (by assumption) | exact le_y (by assumption) | exact ge_y (by assumption) | exact cut_le (by assumption) (by assumption) | omega)
           intro z hz
           (try rw [hz] at h); cbv))
    | (obtain ⟨hc, h'⟩ := if_none h; clear h; have h := h'; clear h')
    | (obtain ⟨hc, h'⟩ := if_none' h; clear h; have h := h'; clear h')
    | (simp only [Option.some.injEq, Prod.mk.injEq] at h; obtain ⟨rfl, rfl⟩ := h)
    | trivial)

def spec_l1Least.f (a0 : Int) (a1 : Int) : Option (Int) := if a0 < a1 then (some a0) else (some a1)

theorem spec_l1Least_ok  (a0 : Int) (a1 : Int) (r0 : Int) (h : spec_l1Least.f a0 a1 = some r0)   : CallOK Try.prog 142 [.val (.int .i64 a0), .val (.int .i64 a1)] [] (.val (.int .i64 r0)) [] := by
  refine CallOK.of_code tabOK Try.func142 rfl rfl ⟨[], []⟩ ?_
  unfold spec_l1Least.f at h
  obtain ⟨P, hP⟩ : ∃ P, Try.prog = P := ⟨_, rfl⟩
  rw [hP]
  skip
  cbv
  repeat' (first
    | ((with_reducible show ∃ _, _)
       first
        | (refine ⟨trivial, ?_⟩; cbv)
        | (refine side (by first | with_reducible eq_refl | assumption | (intro _ _; with_reducible eq_refl) | exact lt_ix (by assumption) (by assumption) (by assumption) | exact lt_ix2 (by assumption) (by assumption) (by assumption) (by assumption) | exact lt_y (by assumption) (by assumption) | exact le_y (by assumption) | exact ge_y (by assumption) | exact cut_le (by assumption) (by assumption) | omega) ?_; (try cbv)))
    | ((with_reducible show ∀ _ : Bool, _)
       first
        | (refine all_lt ?_ ?_ <;> (intro hd; first | exact absurd rfl hd | ((first | rw [if_pos hd] at h | rw [if_neg hd] at h | rw [if_pos (by omega)] at h | rw [if_neg (by omega)] at h | skip); (first | (rw [decide_eq_true hd] at h; (try simp only [bs, eq_self, if_true, if_false, reduceIte] at h)) | (rw [decide_eq_false hd] at h; (try simp only [bs, eq_self, if_true, if_false, reduceIte] at h)) | skip); cbv))))
    | (simp only [Option.some.injEq, Prod.mk.injEq] at h; subst h)
    | trivial)

def spec_MostCopies.l0 : Nat → List Int → Int → List Int → Int → Int → Option (Int × Bool)
  | 0, _, _, _, _, _ => none
  | k + 1, x0, x6, x18, x19, x20 => if x20 < x19 then (if 0 ≤ x20 then (if x20 < (x18.length : Int) then (if (rd x18 x20) > 0 then (if x20 < (x0.length : Int) then (if (rd x18 x20) = 0 then (none) else ((spec_l1Least.f x6 (wrap64 (Int.tdiv (rd x0 x20) (rd x18 x20)))).bind fun t1433 => (spec_MostCopies.l0 k x0 t1433 x18 x19 (wrap64 (x20 + 1))))) else (none)) else (spec_MostCopies.l0 k x0 x6 x18 x19 (wrap64 (x20 + 1)))) else (none)) else (none)) else (some (x6, true))
def spec_MostCopies.j0 : Nat → List Int → Bool → Int → Int → List (S116) → Option (Int × Bool)
  | 0, _, _, _, _, _ => none
  | k + 1, x0, x16, x1426000, x1426001, x1426002 => if x16 = true then (some (0, false)) else ((spec_kiOf.f k x1426000 x1426001 x1426002).bind fun t1428 => (spec_MostCopies.l0 k x0 500 t1428 (t1428.length : Int) 0))
def spec_MostCopies.f (k : Nat) (l0 : List Int) (a1_0 : Int) (a1_1 : Int) (l1_2 : List (S116)) : Option (Int × Bool) := (spec_kiParts.f k l0).bind fun t1426 => (if t1426 = true then ((spec_boGood.f k a1_0 a1_1 l1_2).bind fun t1427 => (spec_MostCopies.j0 k l0 (!t1427) a1_0 a1_1 l1_2)) else (spec_MostCopies.j0 k l0 true a1_0 a1_1 l1_2))

theorem spec_MostCopies_ok (k : Nat) (l0 : List Int) (a1_0 : Int) (a1_1 : Int) (l1_2 : List (S116)) (r0 : Int) (r1 : Bool) (h : spec_MostCopies.f k l0 a1_0 a1_1 l1_2 = some (r0, r1)) (n_l0 : Nat) (hn_l0 : l0.length = n_l0) (g_l0 : Nat → List V) (hg_l0 : encL eI l0 = g_l0) (n_l1_2 : Nat) (hn_l1_2 : l1_2.length = n_l1_2) (g_l1_2 : Nat → List V) (hg_l1_2 : encL e116 l1_2 = g_l1_2)  : CallOK Try.prog 67 [.fz 1 n_l0 g_l0, .agg [.val (.int .i64 a1_0), .val (.int .i64 a1_1), .fz 2 n_l1_2 g_l1_2]] [] (.tup [.val (.int .i64 r0), .val (.bool r1)]) [] := by
  refine CallOK.of_code tabOK Try.func67 rfl rfl ⟨[(3, [0, 3]), (9, [0, 6, 18, 19, 20]), (10, [6])], []⟩ ?_
  unfold spec_MostCopies.f at h
  obtain ⟨P, hP⟩ : ∃ P, Try.prog = P := ⟨_, rfl⟩
  rw [hP]
  (try rw [hn_l0] at h); (try rw [hn_l1_2] at h); skip
  cbv
  repeat' (first
    | ((with_reducible show ∃ _, _)
       first
        | (refine ⟨trivial, ?_⟩; cbv)
        | (refine side (by first | with_reducible eq_refl | assumption | (intro _ _; with_reducible eq_refl) | exact lt_ix (by assumption) (by assumption) (by assumption) | exact lt_ix2 (by assumption) (by assumption) (by assumption) (by assumption) | exact lt_y (by assumption) (by assumption) | exact le_y (by assumption) | exact ge_y (by assumption) | exact cut_le (by assumption) (by assumption) | omega) ?_; (try cbv))
        | (refine ⟨Frz.own, ?_⟩; cbv))
    | ((with_reducible show ∃ _ : Nat, _)
       first
        | (refine ⟨_, [0, 6, 18, 19, 20], Nat.lt_succ_self _, ?_⟩; cbv; exact ⟨_, _, _, _, _, _, _, _, _, h, by first | assumption | rfl, by first | assumption | rfl, by first | assumption | rfl, by first | assumption | rfl, rfl⟩))
    | ((with_reducible show ∃ _ : List Nat, _)
       first
        | ((with_reducible (have h0 : Option.bind (spec_kiParts.f _ _) _ = some _ := h; clear h0))
           refine ⟨[], ?_⟩; cbv
           repeat (first | (refine all_show (by first | omega | decide) ?_; cbv) | (refine all_showT (by assumption) (by assumption) (by assumption) (by first | assumption | exact lt_ix (by assumption) (by assumption) (by assumption) | exact lt_ix2 (by assumption) (by assumption) (by assumption) (by assumption) | exact lt_y (by assumption) (by assumption) | exact le_y (by assumption) | exact ge_y (by assumption) | exact cut_le (by assumption) (by assumption) | omega) (by first | assumption | exact cut_hi (by assumption) | exact cut_hi2 (by assumption) (by assumption) | omega) ?_; intro D hD hnD g hgD; (try rw [hD] at h); cbv))
           obtain ⟨t, ht, h'⟩ := bind_some h
           clear h; have h := h'; clear h'; (try dsimp only at h)
           refine ⟨_, _, (hP ▸ spec_kiParts_ok _ _ _ ht _ (by first | assumption | rfl) _ (by assumption)  : CallOK P 112 _ _ _ _), ?_⟩
           rcases t with _ | _ <;> (try simp only [bs, eq_self, if_true, if_false, reduceIte] at h) <;> (try (cases h; done)) <;> cbv)
        | ((with_reducible (have h0 : Option.bind (spec_l1Least.f _ _) _ = some _ := h; clear h0))
           refine ⟨[], ?_⟩; cbv
           repeat (first | (refine all_show (by first | omega | decide) ?_; cbv) | (refine all_showT (by assumption) (by assumption) (by assumption) (by first | assumption | exact lt_ix (by assumption) (by assumption) (by assumption) | exact lt_ix2 (by assumption) (by assumption) (by assumption) (by assumption) | exact lt_y (by assumption) (by assumption) | exact le_y (by assumption) | exact ge_y (by assumption) | exact cut_le (by assumption) (by assumption) | omega) (by first | assumption | exact cut_hi (by assumption) | exact cut_hi2 (by assumption) (by assumption) | omega) ?_; intro D hD hnD g hgD; (try rw [hD] at h); cbv))
           obtain ⟨t, ht, h'⟩ := bind_some h
           clear h; have h := h'; clear h'; (try dsimp only at h)
           refine ⟨_, _, (hP ▸ spec_l1Least_ok _ _ _ ht   : CallOK P 142 _ _ _ _), ?_⟩; cbv)
        | ((with_reducible (have h0 : Option.bind (spec_boGood.f _ _ _ _) _ = some _ := h; clear h0))
           refine ⟨[], ?_⟩; cbv
           repeat (first | (refine all_show (by first | omega | decide) ?_; cbv) | (refine all_showT (by assumption) (by assumption) (by assumption) (by first | assumption | exact lt_ix (by assumption) (by assumption) (by assumption) | exact lt_ix2 (by assumption) (by assumption) (by assumption) (by assumption) | exact lt_y (by assumption) (by assumption) | exact le_y (by assumption) | exact ge_y (by assumption) | exact cut_le (by assumption) (by assumption) | omega) (by first | assumption | exact cut_hi (by assumption) | exact cut_hi2 (by assumption) (by assumption) | omega) ?_; intro D hD hnD g hgD; (try rw [hD] at h); cbv))
           obtain ⟨t, ht, h'⟩ := bind_some h
           clear h; have h := h'; clear h'; (try dsimp only at h)
           refine ⟨_, _, (hP ▸ spec_boGood_ok _ _ _ _ _ ht _ (by first | assumption | rfl) _ (by assumption)  : CallOK P 171 _ _ _ _), ?_⟩
           rcases t with _ | _ <;> (try simp only [bs, eq_self, if_true, if_false, reduceIte] at h) <;> (try (cases h; done)) <;> cbv)
        | ((with_reducible (have h0 : Option.bind (spec_kiOf.f _ _ _ _) _ = some _ := h; clear h0))
           refine ⟨[], ?_⟩; cbv
           repeat (first | (refine all_show (by first | omega | decide) ?_; cbv) | (refine all_showT (by assumption) (by assumption) (by assumption) (by first | assumption | exact lt_ix (by assumption) (by assumption) (by assumption) | exact lt_ix2 (by assumption) (by assumption) (by assumption) (by assumption) | exact lt_y (by assumption) (by assumption) | exact le_y (by assumption) | exact ge_y (by assumption) | exact cut_le (by assumption) (by assumption) | omega) (by first | assumption | exact cut_hi (by assumption) | exact cut_hi2 (by assumption) (by assumption) | omega) ?_; intro D hD hnD g hgD; (try rw [hD] at h); cbv))
           obtain ⟨t, ht, h'⟩ := bind_some h
           clear h; have h := h'; clear h'; (try dsimp only at h)
           obtain ⟨n_c173_0, hn_c173_0⟩ : ∃ n, t.length = n := ⟨_, rfl⟩; obtain ⟨g_t, hg_c173_0⟩ : ∃ g, encL eI t = g := ⟨_, rfl⟩; (try rw [hn_c173_0] at h)
           refine ⟨_, _, (hP ▸ spec_kiOf_ok _ _ _ _ _ ht _ (by first | assumption | rfl) _ (by assumption) _ hn_c173_0 _ hg_c173_0 : CallOK P 173 _ _ _ _), ?_⟩; cbv))
    | ((with_reducible show ∃ _ : Nat → St → Prop, _)
       first
        | (refine ⟨fun k1 s => ∃ x0 x6 x18 x19 x20 n_x0 g_x0 n_x18 g_x18, spec_MostCopies.l0 k1 x0 x6 x18 x19 x20 = some (r0, r1) ∧ x0.length = n_x0 ∧ encL eI x0 = g_x0 ∧ x18.length = n_x18 ∧ encL eI x18 = g_x18 ∧ s = ⟨⟨37, (upd 37 (upd 37 (upd 37 (upd 37 (upd 37 noT 20 (.val (.int .i64 x20))) 19 (.val (.int .i64 x19))) 18 (.row 0 0 n_x18)) 6 (.val (.int .i64 x6))) 0 (.fz 1 n_x0 g_x0))⟩, [.row 3 1 n_x18 g_x18]⟩, ?_, [], ?_⟩
           rotate_left
           · cbv; exact ⟨_, [0, 6, 18, 19, 20], by cbv; exact ⟨_, _, _, _, _, _, _, _, _, h, by first | assumption | rfl, by first | assumption | rfl, by first | assumption | rfl, by first | assumption | rfl, rfl⟩⟩
           clear h
           rintro (_ | k1) s1 ⟨x0, x6, x18, x19, x20, n_x0, g_x0, n_x18, g_x18, h, hn_x0, hg_x0, hn_x18, hg_x18, rfl⟩
           · cases h
           unfold spec_MostCopies.l0 at h
           (try rw [hn_x0] at h); (try rw [hn_x18] at h); skip
           cbv))
    | ((with_reducible (have h0 : spec_MostCopies.j0 _ _ _ _ _ _ = some _ := h; clear h0))
       first
        | (unfold spec_MostCopies.j0 at h
           rcases k with _ | k
           · cases h
           (try dsimp only at h); (try simp only [bs, eq_self, if_true, if_false, reduceIte] at h); (try rw [hn_l0] at h); (try rw [show (Nat.cast n_l0 : Int) = _ from (by assumption)] at h); (try rw [show (NatCast.natCast n_l0 : Int) = _ from (by assumption)] at h); (try (simp only [Nat.cast] at h; rw [show (NatCast.natCast n_l0 : Int) = _ from (by assumption)] at h)); (try rw [hn_l1_2] at h); (try rw [show (Nat.cast n_l1_2 : Int) = _ from (by assumption)] at h); (try rw [show (NatCast.natCast n_l1_2 : Int) = _ from (by assumption)] at h); (try (simp only [Nat.cast] at h; rw [show (NatCast.natCast n_l1_2 : Int) = _ from (by assumption)] at h)); (try rw [hn_c173_0] at h); (try rw [show (Nat.cast n_c173_0 : Int) = _ from (by assumption)] at h); (try rw [show (NatCast.natCast n_c173_0 : Int) = _ from (by assumption)] at h); (try (simp only [Nat.cast] at h; rw [show (NatCast.natCast n_c173_0 : Int) = _ from (by assumption)] at h)); (try rw [hn_x0] at h); (try rw [show (Nat.cast n_x0 : Int) = _ from (by assumption)] at h); (try rw [show (NatCast.natCast n_x0 : Int) = _ from (by assumption)] at h); (try (simp only [Nat.cast] at h; rw [show (NatCast.natCast n_x0 : Int) = _ from (by assumption)] at h)); (try rw [hn_x18] at h); (try rw [show (Nat.cast n_x18 : Int) = _ from (by assumption)] at h); (try rw [show (NatCast.natCast n_x18 : Int) = _ from (by assumption)] at h); (try (simp only [Nat.cast] at h; rw [show (NatCast.natCast n_x18 : Int) = _ from (by assumption)] at h))))
    | ((with_reducible show ∀ _ : Bool, _)
       first
        | (refine all_lt ?_ ?_ <;> (intro hd; first | exact absurd rfl hd | ((first | rw [if_pos hd] at h | rw [if_neg hd] at h | rw [if_pos (by omega)] at h | rw [if_neg (by omega)] at h | skip); (first | (rw [decide_eq_true hd] at h; (try simp only [bs, eq_self, if_true, if_false, reduceIte] at h)) | (rw [decide_eq_false hd] at h; (try simp only [bs, eq_self, if_true, if_false, reduceIte] at h)) | skip); cbv))))
    | ((with_reducible show ∀ _ : Int, _)
       first
        | (refine all_wrap ?_; intro y hy; (try rw [hy] at h); cbv)
        | (refine all_len ?_; intro y hy; (try replace hy : ((_ : Nat) : Int) = y := hy); (try rw [hy] at h); (try rw [show (NatCast.natCast _ : Int) = _ from hy] at h); cbv))
    | ((with_reducible show ∀ _ : Nat, _)
       first
        | (refine all_ix0 ?_; intro q hq; (try rw [hq] at h); cbv))
    | ((with_reducible show ∀ _ : List V, _)
       first
        | (refine @all_rd _ _ eI rd ?_ ?_ ?_ _ _ _ (fun _ _ => rfl) ?_ ?_ ?_ ?_ ?_ ?_
           rotate_left 3
           assumption
           assumption
           (first | rfl | assumption)
           (first | assumption | exact lt_ix (by assumption) (by assumption) (by assumption) | exact lt_ix2 (by assumption) (by assumption) (by assumption) (by assumption) | exact lt_y (by assumption) (by assumption) | exact le_y (by assumption) | exact ge_y (by assumption) | exact cut_le (by assumption) (by assumption) | omega)
           (first | assumption | exact lt_ix (by assumption) (by assumption) (by assumption) | exact lt_ix2 (by assumption) (by assumption) (by assumption) (by assumption) | exact lt_y (by assumption) (by assumption) | exact le_y (by assumption) | exact ge_y (by assumption) | exact cut_le (by assumption) (by assumption) | omega)
           intro z hz
           (try rw [hz] at h); cbv))
    | (obtain ⟨hc, h'⟩ := if_none h; clear h; have h := h'; clear h')
    | (obtain ⟨hc, h'⟩ := if_none' h; clear h; have h := h'; clear h')
    | (simp only [Option.some.injEq, Prod.mk.injEq] at h; obtain ⟨rfl, rfl⟩ := h)
    | trivial)

def impl_NeededParts.f (k : Nat) (a0_0 : Int) (a0_1 : Int) (l0_2 : List (S116)) : Option (List Int × Bool) := (impl_IsBoard.f k a0_0 a0_1 l0_2).bind fun t1435 => (if t1435 = true then ((impl_neededParts.f k a0_0 a0_1 l0_2).bind fun t1436 => (some (t1436, true))) else (some (([] : List Int), false)))

theorem impl_NeededParts_ok (k : Nat) (a0_0 : Int) (a0_1 : Int) (l0_2 : List (S116)) (r0 : List Int) (r1 : Bool) (h : impl_NeededParts.f k a0_0 a0_1 l0_2 = some (r0, r1)) (n_l0_2 : Nat) (hn_l0_2 : l0_2.length = n_l0_2) (g_l0_2 : Nat → List V) (hg_l0_2 : encL e116 l0_2 = g_l0_2) (n_r0 : Nat) (hn_r0 : r0.length = n_r0) (g_r0 : Nat → List V) (hg_r0 : encL eI r0 = g_r0) : CallOK Try.prog 68 [.agg [.val (.int .i64 a0_0), .val (.int .i64 a0_1), .fz 2 n_l0_2 g_l0_2]] [] (.tup [.row 0 0 n_r0, .val (.bool r1)]) [.row 3 1 n_r0 g_r0] := by
  refine CallOK.of_code tabOK Try.func68 rfl rfl ⟨[], []⟩ ?_
  unfold impl_NeededParts.f at h
  obtain ⟨P, hP⟩ : ∃ P, Try.prog = P := ⟨_, rfl⟩
  rw [hP]
  (try rw [hn_l0_2] at h); skip
  cbv
  repeat' (first
    | ((with_reducible show ∃ _, _)
       first
        | (refine ⟨trivial, ?_⟩; cbv)
        | (refine side (by first | with_reducible eq_refl | assumption | (intro _ _; with_reducible eq_refl) | exact lt_ix (by assumption) (by assumption) (by assumption) | exact lt_ix2 (by assumption) (by assumption) (by assumption) (by assumption) | exact lt_y (by assumption) (by assumption) | exact le_y (by assumption) | exact ge_y (by assumption) | exact cut_le (by assumption) (by assumption) | omega) ?_; (try cbv))
        | (refine bind_side (Eq.refl _) ?_; (try cbv))
        | (refine ⟨.kept, side (Eq.refl _) (side (by first | trivial | exact ⟨clean_enc (by assumption) (by assumption) (fun _ => rfl), trivial⟩) ?_)⟩; cbv)
        | (refine ⟨Frz.own, ?_⟩; cbv)
        | (refine ⟨.row, ?_⟩; cbv))
    | ((with_reducible show ∃ _ : List Nat, _)
       first
        | ((with_reducible (have h0 : Option.bind (impl_IsBoard.f _ _ _ _) _ = some _ := h; clear h0))
           refine ⟨[], ?_⟩; cbv
           repeat (first | (refine all_show (by first | omega | decide) ?_; cbv) | (refine all_showT (by assumption) (by assumption) (by assumption) (by first | assumption | exact lt_ix (by assumption) (by assumption) (by assumption) | exact lt_ix2 (by assumption) (by assumption) (by assumption) (by assumption) | exact lt_y (by assumption) (by assumption) | exact le_y (by assumption) | exact ge_y (by assumption) | exact cut_le (by assumption) (by assumption) | omega) (by first | assumption | exact cut_hi (by assumption) | exact cut_hi2 (by assumption) (by assumption) | omega) ?_; intro D hD hnD g hgD; (try rw [hD] at h); cbv))
           obtain ⟨t, ht, h'⟩ := bind_some h
           clear h; have h := h'; clear h'; (try dsimp only at h)
           refine ⟨_, _, (hP ▸ impl_IsBoard_ok _ _ _ _ _ ht _ (by first | assumption | rfl) _ (by assumption)  : CallOK P 169 _ _ _ _), ?_⟩
           rcases t with _ | _ <;> (try simp only [bs, eq_self, if_true, if_false, reduceIte] at h) <;> (try (cases h; done)) <;> cbv)
        | ((with_reducible (have h0 : Option.bind (impl_neededParts.f _ _ _ _) _ = some _ := h; clear h0))
           refine ⟨[], ?_⟩; cbv
           repeat (first | (refine all_show (by first | omega | decide) ?_; cbv) | (refine all_showT (by assumption) (by assumption) (by assumption) (by first | assumption | exact lt_ix (by assumption) (by assumption) (by assumption) | exact lt_ix2 (by assumption) (by assumption) (by assumption) (by assumption) | exact lt_y (by assumption) (by assumption) | exact le_y (by assumption) | exact ge_y (by assumption) | exact cut_le (by assumption) (by assumption) | omega) (by first | assumption | exact cut_hi (by assumption) | exact cut_hi2 (by assumption) (by assumption) | omega) ?_; intro D hD hnD g hgD; (try rw [hD] at h); cbv))
           obtain ⟨t, ht, h'⟩ := bind_some h
           clear h; have h := h'; clear h'; (try dsimp only at h)
           obtain ⟨n_c170_0, hn_c170_0⟩ : ∃ n, t.length = n := ⟨_, rfl⟩; obtain ⟨g_t, hg_c170_0⟩ : ∃ g, encL eI t = g := ⟨_, rfl⟩; (try rw [hn_c170_0] at h)
           refine ⟨_, _, (hP ▸ impl_neededParts_ok _ _ _ _ _ ht _ (by first | assumption | rfl) _ (by assumption) _ hn_c170_0 _ hg_c170_0 : CallOK P 170 _ _ _ _), ?_⟩; cbv))
    | (simp only [Option.some.injEq, Prod.mk.injEq] at h; obtain ⟨rfl, rfl⟩ := h)
    | ((with_reducible show ∃ _, _)
       refine side (by first | exact enc_same (by assumption) (by assumption) _ | exact take_s1 (by assumption) (by assumption) (by assumption) | exact take_s2 (by assumption) (by assumption) (by assumption) (by assumption) (by assumption) | exact take_s3 (by assumption) (by assumption) (by assumption) | exact take_s4 (by assumption) (by assumption) (by assumption) | (intro k hk; subst_vars; first | eq_refl | exact enc_drop | exact enc_take hk | exact absurd hk (Nat.not_lt_zero k)) | (subst_vars; first | eq_refl | (simp; done) | (simp; omega)) | (have h1 : Int.toNat 1 = 1 := rfl; have h2 := one_le (by assumption) (by assumption); simp only [List.length_append, List.length_nil, List.length_drop, h1] at *; omega) | (simp only [Nat.cast] at *; omega)) ?_; (try cbv)))

def spec_NeededParts.f (k : Nat) (a0_0 : Int) (a0_1 : Int) (l0_2 : List (S116)) : Option (List Int × Bool) := (spec_boGood.f k a0_0 a0_1 l0_2).bind fun t1440 => (if t1440 = true then ((spec_kiOf.f k a0_0 a0_1 l0_2).bind fun t1441 => (some (t1441, true))) else (some (([] : List Int), false)))

theorem spec_NeededParts_ok (k : Nat) (a0_0 : Int) (a0_1 : Int) (l0_2 : List (S116)) (r0 : List Int) (r1 : Bool) (h : spec_NeededParts.f k a0_0 a0_1 l0_2 = some (r0, r1)) (n_l0_2 : Nat) (hn_l0_2 : l0_2.length = n_l0_2) (g_l0_2 : Nat → List V) (hg_l0_2 : encL e116 l0_2 = g_l0_2) (n_r0 : Nat) (hn_r0 : r0.length = n_r0) (g_r0 : Nat → List V) (hg_r0 : encL eI r0 = g_r0) : CallOK Try.prog 69 [.agg [.val (.int .i64 a0_0), .val (.int .i64 a0_1), .fz 2 n_l0_2 g_l0_2]] [] (.tup [.row 0 0 n_r0, .val (.bool r1)]) [.row 3 1 n_r0 g_r0] := by
  refine CallOK.of_code tabOK Try.func69 rfl rfl ⟨[], []⟩ ?_
  unfold spec_NeededParts.f at h
  obtain ⟨P, hP⟩ : ∃ P, Try.prog = P := ⟨_, rfl⟩
  rw [hP]
  (try rw [hn_l0_2] at h); skip
  cbv
  repeat' (first
    | ((with_reducible show ∃ _, _)
       first
        | (refine ⟨trivial, ?_⟩; cbv)
        | (refine side (by first | with_reducible eq_refl | assumption | (intro _ _; with_reducible eq_refl) | exact lt_ix (by assumption) (by assumption) (by assumption) | exact lt_ix2 (by assumption) (by assumption) (by assumption) (by assumption) | exact lt_y (by assumption) (by assumption) | exact le_y (by assumption) | exact ge_y (by assumption) | exact cut_le (by assumption) (by assumption) | omega) ?_; (try cbv))
        | (refine bind_side (Eq.refl _) ?_; (try cbv))
        | (refine ⟨.kept, side (Eq.refl _) (side (by first | trivial | exact ⟨clean_enc (by assumption) (by assumption) (fun _ => rfl), trivial⟩) ?_)⟩; cbv)
        | (refine ⟨Frz.own, ?_⟩; cbv)
        | (refine ⟨.row, ?_⟩; cbv))
    | ((with_reducible show ∃ _ : List Nat, _)
       first
        | ((with_reducible (have h0 : Option.bind (spec_boGood.f _ _ _ _) _ = some _ := h; clear h0))
           refine ⟨[], ?_⟩; cbv
           repeat (first | (refine all_show (by first | omega | decide) ?_; cbv) | (refine all_showT (by assumption) (by assumption) (by assumption) (by first | assumption | exact lt_ix (by assumption) (by assumption) (by assumption) | exact lt_ix2 (by assumption) (by assumption) (by assumption) (by assumption) | exact lt_y (by assumption) (by assumption) | exact le_y (by assumption) | exact ge_y (by assumption) | exact cut_le (by assumption) (by assumption) | omega) (by first | assumption | exact cut_hi (by assumption) | exact cut_hi2 (by assumption) (by assumption) | omega) ?_; intro D hD hnD g hgD; (try rw [hD] at h); cbv))
           obtain ⟨t, ht, h'⟩ := bind_some h
           clear h; have h := h'; clear h'; (try dsimp only at h)
           refine ⟨_, _, (hP ▸ spec_boGood_ok _ _ _ _ _ ht _ (by first | assumption | rfl) _ (by assumption)  : CallOK P 171 _ _ _ _), ?_⟩
           rcases t with _ | _ <;> (try simp only [bs, eq_self, if_true, if_false, reduceIte] at h) <;> (try (cases h; done)) <;> cbv)
        | ((with_reducible (have h0 : Option.bind (spec_kiOf.f _ _ _ _) _ = some _ := h; clear h0))
           refine ⟨[], ?_⟩; cbv
           repeat (first | (refine all_show (by first | omega | decide) ?_; cbv) | (refine all_showT (by assumption) (by assumption) (by assumption) (by first | assumption | exact lt_ix (by assumption) (by assumption) (by assumption) | exact lt_ix2 (by assumption) (by assumption) (by assumption) (by assumption) | exact lt_y (by assumption) (by assumption) | exact le_y (by assumption) | exact ge_y (by assumption) | exact cut_le (by assumption) (by assumption) | omega) (by first | assumption | exact cut_hi (by assumption) | exact cut_hi2 (by assumption) (by assumption) | omega) ?_; intro D hD hnD g hgD; (try rw [hD] at h); cbv))
           obtain ⟨t, ht, h'⟩ := bind_some h
           clear h; have h := h'; clear h'; (try dsimp only at h)
           obtain ⟨n_c173_0, hn_c173_0⟩ : ∃ n, t.length = n := ⟨_, rfl⟩; obtain ⟨g_t, hg_c173_0⟩ : ∃ g, encL eI t = g := ⟨_, rfl⟩; (try rw [hn_c173_0] at h)
           refine ⟨_, _, (hP ▸ spec_kiOf_ok _ _ _ _ _ ht _ (by first | assumption | rfl) _ (by assumption) _ hn_c173_0 _ hg_c173_0 : CallOK P 173 _ _ _ _), ?_⟩; cbv))
    | (simp only [Option.some.injEq, Prod.mk.injEq] at h; obtain ⟨rfl, rfl⟩ := h)
    | ((with_reducible show ∃ _, _)
       refine side (by first | exact enc_same (by assumption) (by assumption) _ | exact take_s1 (by assumption) (by assumption) (by assumption) | exact take_s2 (by assumption) (by assumption) (by assumption) (by assumption) (by assumption) | exact take_s3 (by assumption) (by assumption) (by assumption) | exact take_s4 (by assumption) (by assumption) (by assumption) | (intro k hk; subst_vars; first | eq_refl | exact enc_drop | exact enc_take hk | exact absurd hk (Nat.not_lt_zero k)) | (subst_vars; first | eq_refl | (simp; done) | (simp; omega)) | (have h1 : Int.toNat 1 = 1 := rfl; have h2 := one_le (by assumption) (by assumption); simp only [List.length_append, List.length_nil, List.length_drop, h1] at *; omega) | (simp only [Nat.cast] at *; omega)) ?_; (try cbv)))

def laws_pSum.l0 : Nat → Int → List Int → Int → Int → Option (Int)
  | 0, _, _, _, _ => none
  | k + 1, x3, x6, x7, x8 => if x8 < x7 then (if 0 ≤ x8 then (if x8 < (x6.length : Int) then (laws_pSum.l0 k (wrap64 (x3 + (rd x6 x8))) x6 x7 (wrap64 (x8 + 1))) else (none)) else (none)) else (some x3)
def laws_pSum.f (k : Nat) (l0 : List Int) : Option (Int) := laws_pSum.l0 k 0 l0 (l0.length : Int) 0

theorem laws_pSum_ok (k : Nat) (l0 : List Int) (r0 : Int) (h : laws_pSum.f k l0 = some r0) (n_l0 : Nat) (hn_l0 : l0.length = n_l0) (g_l0 : Nat → List V) (hg_l0 : encL eI l0 = g_l0)  : CallOK Try.prog 70 [.fz 1 n_l0 g_l0] [] (.val (.int .i64 r0)) [] := by
  refine CallOK.of_code tabOK Try.func70 rfl rfl ⟨[(6, [3, 6, 7, 8]), (7, [3])], []⟩ ?_
  unfold laws_pSum.f at h
  obtain ⟨P, hP⟩ : ∃ P, Try.prog = P := ⟨_, rfl⟩
  rw [hP]
  (try rw [hn_l0] at h); skip
  cbv
  repeat' (first
    | ((with_reducible show ∃ _, _)
       first
        | (refine ⟨trivial, ?_⟩; cbv)
        | (refine side (by first | with_reducible eq_refl | assumption | (intro _ _; with_reducible eq_refl) | exact lt_ix (by assumption) (by assumption) (by assumption) | exact lt_ix2 (by assumption) (by assumption) (by assumption) (by assumption) | exact lt_y (by assumption) (by assumption) | exact le_y (by assumption) | exact ge_y (by assumption) | exact cut_le (by assumption) (by assumption) | omega) ?_; (try cbv)))
    | ((with_reducible show ∃ _ : Nat, _)
       first
        | (refine ⟨_, [3, 6, 7, 8], Nat.lt_succ_self _, ?_⟩; cbv; exact ⟨_, _, _, _, _, _, h, by first | assumption | rfl, by first | assumption | rfl, rfl⟩))
    | ((with_reducible show ∃ _ : Nat → St → Prop, _)
       first
        | (refine ⟨fun k1 s => ∃ x3 x6 x7 x8 n_x6 g_x6, laws_pSum.l0 k1 x3 x6 x7 x8 = some r0 ∧ x6.length = n_x6 ∧ encL eI x6 = g_x6 ∧ s = ⟨⟨17, (upd 17 (upd 17 (upd 17 (upd 17 noT 8 (.val (.int .i64 x8))) 7 (.val (.int .i64 x7))) 6 (.fz 1 n_x6 g_x6)) 3 (.val (.int .i64 x3)))⟩, []⟩, ?_, [], ?_⟩
           rotate_left
           · cbv; exact ⟨_, [3, 6, 7, 8], by cbv; exact ⟨_, _, _, _, _, _, h, by first | assumption | rfl, by first | assumption | rfl, rfl⟩⟩
           clear h
           rintro (_ | k1) s1 ⟨x3, x6, x7, x8, n_x6, g_x6, h, hn_x6, hg_x6, rfl⟩
           · cases h
           unfold laws_pSum.l0 at h
           (try rw [hn_x6] at h); skip
           cbv))
    | ((with_reducible show ∀ _ : Bool, _)
       first
        | (refine all_lt ?_ ?_ <;> (intro hd; first | exact absurd rfl hd | ((first | rw [if_pos hd] at h | rw [if_neg hd] at h | rw [if_pos (by omega)] at h | rw [if_neg (by omega)] at h | skip); (first | (rw [decide_eq_true hd] at h; (try simp only [bs, eq_self, if_true, if_false, reduceIte] at h)) | (rw [decide_eq_false hd] at h; (try simp only [bs, eq_self, if_true, if_false, reduceIte] at h)) | skip); cbv))))
    | ((with_reducible show ∀ _ : Int, _)
       first
        | (refine all_wrap ?_; intro y hy; (try rw [hy] at h); cbv)
        | (refine all_len ?_; intro y hy; (try replace hy : ((_ : Nat) : Int) = y := hy); (try rw [hy] at h); (try rw [show (NatCast.natCast _ : Int) = _ from hy] at h); cbv))
    | ((with_reducible show ∀ _ : List V, _)
       first
        | (refine @all_rd _ _ eI rd ?_ ?_ ?_ _ _ _ (fun _ _ => rfl) ?_ ?_ ?_ ?_ ?_ ?_
           rotate_left 3
           assumption
           assumption
           (first | rfl | assumption)
           (first | assumption | exact lt_ix (by assumption) (by assumption) (by assumption) | exact lt_ix2 (by assumption) (by assumption) (by assumption) (by assumption) | exact lt_y (by assumption) (by assumption) | exact le_y (by assumption) | exact ge_y (by assumption) | exact cut_le (by assumption) (by assumption) | omega)
           (first | assumption | exact lt_ix (by assumption) (by assumption) (by assumption) | exact lt_ix2 (by assumption) (by assumption) (by assumption) (by assumption) | exact lt_y (by assumption) (by assumption) | exact le_y (by assumption) | exact ge_y (by assumption) | exact cut_le (by assumption) (by assumption) | omega)
           intro z hz
           (try rw [hz] at h); cbv))
    | (obtain ⟨hc, h'⟩ := if_none h; clear h; have h := h'; clear h')
    | (simp only [Option.some.injEq, Prod.mk.injEq] at h; subst h)
    | trivial)

def spec_l1Cur_boards.l0 : Nat → List S81 → Int → List Int → Int → Int → Option (List S81 × Int × Int)
  | 0, _, _, _, _, _ => none
  | k + 1, x3, x4, x1000, x1001, x1002 => if (x3.length : Int) < x4 then ((spec_l1Cur_board.f k x1000 x1001 x1002).bind fun bt1 => (if x3.length < 1000000000 then (spec_l1Cur_boards.l0 k (x3 ++ [(⟨bt1.1, bt1.2.1, bt1.2.2.1⟩ : S81)]) x4 x1000 bt1.2.2.2.1 bt1.2.2.2.2) else (none))) else (if 0 < x4 then ((spec_l1Cur_one.f x1000 x1001 x1002 24).bind fun bt2 => (if bt2.1 = true then ((spec_l1Cur_pick.f x1000 bt2.2.1 bt2.2.2 x4).bind fun bt3 => ((spec_l1Cur_anyBoard.f k x1000 bt3.2.1 bt3.2.2).bind fun bt4 => (if 0 ≤ bt3.1 then (if bt3.1 < (x3.length : Int) then (some ((x3.set (bt3.1 : Int).toNat (⟨bt4.1, bt4.2.1, bt4.2.2.1⟩ : S81)), bt4.2.2.2.1, bt4.2.2.2.2)) else (none)) else (none)))) else (some (x3, bt2.2.1, bt2.2.2)))) else (some (x3, x1001, x1002)))
def spec_l1Cur_boards.f (k : Nat) (s0_0 : List Int) (s0_1 : Int) (s0_2 : Int) : Option (List S81 × Int × Int) := (spec_l1Cur_pick.f s0_0 s0_1 s0_2 4).bind fun bt1 => ((spec_l1Cur_one.f s0_0 bt1.2.1 bt1.2.2 16).bind fun bt2 => (if bt2.1 = true then ((spec_l1Cur_among.f s0_0 bt2.2.1 bt2.2.2 (([0, 6, 7] : List Int))).bind fun bt3 => (spec_l1Cur_boards.l0 k ([] : List S81) bt3.1 s0_0 bt3.2.1 bt3.2.2)) else (spec_l1Cur_boards.l0 k ([] : List S81) (wrap64 (1 + bt1.1)) s0_0 bt2.2.1 bt2.2.2)))

theorem spec_l1Cur_boards_ok (k : Nat) (s0_0 : List Int) (s0_1 : Int) (s0_2 : Int) (r0 : List S81) (r1 : Int) (r2 : Int) (h : spec_l1Cur_boards.f k s0_0 s0_1 s0_2 = some (r0, r1, r2)) (n_s0_0 : Nat) (hn_s0_0 : s0_0.length = n_s0_0) (g_s0_0 : Nat → List V) (hg_s0_0 : encL eU s0_0 = g_s0_0) (n_r0 : Nat) (hn_r0 : r0.length = n_r0) (g_r0 : Nat → List V) (hg_r0 : encL e81 r0 = g_r0) : CallOK Try.prog 175 [.ptr 0 0] [.box 139 [.fz 1 n_s0_0 g_s0_0, .val (.int .i64 s0_1), .val (.int .u64 s0_2)]] (.row 1 0 n_r0) [.box 139 [.fz 1 n_s0_0 g_s0_0, .val (.int .i64 r1), .val (.int .u64 r2)], .row 81 3 n_r0 g_r0] := by
  refine CallOK.of_code tabOK Try.func175 rfl rfl ⟨[(7, [0, 3, 4]), (9, [3])], []⟩ ?_
  unfold spec_l1Cur_boards.f at h
  obtain ⟨P, hP⟩ : ∃ P, Try.prog = P := ⟨_, rfl⟩
  rw [hP]
  (try rw [hn_s0_0] at h); skip
  cbv
  repeat' (first
    | ((with_reducible show ∃ _, _)
       first
        | (refine ⟨trivial, ?_⟩; cbv)
        | (refine all_show (by first | omega | decide) ?_; cbv)
        | (refine side (by first | with_reducible eq_refl | assumption | (intro _ _; with_reducible eq_refl) | exact lt_ix (by assumption) (by assumption) (by assumption) | exact lt_ix2 (by assumption) (by assumption) (by assumption) (by assumption) | exact lt_y (by assumption) (by assumption) | exact le_y (by assumption) | exact ge_y (by assumption) | exact cut_le (by assumption) (by assumption) | omega) ?_; (try cbv))
        | (refine bind_side (Eq.refl _) ?_; (try cbv))
        | (refine ⟨.dead, ?_⟩; cbv)
        | (refine ⟨Frz.own, ?_⟩; cbv)
        | (refine ⟨.row, ?_⟩; cbv))
    | ((with_reducible show ∃ _ : Nat, _)
       first
        | (refine ⟨_, [0, 3, 4], Nat.lt_succ_self _, ?_⟩; cbv; exact ⟨_, _, _, _, _, _, h, by first | assumption | rfl, by first | assumption | rfl, rfl⟩))
    | ((with_reducible show ∃ _ : List Nat, _)
       first
        | ((with_reducible (have h0 : Option.bind (spec_l1Cur_one.f _ _ _ _) _ = some _ := h; clear h0))
           refine ⟨[0], ?_⟩; cbv
           repeat (first | (refine all_show (by first | omega | decide) ?_; cbv) | (refine all_showT (by assumption) (by assumption) (by assumption) (by first | assumption | exact lt_ix (by assumption) (by assumption) (by assumption) | exact lt_ix2 (by assumption) (by assumption) (by assumption) (by assumption) | exact lt_y (by assumption) (by assumption) | exact le_y (by assumption) | exact ge_y (by assumption) | exact cut_le (by assumption) (by assumption) | omega) (by first | assumption | exact cut_hi (by assumption) | exact cut_hi2 (by assumption) (by assumption) | omega) ?_; intro D hD hnD g hgD; (try rw [hD] at h); cbv))
           obtain ⟨⟨t0, t1, t2⟩, ht, h'⟩ := bind_some h
           clear h; have h := h'; clear h'; (try dsimp only at h)
           refine ⟨_, _, (hP ▸ spec_l1Cur_one_ok _ _ _ _ _ _ _ ht _ (by first | assumption | rfl) _ (by assumption)  : CallOK P 121 _ _ _ _), ?_⟩
           rcases t0 with _ | _ <;> (try simp only [bs, eq_self, if_true, if_false, reduceIte] at h) <;> (try (cases h; done)) <;> cbv)
        | ((with_reducible (have h0 : Option.bind (spec_l1Cur_pick.f _ _ _ _) _ = some _ := h; clear h0))
           refine ⟨[0], ?_⟩; cbv
           repeat (first | (refine all_show (by first | omega | decide) ?_; cbv) | (refine all_showT (by assumption) (by assumption) (by assumption) (by first | assumption | exact lt_ix (by assumption) (by assumption) (by assumption) | exact lt_ix2 (by assumption) (by assumption) (by assumption) (by assumption) | exact lt_y (by assumption) (by assumption) | exact le_y (by assumption) | exact ge_y (by assumption) | exact cut_le (by assumption) (by assumption) | omega) (by first | assumption | exact cut_hi (by assumption) | exact cut_hi2 (by assumption) (by assumption) | omega) ?_; intro D hD hnD g hgD; (try rw [hD] at h); cbv))
           obtain ⟨⟨t0, t1, t2⟩, ht, h'⟩ := bind_some h
           clear h; have h := h'; clear h'; (try dsimp only at h)
           refine ⟨_, _, (hP ▸ spec_l1Cur_pick_ok _ _ _ _ _ _ _ ht _ (by first | assumption | rfl) _ (by assumption)  : CallOK P 122 _ _ _ _), ?_⟩; cbv)
        | ((with_reducible (have h0 : Option.bind (spec_l1Cur_among.f _ _ _ _) _ = some _ := h; clear h0))
           refine ⟨[0], ?_⟩; cbv
           repeat (first | (refine all_show (by first | omega | decide) ?_; cbv) | (refine all_showT (by assumption) (by assumption) (by assumption) (by first | assumption | exact lt_ix (by assumption) (by assumption) (by assumption) | exact lt_ix2 (by assumption) (by assumption) (by assumption) (by assumption) | exact lt_y (by assumption) (by assumption) | exact le_y (by assumption) | exact ge_y (by assumption) | exact cut_le (by assumption) (by assumption) | omega) (by first | assumption | exact cut_hi (by assumption) | exact cut_hi2 (by assumption) (by assumption) | omega) ?_; intro D hD hnD g hgD; (try rw [hD] at h); cbv))
           obtain ⟨⟨t0, t1, t2⟩, ht, h'⟩ := bind_some h
           clear h; have h := h'; clear h'; (try dsimp only at h)
           refine ⟨_, _, (hP ▸ spec_l1Cur_among_ok _ _ _ _ _ _ _ ht _ (by first | assumption | rfl) _ (by assumption) _ (by first | assumption | rfl) _ (by assumption)  : CallOK P 136 _ _ _ _), ?_⟩; cbv)
        | ((with_reducible (have h0 : Option.bind (spec_l1Cur_anyBoard.f _ _ _ _) _ = some _ := h; clear h0))
           refine ⟨[0], ?_⟩; cbv
           repeat (first | (refine all_show (by first | omega | decide) ?_; cbv) | (refine all_showT (by assumption) (by assumption) (by assumption) (by first | assumption | exact lt_ix (by assumption) (by assumption) (by assumption) | exact lt_ix2 (by assumption) (by assumption) (by assumption) (by assumption) | exact lt_y (by assumption) (by assumption) | exact le_y (by assumption) | exact ge_y (by assumption) | exact cut_le (by assumption) (by assumption) | omega) (by first | assumption | exact cut_hi (by assumption) | exact cut_hi2 (by assumption) (by assumption) | omega) ?_; intro D hD hnD g hgD; (try rw [hD] at h); cbv))
           obtain ⟨⟨t0, t1, t2, t3, t4⟩, ht, h'⟩ := bind_some h
           clear h; have h := h'; clear h'; (try dsimp only at h)
           obtain ⟨n_c167_2, hn_c167_2⟩ : ∃ n, t2.length = n := ⟨_, rfl⟩; obtain ⟨g_t, hg_c167_2⟩ : ∃ g, encL e116 t2 = g := ⟨_, rfl⟩; (try rw [hn_c167_2] at h)
           refine ⟨_, _, (hP ▸ spec_l1Cur_anyBoard_ok _ _ _ _ _ _ _ _ _ ht _ (by first | assumption | rfl) _ (by assumption) _ hn_c167_2 _ hg_c167_2 : CallOK P 167 _ _ _ _), ?_⟩; cbv)
        | ((with_reducible (have h0 : Option.bind (spec_l1Cur_board.f _ _ _ _) _ = some _ := h; clear h0))
           refine ⟨[0], ?_⟩; cbv
           repeat (first | (refine all_show (by first | omega | decide) ?_; cbv) | (refine all_showT (by assumption) (by assumption) (by assumption) (by first | assumption | exact lt_ix (by assumption) (by assumption) (by assumption) | exact lt_ix2 (by assumption) (by assumption) (by assumption) (by assumption) | exact lt_y (by assumption) (by assumption) | exact le_y (by assumption) | exact ge_y (by assumption) | exact cut_le (by assumption) (by assumption) | omega) (by first | assumption | exact cut_hi (by assumption) | exact cut_hi2 (by assumption) (by assumption) | omega) ?_; intro D hD hnD g hgD; (try rw [hD] at h); cbv))
           obtain ⟨⟨t0, t1, t2, t3, t4⟩, ht, h'⟩ := bind_some h
           clear h; have h := h'; clear h'; (try dsimp only at h)
           obtain ⟨n_c204_2, hn_c204_2⟩ : ∃ n, t2.length = n := ⟨_, rfl⟩; obtain ⟨g_t, hg_c204_2⟩ : ∃ g, encL e116 t2 = g := ⟨_, rfl⟩; (try rw [hn_c204_2] at h)
           refine ⟨_, _, (hP ▸ spec_l1Cur_board_ok _ _ _ _ _ _ _ _ _ ht _ (by first | assumption | rfl) _ (by assumption) _ hn_c204_2 _ hg_c204_2 : CallOK P 204 _ _ _ _), ?_⟩; cbv))
    | ((with_reducible show ∃ _ : Nat → List V, _)
       first
        | (refine all_buildI3 ?_; intro g_b hg_b; cbv)
        | (refine all_putS e81 (x := ⟨_, _, _⟩) (by assumption) (by assumption) (by (first | assumption | exact lt_ix (by assumption) (by assumption) (by assumption) | exact lt_ix2 (by assumption) (by assumption) (by assumption) (by assumption) | exact lt_y (by assumption) (by assumption) | exact le_y (by assumption) | exact ge_y (by assumption) | exact cut_le (by assumption) (by assumption) | omega)) (mk81 (by assumption) (by assumption)) (fun _ => rfl) ?_; intro L hL hnL g hgL; (try rw [hL] at h); (try rw [Option.bind_some] at h); (try rw [hnL] at h); cbv)
        | (refine all_build1 e81 (x := ⟨_, _, _⟩) (mk81 (by assumption) (by assumption)) ?_; intro g_b hg_b; cbv))
    | ((with_reducible show ∃ _ : Nat → St → Prop, _)
       first
        | (refine ⟨fun k1 s => ∃ x3 x4 x1001 x1002 n_x3 g_x3, spec_l1Cur_boards.l0 k1 x3 x4 s0_0 x1001 x1002 = some (r0, r1, r2) ∧ x3.length = n_x3 ∧ encL e81 x3 = g_x3 ∧ s = ⟨⟨36, (upd 36 (upd 36 (upd 36 noT 4 (.val (.int .i64 x4))) 3 (.row 1 0 n_x3)) 0 (.ptr 0 0))⟩, [.box 139 [.fz 1 n_s0_0 g_s0_0, .val (.int .i64 x1001), .val (.int .u64 x1002)], .row 81 3 n_x3 g_x3]⟩, ?_, [], ?_⟩
           rotate_left
           · cbv; exact ⟨_, [0, 3, 4], by cbv; exact ⟨_, _, _, _, _, _, h, by first | assumption | rfl, by first | assumption | rfl, rfl⟩⟩
           clear h
           rintro (_ | k1) s1 ⟨x3, x4, x1001, x1002, n_x3, g_x3, h, hn_x3, hg_x3, rfl⟩
           · cases h
           unfold spec_l1Cur_boards.l0 at h
           (try rw [hn_x3] at h); skip
           cbv))
    | ((with_reducible show ∀ _ : Bool, _)
       first
        | (refine all_lt ?_ ?_ <;> (intro hd; first | exact absurd rfl hd | ((first | rw [if_pos hd] at h | rw [if_neg hd] at h | rw [if_pos (by omega)] at h | rw [if_neg (by omega)] at h | skip); (first | (rw [decide_eq_true hd] at h; (try simp only [bs, eq_self, if_true, if_false, reduceIte] at h)) | (rw [decide_eq_false hd] at h; (try simp only [bs, eq_self, if_true, if_false, reduceIte] at h)) | skip); cbv))))
    | ((with_reducible show ∀ _ : Int, _)
       first
        | (refine all_wrap ?_; intro y hy; (try rw [hy] at h); cbv)
        | (refine all_len ?_; intro y hy; (try replace hy : ((_ : Nat) : Int) = y := hy); (try rw [hy] at h); (try rw [show (NatCast.natCast _ : Int) = _ from hy] at h); cbv))
    | ((with_reducible show ∀ _ : Nat, _)
       first
        | (refine all_ix0 ?_; intro q hq; (try rw [hq] at h); cbv)
        | (refine all_app (by first | assumption | exact (rfl : encL _ ([] : List _) = _)) (by first | assumption | rfl) (by assumption) (by first | assumption | rfl) ?_; intro L hL n_L hnL g hgL; (try rw [hL] at h); (try rw [Option.bind_some] at h); (try rw [hnL] at h); cbv))
    | (obtain ⟨hc, h'⟩ := if_none h; clear h; have h := h'; clear h')
    | (simp only [Option.some.injEq, Prod.mk.injEq] at h; obtain ⟨rfl, rfl, rfl⟩ := h)
    | ((with_reducible show ∃ _, _)
       refine side (by first | exact enc_same (by assumption) (by assumption) _ | exact take_s1 (by assumption) (by assumption) (by assumption) | exact take_s2 (by assumption) (by assumption) (by assumption) (by assumption) (by assumption) | exact take_s3 (by assumption) (by assumption) (by assumption) | exact take_s4 (by assumption) (by assumption) (by assumption) | (intro k hk; subst_vars; first | eq_refl | exact enc_drop | exact enc_take hk | exact absurd hk (Nat.not_lt_zero k)) | (subst_vars; first | eq_refl | (simp; done) | (simp; omega)) | (have h1 : Int.toNat 1 = 1 := rfl; have h2 := one_le (by assumption) (by assumption); simp only [List.length_append, List.length_nil, List.length_drop, h1] at *; omega) | (simp only [Nat.cast] at *; omega)) ?_; (try cbv)))

def spec_DrawSharedKit.f (k : Nat) (l0 : List Int) : Option (List S81) := (spec_l1Cur_boards.f k l0 0 0).bind fun bt1 => (some bt1.1)

theorem spec_DrawSharedKit_ok (k : Nat) (l0 : List Int) (r0 : List S81) (h : spec_DrawSharedKit.f k l0 = some r0) (n_l0 : Nat) (hn_l0 : l0.length = n_l0) (g_l0 : Nat → List V) (hg_l0 : encL eU l0 = g_l0) (n_r0 : Nat) (hn_r0 : r0.length = n_r0) (g_r0 : Nat → List V) (hg_r0 : encL e81 r0 = g_r0) : CallOK Try.prog 71 [.fz 1 n_l0 g_l0] [] (.fz 3 n_r0 g_r0) [] := by
  refine CallOK.of_code tabOK Try.func71 rfl rfl ⟨[], []⟩ ?_
  unfold spec_DrawSharedKit.f at h
  obtain ⟨P, hP⟩ : ∃ P, Try.prog = P := ⟨_, rfl⟩
  rw [hP]
  (try rw [hn_l0] at h); skip
  cbv
  repeat' (first
    | ((with_reducible show ∃ _, _)
       first
        | (refine ⟨trivial, ?_⟩; cbv)
        | (refine all_show (by first | omega | decide) ?_; cbv)
        | (refine side (by first | with_reducible eq_refl | assumption | (intro _ _; with_reducible eq_refl) | exact lt_ix (by assumption) (by assumption) (by assumption) | exact lt_ix2 (by assumption) (by assumption) (by assumption) (by assumption) | exact lt_y (by assumption) (by assumption) | exact le_y (by assumption) | exact ge_y (by assumption) | exact cut_le (by assumption) (by assumption) | omega) ?_; (try cbv))
        | (refine ⟨Frz.frozen, ?_⟩; cbv)
        | (refine ⟨.row, ?_⟩; cbv))
    | ((with_reducible show ∃ _ : List Nat, _)
       first
        | ((with_reducible (have h0 : Option.bind (spec_l1Cur_boards.f _ _ _ _) _ = some _ := h; clear h0))
           refine ⟨[1], ?_⟩; cbv
           repeat (first | (refine all_show (by first | omega | decide) ?_; cbv) | (refine all_showT (by assumption) (by assumption) (by assumption) (by first | assumption | exact lt_ix (by assumption) (by assumption) (by assumption) | exact lt_ix2 (by assumption) (by assumption) (by assumption) (by assumption) | exact lt_y (by assumption) (by assumption) | exact le_y (by assumption) | exact ge_y (by assumption) | exact cut_le (by assumption) (by assumption) | omega) (by first | assumption | exact cut_hi (by assumption) | exact cut_hi2 (by assumption) (by assumption) | omega) ?_; intro D hD hnD g hgD; (try rw [hD] at h); cbv))
           obtain ⟨⟨t0, t1, t2⟩, ht, h'⟩ := bind_some h
           clear h; have h := h'; clear h'; (try dsimp only at h)
           obtain ⟨n_c175_0, hn_c175_0⟩ : ∃ n, t0.length = n := ⟨_, rfl⟩; obtain ⟨g_t, hg_c175_0⟩ : ∃ g, encL e81 t0 = g := ⟨_, rfl⟩; (try rw [hn_c175_0] at h)
           refine ⟨_, _, (hP ▸ spec_l1Cur_boards_ok _ _ _ _ _ _ _ ht _ (by first | assumption | rfl) _ (by assumption) _ hn_c175_0 _ hg_c175_0 : CallOK P 175 _ _ _ _), ?_⟩; cbv))
    | (simp only [Option.some.injEq, Prod.mk.injEq] at h; subst h)
    | ((with_reducible show ∃ _, _)
       refine side (by first | exact enc_same (by assumption) (by assumption) _ | exact take_s1 (by assumption) (by assumption) (by assumption) | exact take_s2 (by assumption) (by assumption) (by assumption) (by assumption) (by assumption) | exact take_s3 (by assumption) (by assumption) (by assumption) | exact take_s4 (by assumption) (by assumption) (by assumption) | (intro k hk; subst_vars; first | eq_refl | exact enc_drop | exact enc_take hk | exact absurd hk (Nat.not_lt_zero k)) | (subst_vars; first | eq_refl | (simp; done) | (simp; omega)) | (have h1 : Int.toNat 1 = 1 := rfl; have h2 := one_le (by assumption) (by assumption); simp only [List.length_append, List.length_nil, List.length_drop, h1] at *; omega) | (simp only [Nat.cast] at *; omega)) ?_; (try cbv))
    | trivial)

def impl_areBoards.l0 : Nat → List (S81) → Int → Int → Option (Bool)
  | 0, _, _, _ => none
  | k + 1, x13, x14, x15 => if x15 < x14 then (if 0 ≤ x15 then (if x15 < (x13.length : Int) then ((impl_IsBoard.f k ((rd_T81 x13 x15).f0) ((rd_T81 x13 x15).f1) ((rd_T81 x13 x15).f2)).bind fun t1484 => (if t1484 = true then (impl_areBoards.l0 k x13 x14 (wrap64 (x15 + 1))) else (some false))) else (none)) else (none)) else (some true)
def impl_areBoards.j0 : Nat → List (S81) → Bool → Option (Bool)
  | 0, _, _ => none
  | k + 1, x0, x12 => if x12 = true then (some false) else (impl_areBoards.l0 k x0 (x0.length : Int) 0)
def impl_areBoards.f (k : Nat) (l0 : List (S81)) : Option (Bool) := if (l0.length : Int) < 1 then (impl_areBoards.j0 k l0 true) else (impl_areBoards.j0 k l0 (decide ((l0.length : Int) > 6)))

theorem impl_areBoards_ok (k : Nat) (l0 : List (S81)) (r0 : Bool) (h : impl_areBoards.f k l0 = some r0) (n_l0 : Nat) (hn_l0 : l0.length = n_l0) (g_l0 : Nat → List V) (hg_l0 : encL e81 l0 = g_l0)  : CallOK Try.prog 176 [.fz 3 n_l0 g_l0] [] (.val (.bool r0)) [] := by
  refine CallOK.of_code tabOK Try.func176 rfl rfl ⟨[(9, [])], []⟩ ?_
  unfold impl_areBoards.f at h
  obtain ⟨P, hP⟩ : ∃ P, Try.prog = P := ⟨_, rfl⟩
  rw [hP]
  (try rw [hn_l0] at h); skip
  cbv
  repeat' (first
    | ((with_reducible show ∃ _, _)
       first
        | (refine ⟨trivial, ?_⟩; cbv)
        | (refine side (by first | with_reducible eq_refl | assumption | (intro _ _; with_reducible eq_refl) | exact lt_ix (by assumption) (by assumption) (by assumption) | exact lt_ix2 (by assumption) (by assumption) (by assumption) (by assumption) | exact lt_y (by assumption) (by assumption) | exact le_y (by assumption) | exact ge_y (by assumption) | exact cut_le (by assumption) (by assumption) | omega) ?_; (try cbv))
        | (refine ⟨Frz.own, ?_⟩; cbv))
    | ((with_reducible show ∃ _ : Nat, _)
       first
        | (refine ⟨_, [13, 14, 15], Nat.lt_succ_self _, ?_⟩; cbv; exact ⟨_, _, _, _, _, h, by first | assumption | rfl, by first | assumption | rfl, rfl⟩))
    | ((with_reducible show ∃ _ : List Nat, _)
       first
        | ((with_reducible (have h0 : Option.bind (impl_IsBoard.f _ _ _ _) _ = some _ := h; clear h0))
           refine ⟨[], ?_⟩; cbv
           repeat (first | (refine all_show (by first | omega | decide) ?_; cbv) | (refine all_showT (by assumption) (by assumption) (by assumption) (by first | assumption | exact lt_ix (by assumption) (by assumption) (by assumption) | exact lt_ix2 (by assumption) (by assumption) (by assumption) (by assumption) | exact lt_y (by assumption) (by assumption) | exact le_y (by assumption) | exact ge_y (by assumption) | exact cut_le (by assumption) (by assumption) | omega) (by first | assumption | exact cut_hi (by assumption) | exact cut_hi2 (by assumption) (by assumption) | omega) ?_; intro D hD hnD g hgD; (try rw [hD] at h); cbv))
           obtain ⟨t, ht, h'⟩ := bind_some h
           clear h; have h := h'; clear h'; (try dsimp only at h)
           refine ⟨_, _, (hP ▸ impl_IsBoard_ok _ _ _ _ _ ht _ (by first | assumption | rfl) _ (by assumption)  : CallOK P 169 _ _ _ _), ?_⟩
           rcases t with _ | _ <;> (try simp only [bs, eq_self, if_true, if_false, reduceIte] at h) <;> (try (cases h; done)) <;> cbv))
    | ((with_reducible show ∃ _ : Nat → St → Prop, _)
       first
        | (refine ⟨fun k1 s => ∃ x13 x14 x15 n_x13 g_x13, impl_areBoards.l0 k1 x13 x14 x15 = some r0 ∧ x13.length = n_x13 ∧ encL e81 x13 = g_x13 ∧ s = ⟨⟨23, (upd 23 (upd 23 (upd 23 noT 15 (.val (.int .i64 x15))) 14 (.val (.int .i64 x14))) 13 (.fz 3 n_x13 g_x13))⟩, []⟩, ?_, [], ?_⟩
           rotate_left
           · cbv; exact ⟨_, [13, 14, 15], by cbv; exact ⟨_, _, _, _, _, h, by first | assumption | rfl, by first | assumption | rfl, rfl⟩⟩
           clear h
           rintro (_ | k1) s1 ⟨x13, x14, x15, n_x13, g_x13, h, hn_x13, hg_x13, rfl⟩
           · cases h
           unfold impl_areBoards.l0 at h
           (try rw [hn_x13] at h); skip
           cbv))
    | ((with_reducible (have h0 : impl_areBoards.j0 _ _ _ = some _ := h; clear h0))
       first
        | (unfold impl_areBoards.j0 at h
           rcases k with _ | k
           · cases h
           (try dsimp only at h); (try simp only [bs, eq_self, if_true, if_false, reduceIte] at h); (try rw [hn_l0] at h); (try rw [show (Nat.cast n_l0 : Int) = _ from (by assumption)] at h); (try rw [show (NatCast.natCast n_l0 : Int) = _ from (by assumption)] at h); (try (simp only [Nat.cast] at h; rw [show (NatCast.natCast n_l0 : Int) = _ from (by assumption)] at h)); (try rw [hn_x13] at h); (try rw [show (Nat.cast n_x13 : Int) = _ from (by assumption)] at h); (try rw [show (NatCast.natCast n_x13 : Int) = _ from (by assumption)] at h); (try (simp only [Nat.cast] at h; rw [show (NatCast.natCast n_x13 : Int) = _ from (by assumption)] at h))))
    | ((with_reducible show ∀ _ : Bool, _)
       first
        | (refine all_lt ?_ ?_ <;> (intro hd; first | exact absurd rfl hd | ((first | rw [if_pos hd] at h | rw [if_neg hd] at h | rw [if_pos (by omega)] at h | rw [if_neg (by omega)] at h | skip); (first | (rw [decide_eq_true hd] at h; (try simp only [bs, eq_self, if_true, if_false, reduceIte] at h)) | (rw [decide_eq_false hd] at h; (try simp only [bs, eq_self, if_true, if_false, reduceIte] at h)) | skip); cbv))))
    | ((with_reducible show ∀ _ : Int, _)
       first
        | (refine all_wrap ?_; intro y hy; (try rw [hy] at h); cbv)
        | (refine all_len_old (by assumption) ?_; cbv)
        | (refine all_len ?_; intro y hy; (try replace hy : ((_ : Nat) : Int) = y := hy); (try rw [hy] at h); (try rw [show (NatCast.natCast _ : Int) = _ from hy] at h); cbv))
    | ((with_reducible show ∀ _ : List V, _)
       first
        | (refine @all_rd81 ?_ ?_ ?_ _ _ _ ?_ ?_ ?_ ?_ ?_ ?_
           rotate_left 3
           assumption
           assumption
           (first | rfl | assumption)
           (first | assumption | exact lt_ix (by assumption) (by assumption) (by assumption) | exact lt_ix2 (by assumption) (by assumption) (by assumption) (by assumption) | exact lt_y (by assumption) (by assumption) | exact le_y (by assumption) | exact ge_y (by assumption) | exact cut_le (by assumption) (by assumption) | omega)
           (first | assumption | exact lt_ix (by assumption) (by assumption) (by assumption) | exact lt_ix2 (by assumption) (by assumption) (by assumption) (by assumption) | exact lt_y (by assumption) (by assumption) | exact le_y (by assumption) | exact ge_y (by assumption) | exact cut_le (by assumption) (by assumption) | omega)
           intro z hz n_z hn_z g_z hg_z; (try rw [hz] at h); (try rw [hn_z] at h); cbv))
    | (obtain ⟨hc, h'⟩ := if_none h; clear h; have h := h'; clear h')
    | (simp only [Option.some.injEq, Prod.mk.injEq] at h; subst h)
    | trivial)

mutual
def impl_SharedKit.l0 : Nat → List Int → List (S81) → Int → Int → Option (List Int × Bool)
  | 0, _, _, _, _ => none
  | k + 1, x4, x13, x14, x15 => if x15 < x14 then (if 0 ≤ x15 then (if x15 < (x13.length : Int) then ((impl_neededParts.f k ((rd_T81 x13 x15).f0) ((rd_T81 x13 x15).f1) ((rd_T81 x13 x15).f2)).bind fun t1491 => (impl_SharedKit.l1 k x4 x13 x14 x15 t1491 (t1491.length : Int) 0)) else (none)) else (none)) else (some (x4, true))
def impl_SharedKit.l1 : Nat → List Int → List (S81) → Int → Int → List Int → Int → Int → Option (List Int × Bool)
  | 0, _, _, _, _, _, _, _ => none
  | k + 1, x4, x13, x14, x15, x20, x21, x22 => if x22 < x21 then (if 0 ≤ x22 then (if x22 < (x20.length : Int) then (if x22 < (x4.length : Int) then (impl_SharedKit.l1 k (x4.set (x22 : Int).toNat (mx (rd x4 x22) (rd x20 x22))) x13 x14 x15 x20 x21 (wrap64 (x22 + 1))) else (none)) else (none)) else (none)) else (impl_SharedKit.l0 k x4 x13 x14 (wrap64 (x15 + 1)))
end
def impl_SharedKit.f (k : Nat) (l0 : List (S81)) : Option (List Int × Bool) := (impl_areBoards.f k l0).bind fun t1485 => (if t1485 = true then (if 7 ≤ 35184372088832 then (impl_SharedKit.l0 k (List.replicate 7 0) l0 (l0.length : Int) 0) else (none)) else (some (([] : List Int), false)))

theorem impl_SharedKit_ok (k : Nat) (l0 : List (S81)) (r0 : List Int) (r1 : Bool) (h : impl_SharedKit.f k l0 = some (r0, r1)) (n_l0 : Nat) (hn_l0 : l0.length = n_l0) (g_l0 : Nat → List V) (hg_l0 : encL e81 l0 = g_l0) (n_r0 : Nat) (hn_r0 : r0.length = n_r0) (g_r0 : Nat → List V) (hg_r0 : encL eI r0 = g_r0) : CallOK Try.prog 72 [.fz 3 n_l0 g_l0] [] (.tup [.row 0 0 n_r0, .val (.bool r1)]) [.row 3 1 n_r0 g_r0] := by
  refine CallOK.of_code tabOK Try.func72 rfl rfl ⟨[(11, [4, 13, 14, 15, 20, 21, 22]), (12, [4, 13, 14, 15]), (13, [4])], []⟩ ?_
  unfold impl_SharedKit.f at h
  obtain ⟨P, hP⟩ : ∃ P, Try.prog = P := ⟨_, rfl⟩
  rw [hP]
  (try rw [hn_l0] at h); skip
  cbv
  repeat' (first
    | ((with_reducible show ∃ _, _)
       first
        | (refine ⟨trivial, ?_⟩; cbv)
        | (refine side (by first | with_reducible eq_refl | assumption | (intro _ _; with_reducible eq_refl) | exact lt_ix (by assumption) (by assumption) (by assumption) | exact lt_ix2 (by assumption) (by assumption) (by assumption) (by assumption) | exact lt_y (by assumption) (by assumption) | exact le_y (by assumption) | exact ge_y (by assumption) | exact cut_le (by assumption) (by assumption) | omega) ?_; (try cbv))
        | (refine bind_side (Eq.refl _) ?_; (try cbv))
        | (refine ⟨.kept, side (Eq.refl _) (side (by first | trivial | exact ⟨clean_enc (by assumption) (by assumption) (fun _ => rfl), trivial⟩) ?_)⟩; cbv)
        | (refine ⟨Frz.own, ?_⟩; cbv)
        | (refine ⟨.row, ?_⟩; cbv))
    | ((with_reducible show ∃ _ : Nat, _)
       first
        | (refine ⟨_, [4, 13, 14, 15, 20, 21, 22], Nat.lt_succ_self _, ?_⟩; cbv; exact ⟨_, _, _, _, _, _, _, _, _, _, _, _, _, h, by omega, by first | assumption | rfl, by first | assumption | rfl, by first | assumption | rfl, by first | assumption | rfl, by first | assumption | rfl, by first | assumption | rfl, rfl⟩)
        | (refine ⟨k2, [4, 13, 14, 15], (by omega), ?_⟩; cbv; exact ⟨_, _, _, _, _, _, _, _, h, by first | assumption | rfl, by first | assumption | rfl, by first | assumption | rfl, by first | assumption | rfl, rfl⟩))
    | ((with_reducible show ∃ _ : List Nat, _)
       first
        | ((with_reducible (have h0 : Option.bind (impl_neededParts.f _ _ _ _) _ = some _ := h; clear h0))
           refine ⟨[], ?_⟩; cbv
           repeat (first | (refine all_show (by first | omega | decide) ?_; cbv) | (refine all_showT (by assumption) (by assumption) (by assumption) (by first | assumption | exact lt_ix (by assumption) (by assumption) (by assumption) | exact lt_ix2 (by assumption) (by assumption) (by assumption) (by assumption) | exact lt_y (by assumption) (by assumption) | exact le_y (by assumption) | exact ge_y (by assumption) | exact cut_le (by assumption) (by assumption) | omega) (by first | assumption | exact cut_hi (by assumption) | exact cut_hi2 (by assumption) (by assumption) | omega) ?_; intro D hD hnD g hgD; (try rw [hD] at h); cbv))
           obtain ⟨t, ht, h'⟩ := bind_some h
           clear h; have h := h'; clear h'; (try dsimp only at h)
           obtain ⟨n_c170_0, hn_c170_0⟩ : ∃ n, t.length = n := ⟨_, rfl⟩; obtain ⟨g_t, hg_c170_0⟩ : ∃ g, encL eI t = g := ⟨_, rfl⟩; (try rw [hn_c170_0] at h)
           refine ⟨_, _, (hP ▸ impl_neededParts_ok _ _ _ _ _ ht _ (by first | assumption | rfl) _ (by assumption) _ hn_c170_0 _ hg_c170_0 : CallOK P 170 _ _ _ _), ?_⟩; cbv)
        | ((with_reducible (have h0 : Option.bind (impl_areBoards.f _ _) _ = some _ := h; clear h0))
           refine ⟨[], ?_⟩; cbv
           repeat (first | (refine all_show (by first | omega | decide) ?_; cbv) | (refine all_showT (by assumption) (by assumption) (by assumption) (by first | assumption | exact lt_ix (by assumption) (by assumption) (by assumption) | exact lt_ix2 (by assumption) (by assumption) (by assumption) (by assumption) | exact lt_y (by assumption) (by assumption) | exact le_y (by assumption) | exact ge_y (by assumption) | exact cut_le (by assumption) (by assumption) | omega) (by first | assumption | exact cut_hi (by assumption) | exact cut_hi2 (by assumption) (by assumption) | omega) ?_; intro D hD hnD g hgD; (try rw [hD] at h); cbv))
           obtain ⟨t, ht, h'⟩ := bind_some h
           clear h; have h := h'; clear h'; (try dsimp only at h)
           refine ⟨_, _, (hP ▸ impl_areBoards_ok _ _ _ ht _ (by first | assumption | rfl) _ (by assumption)  : CallOK P 176 _ _ _ _), ?_⟩
           rcases t with _ | _ <;> (try simp only [bs, eq_self, if_true, if_false, reduceIte] at h) <;> (try (cases h; done)) <;> cbv))
    | ((with_reducible show ∃ _ : Nat → List V, _)
       first
        | (refine all_putS eI (by assumption) (by assumption) (by (first | assumption | exact lt_ix (by assumption) (by assumption) (by assumption) | exact lt_ix2 (by assumption) (by assumption) (by assumption) (by assumption) | exact lt_y (by assumption) (by assumption) | exact le_y (by assumption) | exact ge_y (by assumption) | exact cut_le (by assumption) (by assumption) | omega)) rfl (fun _ => rfl) ?_; intro L hL hnL g hgL; (try rw [hL] at h); (try rw [Option.bind_some] at h); (try rw [hnL] at h); cbv))
    | ((with_reducible show ∃ _ : Nat → St → Prop, _)
       first
        | (refine ⟨fun k1 s => ∃ x4 x13 x14 x15 n_x4 g_x4 n_x13 g_x13, impl_SharedKit.l0 k1 x4 x13 x14 x15 = some (r0, r1) ∧ x4.length = n_x4 ∧ encL eI x4 = g_x4 ∧ x13.length = n_x13 ∧ encL e81 x13 = g_x13 ∧ s = ⟨⟨39, (upd 39 (upd 39 (upd 39 (upd 39 noT 15 (.val (.int .i64 x15))) 14 (.val (.int .i64 x14))) 13 (.fz 3 n_x13 g_x13)) 4 (.row 0 0 n_x4))⟩, [.row 3 1 n_x4 g_x4]⟩, ?_, [], ?_⟩
           rotate_left
           · cbv; exact ⟨_, [4, 13, 14, 15], by cbv; exact ⟨_, _, _, _, _, _, _, _, h, by first | assumption | rfl, by first | assumption | rfl, by first | assumption | rfl, by first | assumption | rfl, rfl⟩⟩
           clear h
           rintro (_ | k1) s1 ⟨x4, x13, x14, x15, n_x4, g_x4, n_x13, g_x13, h, hn_x4, hg_x4, hn_x13, hg_x13, rfl⟩
           · cases h
           unfold impl_SharedKit.l0 at h
           (try rw [hn_x4] at h); (try rw [hn_x13] at h); skip
           cbv)
        | (refine ⟨fun k2 s => ∃ x4 x13 x14 x15 x20 x21 x22 n_x4 g_x4 n_x13 g_x13 n_x20 g_x20, impl_SharedKit.l1 k2 x4 x13 x14 x15 x20 x21 x22 = some (r0, r1) ∧ k2 ≤ k1 ∧ x4.length = n_x4 ∧ encL eI x4 = g_x4 ∧ x13.length = n_x13 ∧ encL e81 x13 = g_x13 ∧ x20.length = n_x20 ∧ encL eI x20 = g_x20 ∧ s = ⟨⟨39, (upd 39 (upd 39 (upd 39 (upd 39 (upd 39 (upd 39 (upd 39 noT 22 (.val (.int .i64 x22))) 21 (.val (.int .i64 x21))) 20 (.row 1 0 n_x20)) 15 (.val (.int .i64 x15))) 14 (.val (.int .i64 x14))) 13 (.fz 3 n_x13 g_x13)) 4 (.row 0 0 n_x4))⟩, [.row 3 1 n_x4 g_x4, .row 3 1 n_x20 g_x20]⟩, ?_, [], ?_⟩
           rotate_left
           · cbv; exact ⟨_, [4, 13, 14, 15, 20, 21, 22], by cbv; exact ⟨_, _, _, _, _, _, _, _, _, _, _, _, _, h, by omega, by first | assumption | rfl, by first | assumption | rfl, by first | assumption | rfl, by first | assumption | rfl, by first | assumption | rfl, by first | assumption | rfl, rfl⟩⟩
           clear h
           rintro (_ | k2) s1 ⟨x4, x13, x14, x15, x20, x21, x22, n_x4, g_x4, n_x13, g_x13, n_x20, g_x20, h, hk2, hn_x4, hg_x4, hn_x13, hg_x13, hn_x20, hg_x20, rfl⟩
           · cases h
           unfold impl_SharedKit.l1 at h
           (try rw [hn_x4] at h); (try rw [hn_x13] at h); (try rw [hn_x20] at h); skip
           cbv))
    | ((with_reducible show ∀ _ : Bool, _)
       first
        | (refine all_lt ?_ ?_ <;> (intro hd; first | exact absurd rfl hd | ((first | rw [if_pos hd] at h | rw [if_neg hd] at h | rw [if_pos (by omega)] at h | rw [if_neg (by omega)] at h | skip); (first | (rw [decide_eq_true hd] at h; (try simp only [bs, eq_self, if_true, if_false, reduceIte] at h)) | (rw [decide_eq_false hd] at h; (try simp only [bs, eq_self, if_true, if_false, reduceIte] at h)) | skip); cbv))))
    | ((with_reducible show ∀ _ : Int, _)
       first
        | (refine all_mx ?_; intro y hy; (try rw [hy] at h); cbv)
        | (refine all_wrap ?_; intro y hy; (try rw [hy] at h); cbv)
        | (refine all_len ?_; intro y hy; (try replace hy : ((_ : Nat) : Int) = y := hy); (try rw [hy] at h); (try rw [show (NatCast.natCast _ : Int) = _ from hy] at h); cbv))
    | ((with_reducible show ∀ _ : Nat, _)
       first
        | (refine all_ix0_old (by assumption) ?_; cbv)
        | (refine all_ix0 ?_; intro q hq; (try rw [hq] at h); cbv)
        | (refine all_mk eI (0 : Int) 7 rfl rfl ?_; intro L hL hnL g hgL; (try rw [hL] at h); (try rw [Option.bind_some] at h); (try rw [hnL] at h); cbv))
    | ((with_reducible show ∀ _ : List V, _)
       first
        | (refine @all_rd _ _ eI rd ?_ ?_ ?_ _ _ _ (fun _ _ => rfl) ?_ ?_ ?_ ?_ ?_ ?_
           rotate_left 3
           assumption
           assumption
           (first | rfl | assumption)
           (first | assumption | exact lt_ix (by assumption) (by assumption) (by assumption) | exact lt_ix2 (by assumption) (by assumption) (by assumption) (by assumption) | exact lt_y (by assumption) (by assumption) | exact le_y (by assumption) | exact ge_y (by assumption) | exact cut_le (by assumption) (by assumption) | omega)
           (first | assumption | exact lt_ix (by assumption) (by assumption) (by assumption) | exact lt_ix2 (by assumption) (by assumption) (by assumption) (by assumption) | exact lt_y (by assumption) (by assumption) | exact le_y (by assumption) | exact ge_y (by assumption) | exact cut_le (by assumption) (by assumption) | omega)
           intro z hz
           (try rw [hz] at h); cbv)
        | (refine @all_rd81 ?_ ?_ ?_ _ _ _ ?_ ?_ ?_ ?_ ?_ ?_
           rotate_left 3
           assumption
           assumption
           (first | rfl | assumption)
           (first | assumption | exact lt_ix (by assumption) (by assumption) (by assumption) | exact lt_ix2 (by assumption) (by assumption) (by assumption) (by assumption) | exact lt_y (by assumption) (by assumption) | exact le_y (by assumption) | exact ge_y (by assumption) | exact cut_le (by assumption) (by assumption) | omega)
           (first | assumption | exact lt_ix (by assumption) (by assumption) (by assumption) | exact lt_ix2 (by assumption) (by assumption) (by assumption) (by assumption) | exact lt_y (by assumption) (by assumption) | exact le_y (by assumption) | exact ge_y (by assumption) | exact cut_le (by assumption) (by assumption) | omega)
           intro z hz n_z hn_z g_z hg_z; (try rw [hz] at h); (try rw [hn_z] at h); cbv))
    | (obtain ⟨hc, h'⟩ := if_none h; clear h; have h := h'; clear h')
    | (simp only [Option.some.injEq, Prod.mk.injEq] at h; obtain ⟨rfl, rfl⟩ := h)
    | ((with_reducible show ∃ _, _)
       refine side (by first | exact enc_same (by assumption) (by assumption) _ | exact take_s1 (by assumption) (by assumption) (by assumption) | exact take_s2 (by assumption) (by assumption) (by assumption) (by assumption) (by assumption) | exact take_s3 (by assumption) (by assumption) (by assumption) | exact take_s4 (by assumption) (by assumption) (by assumption) | (intro k hk; subst_vars; first | eq_refl | exact enc_drop | exact enc_take hk | exact absurd hk (Nat.not_lt_zero k)) | (subst_vars; first | eq_refl | (simp; done) | (simp; omega)) | (have h1 : Int.toNat 1 = 1 := rfl; have h2 := one_le (by assumption) (by assumption); simp only [List.length_append, List.length_nil, List.length_drop, h1] at *; omega) | (simp only [Nat.cast] at *; omega)) ?_; (try cbv)))

def spec_kiBoards.l0 : Nat → List (S81) → List (S81) → Int → Int → Option (Bool)
  | 0, _, _, _, _ => none
  | k + 1, x0, x5, x6, x7 => if x7 < x6 then (if 0 ≤ x7 then (if x7 < (x5.length : Int) then ((spec_boGood.f k ((rd_T81 x5 x7).f0) ((rd_T81 x5 x7).f1) ((rd_T81 x5 x7).f2)).bind fun t1499 => (if t1499 = true then (spec_kiBoards.l0 k x0 x5 x6 (wrap64 (x7 + 1))) else (some false))) else (none)) else (none)) else ((spec_l1In.f (x0.length : Int) 1 6).bind fun t1500 => (some t1500))
def spec_kiBoards.f (k : Nat) (l0 : List (S81)) : Option (Bool) := spec_kiBoards.l0 k l0 l0 (l0.length : Int) 0

theorem spec_kiBoards_ok (k : Nat) (l0 : List (S81)) (r0 : Bool) (h : spec_kiBoards.f k l0 = some r0) (n_l0 : Nat) (hn_l0 : l0.length = n_l0) (g_l0 : Nat → List V) (hg_l0 : encL e81 l0 = g_l0)  : CallOK Try.prog 177 [.fz 3 n_l0 g_l0] [] (.val (.bool r0)) [] := by
  refine CallOK.of_code tabOK Try.func177 rfl rfl ⟨[(6, [0, 5, 6, 7]), (7, [0])], []⟩ ?_
  unfold spec_kiBoards.f at h
  obtain ⟨P, hP⟩ : ∃ P, Try.prog = P := ⟨_, rfl⟩
  rw [hP]
  (try rw [hn_l0] at h); skip
  cbv
  repeat' (first
    | ((with_reducible show ∃ _, _)
       first
        | (refine ⟨trivial, ?_⟩; cbv)
        | (refine side (by first | with_reducible eq_refl | assumption | (intro _ _; with_reducible eq_refl) | exact lt_ix (by assumption) (by assumption) (by assumption) | exact lt_ix2 (by assumption) (by assumption) (by assumption) (by assumption) | exact lt_y (by assumption) (by assumption) | exact le_y (by assumption) | exact ge_y (by assumption) | exact cut_le (by assumption) (by assumption) | omega) ?_; (try cbv))
        | (refine ⟨Frz.own, ?_⟩; cbv))
    | ((with_reducible show ∃ _ : Nat, _)
       first
        | (refine ⟨_, [0, 5, 6, 7], Nat.lt_succ_self _, ?_⟩; cbv; exact ⟨_, _, _, _, _, _, _, _, h, by first | assumption | rfl, by first | assumption | rfl, by first | assumption | rfl, by first | assumption | rfl, rfl⟩))
    | ((with_reducible show ∃ _ : List Nat, _)
       first
        | ((with_reducible (have h0 : Option.bind (spec_l1In.f _ _ _) _ = some _ := h; clear h0))
           refine ⟨[], ?_⟩; cbv
           repeat (first | (refine all_show (by first | omega | decide) ?_; cbv) | (refine all_showT (by assumption) (by assumption) (by assumption) (by first | assumption | exact lt_ix (by assumption) (by assumption) (by assumption) | exact lt_ix2 (by assumption) (by assumption) (by assumption) (by assumption) | exact lt_y (by assumption) (by assumption) | exact le_y (by assumption) | exact ge_y (by assumption) | exact cut_le (by assumption) (by assumption) | omega) (by first | assumption | exact cut_hi (by assumption) | exact cut_hi2 (by assumption) (by assumption) | omega) ?_; intro D hD hnD g hgD; (try rw [hD] at h); cbv))
           obtain ⟨t, ht, h'⟩ := bind_some h
           clear h; have h := h'; clear h'; (try dsimp only at h)
           refine ⟨_, _, (hP ▸ spec_l1In_ok _ _ _ _ ht   : CallOK P 155 _ _ _ _), ?_⟩
           rcases t with _ | _ <;> (try simp only [bs, eq_self, if_true, if_false, reduceIte] at h) <;> (try (cases h; done)) <;> cbv)
        | ((with_reducible (have h0 : Option.bind (spec_boGood.f _ _ _ _) _ = some _ := h; clear h0))
           refine ⟨[], ?_⟩; cbv
           repeat (first | (refine all_show (by first | omega | decide) ?_; cbv) | (refine all_showT (by assumption) (by assumption) (by assumption) (by first | assumption | exact lt_ix (by assumption) (by assumption) (by assumption) | exact lt_ix2 (by assumption) (by assumption) (by assumption) (by assumption) | exact lt_y (by assumption) (by assumption) | exact le_y (by assumption) | exact ge_y (by assumption) | exact cut_le (by assumption) (by assumption) | omega) (by first | assumption | exact cut_hi (by assumption) | exact cut_hi2 (by assumption) (by assumption) | omega) ?_; intro D hD hnD g hgD; (try rw [hD] at h); cbv))
           obtain ⟨t, ht, h'⟩ := bind_some h
           clear h; have h := h'; clear h'; (try dsimp only at h)
           refine ⟨_, _, (hP ▸ spec_boGood_ok _ _ _ _ _ ht _ (by first | assumption | rfl) _ (by assumption)  : CallOK P 171 _ _ _ _), ?_⟩
           rcases t with _ | _ <;> (try simp only [bs, eq_self, if_true, if_false, reduceIte] at h) <;> (try (cases h; done)) <;> cbv))
    | ((with_reducible show ∃ _ : Nat → St → Prop, _)
       first
        | (refine ⟨fun k1 s => ∃ x0 x5 x6 x7 n_x0 g_x0 n_x5 g_x5, spec_kiBoards.l0 k1 x0 x5 x6 x7 = some r0 ∧ x0.length = n_x0 ∧ encL e81 x0 = g_x0 ∧ x5.length = n_x5 ∧ encL e81 x5 = g_x5 ∧ s = ⟨⟨18, (upd 18 (upd 18 (upd 18 (upd 18 noT 7 (.val (.int .i64 x7))) 6 (.val (.int .i64 x6))) 5 (.fz 3 n_x5 g_x5)) 0 (.fz 3 n_x0 g_x0))⟩, []⟩, ?_, [], ?_⟩
           rotate_left
           · cbv; exact ⟨_, [0, 5, 6, 7], by cbv; exact ⟨_, _, _, _, _, _, _, _, h, by first | assumption | rfl, by first | assumption | rfl, by first | assumption | rfl, by first | assumption | rfl, rfl⟩⟩
           clear h
           rintro (_ | k1) s1 ⟨x0, x5, x6, x7, n_x0, g_x0, n_x5, g_x5, h, hn_x0, hg_x0, hn_x5, hg_x5, rfl⟩
           · cases h
           unfold spec_kiBoards.l0 at h
           (try rw [hn_x0] at h); (try rw [hn_x5] at h); skip
           cbv))
    | ((with_reducible show ∀ _ : Bool, _)
       first
        | (refine all_lt ?_ ?_ <;> (intro hd; first | exact absurd rfl hd | ((first | rw [if_pos hd] at h | rw [if_neg hd] at h | rw [if_pos (by omega)] at h | rw [if_neg (by omega)] at h | skip); (first | (rw [decide_eq_true hd] at h; (try simp only [bs, eq_self, if_true, if_false, reduceIte] at h)) | (rw [decide_eq_false hd] at h; (try simp only [bs, eq_self, if_true, if_false, reduceIte] at h)) | skip); cbv))))
    | ((with_reducible show ∀ _ : Int, _)
       first
        | (refine all_wrap ?_; intro y hy; (try rw [hy] at h); cbv)
        | (refine all_len ?_; intro y hy; (try replace hy : ((_ : Nat) : Int) = y := hy); (try rw [hy] at h); (try rw [show (NatCast.natCast _ : Int) = _ from hy] at h); cbv))
    | ((with_reducible show ∀ _ : List V, _)
       first
        | (refine @all_rd81 ?_ ?_ ?_ _ _ _ ?_ ?_ ?_ ?_ ?_ ?_
           rotate_left 3
           assumption
           assumption
           (first | rfl | assumption)
           (first | assumption | exact lt_ix (by assumption) (by assumption) (by assumption) | exact lt_ix2 (by assumption) (by assumption) (by assumption) (by assumption) | exact lt_y (by assumption) (by assumption) | exact le_y (by assumption) | exact ge_y (by assumption) | exact cut_le (by assumption) (by assumption) | omega)
           (first | assumption | exact lt_ix (by assumption) (by assumption) (by assumption) | exact lt_ix2 (by assumption) (by assumption) (by assumption) (by assumption) | exact lt_y (by assumption) (by assumption) | exact le_y (by assumption) | exact ge_y (by assumption) | exact cut_le (by assumption) (by assumption) | omega)
           intro z hz n_z hn_z g_z hg_z; (try rw [hz] at h); (try rw [hn_z] at h); cbv))
    | (obtain ⟨hc, h'⟩ := if_none h; clear h; have h := h'; clear h')
    | (simp only [Option.some.injEq, Prod.mk.injEq] at h; subst h)
    | trivial)

mutual
def spec_SharedKit.l0 : Nat → List Int → List (S81) → Int → Int → Option (List Int × Bool)
  | 0, _, _, _, _ => none
  | k + 1, x4, x13, x14, x15 => if x15 < x14 then (if 0 ≤ x15 then (if x15 < (x13.length : Int) then ((spec_kiOf.f k ((rd_T81 x13 x15).f0) ((rd_T81 x13 x15).f1) ((rd_T81 x13 x15).f2)).bind fun t1507 => (spec_SharedKit.l1 k x4 x13 x14 x15 t1507 (t1507.length : Int) 0)) else (none)) else (none)) else (some (x4, true))
def spec_SharedKit.l1 : Nat → List Int → List (S81) → Int → Int → List Int → Int → Int → Option (List Int × Bool)
  | 0, _, _, _, _, _, _, _ => none
  | k + 1, x4, x13, x14, x15, x20, x21, x22 => if x22 < x21 then (if 0 ≤ x22 then (if x22 < (x20.length : Int) then (if x22 < (x4.length : Int) then ((spec_l1Most.f (rd x4 x22) (rd x20 x22)).bind fun t1512 => (spec_SharedKit.l1 k (x4.set (x22 : Int).toNat t1512) x13 x14 x15 x20 x21 (wrap64 (x22 + 1)))) else (none)) else (none)) else (none)) else (spec_SharedKit.l0 k x4 x13 x14 (wrap64 (x15 + 1)))
end
def spec_SharedKit.f (k : Nat) (l0 : List (S81)) : Option (List Int × Bool) := (spec_kiBoards.f k l0).bind fun t1501 => (if t1501 = true then (if 7 ≤ 35184372088832 then (spec_SharedKit.l0 k (List.replicate 7 0) l0 (l0.length : Int) 0) else (none)) else (some (([] : List Int), false)))

theorem spec_SharedKit_ok (k : Nat) (l0 : List (S81)) (r0 : List Int) (r1 : Bool) (h : spec_SharedKit.f k l0 = some (r0, r1)) (n_l0 : Nat) (hn_l0 : l0.length = n_l0) (g_l0 : Nat → List V) (hg_l0 : encL e81 l0 = g_l0) (n_r0 : Nat) (hn_r0 : r0.length = n_r0) (g_r0 : Nat → List V) (hg_r0 : encL eI r0 = g_r0) : CallOK Try.prog 73 [.fz 3 n_l0 g_l0] [] (.tup [.row 0 0 n_r0, .val (.bool r1)]) [.row 3 1 n_r0 g_r0] := by
  refine CallOK.of_code tabOK Try.func73 rfl rfl ⟨[(11, [4, 13, 14, 15, 20, 21, 22]), (12, [4, 13, 14, 15]), (13, [4])], []⟩ ?_
  unfold spec_SharedKit.f at h
  obtain ⟨P, hP⟩ : ∃ P, Try.prog = P := ⟨_, rfl⟩
  rw [hP]
  (try rw [hn_l0] at h); skip
  cbv
  repeat' (first
    | ((with_reducible show ∃ _, _)
       first
        | (refine ⟨trivial, ?_⟩; cbv)
        | (refine side (by first | with_reducible eq_refl | assumption | (intro _ _; with_reducible eq_refl) | exact lt_ix (by assumption) (by assumption) (by assumption) | exact lt_ix2 (by assumption) (by assumption) (by assumption) (by assumption) | exact lt_y (by assumption) (by assumption) | exact le_y (by assumption) | exact ge_y (by assumption) | exact cut_le (by assumption) (by assumption) | omega) ?_; (try cbv))
        | (refine bind_side (Eq.refl _) ?_; (try cbv))
        | (refine ⟨.kept, side (Eq.refl _) (side (by first | trivial | exact ⟨clean_enc (by assumption) (by assumption) (fun _ => rfl), trivial⟩) ?_)⟩; cbv)
        | (refine ⟨Frz.own, ?_⟩; cbv)
        | (refine ⟨.row, ?_⟩; cbv))
    | ((with_reducible show ∃ _ : Nat, _)
       first
        | (refine ⟨_, [4, 13, 14, 15, 20, 21, 22], Nat.lt_succ_self _, ?_⟩; cbv; exact ⟨_, _, _, _, _, _, _, _, _, _, _, _, _, h, by omega, by first | assumption | rfl, by first | assumption | rfl, by first | assumption | rfl, by first | assumption | rfl, by first | assumption | rfl, by first | assumption | rfl, rfl⟩)
        | (refine ⟨k2, [4, 13, 14, 15], (by omega), ?_⟩; cbv; exact ⟨_, _, _, _, _, _, _, _, h, by first | assumption | rfl, by first | assumption | rfl, by first | assumption | rfl, by first | assumption | rfl, rfl⟩))
    | ((with_reducible show ∃ _ : List Nat, _)
       first
        | ((with_reducible (have h0 : Option.bind (spec_kiOf.f _ _ _ _) _ = some _ := h; clear h0))
           refine ⟨[], ?_⟩; cbv
           repeat (first | (refine all_show (by first | omega | decide) ?_; cbv) | (refine all_showT (by assumption) (by assumption) (by assumption) (by first | assumption | exact lt_ix (by assumption) (by assumption) (by assumption) | exact lt_ix2 (by assumption) (by assumption) (by assumption) (by assumption) | exact lt_y (by assumption) (by assumption) | exact le_y (by assumption) | exact ge_y (by assumption) | exact cut_le (by assumption) (by assumption) | omega) (by first | assumption | exact cut_hi (by assumption) | exact cut_hi2 (by assumption) (by assumption) | omega) ?_; intro D hD hnD g hgD; (try rw [hD] at h); cbv))
           obtain ⟨t, ht, h'⟩ := bind_some h
           clear h; have h := h'; clear h'; (try dsimp only at h)
           obtain ⟨n_c173_0, hn_c173_0⟩ : ∃ n, t.length = n := ⟨_, rfl⟩; obtain ⟨g_t, hg_c173_0⟩ : ∃ g, encL eI t = g := ⟨_, rfl⟩; (try rw [hn_c173_0] at h)
           refine ⟨_, _, (hP ▸ spec_kiOf_ok _ _ _ _ _ ht _ (by first | assumption | rfl) _ (by assumption) _ hn_c173_0 _ hg_c173_0 : CallOK P 173 _ _ _ _), ?_⟩; cbv)
        | ((with_reducible (have h0 : Option.bind (spec_l1Most.f _ _) _ = some _ := h; clear h0))
           refine ⟨[], ?_⟩; cbv
           repeat (first | (refine all_show (by first | omega | decide) ?_; cbv) | (refine all_showT (by assumption) (by assumption) (by assumption) (by first | assumption | exact lt_ix (by assumption) (by assumption) (by assumption) | exact lt_ix2 (by assumption) (by assumption) (by assumption) (by assumption) | exact lt_y (by assumption) (by assumption) | exact le_y (by assumption) | exact ge_y (by assumption) | exact cut_le (by assumption) (by assumption) | omega) (by first | assumption | exact cut_hi (by assumption) | exact cut_hi2 (by assumption) (by assumption) | omega) ?_; intro D hD hnD g hgD; (try rw [hD] at h); cbv))
           obtain ⟨t, ht, h'⟩ := bind_some h
           clear h; have h := h'; clear h'; (try dsimp only at h)
           refine ⟨_, _, (hP ▸ spec_l1Most_ok _ _ _ ht   : CallOK P 174 _ _ _ _), ?_⟩; cbv)
        | ((with_reducible (have h0 : Option.bind (spec_kiBoards.f _ _) _ = some _ := h; clear h0))
           refine ⟨[], ?_⟩; cbv
           repeat (first | (refine all_show (by first | omega | decide) ?_; cbv) | (refine all_showT (by assumption) (by assumption) (by assumption) (by first | assumption | exact lt_ix (by assumption) (by assumption) (by assumption) | exact lt_ix2 (by assumption) (by assumption) (by assumption) (by assumption) | exact lt_y (by assumption) (by assumption) | exact le_y (by assumption) | exact ge_y (by assumption) | exact cut_le (by assumption) (by assumption) | omega) (by first | assumption | exact cut_hi (by assumption) | exact cut_hi2 (by assumption) (by assumption) | omega) ?_; intro D hD hnD g hgD; (try rw [hD] at h); cbv))
           obtain ⟨t, ht, h'⟩ := bind_some h
           clear h; have h := h'; clear h'; (try dsimp only at h)
           refine ⟨_, _, (hP ▸ spec_kiBoards_ok _ _ _ ht _ (by first | assumption | rfl) _ (by assumption)  : CallOK P 177 _ _ _ _), ?_⟩
           rcases t with _ | _ <;> (try simp only [bs, eq_self, if_true, if_false, reduceIte] at h) <;> (try (cases h; done)) <;> cbv))
    | ((with_reducible show ∃ _ : Nat → List V, _)
       first
        | (refine all_putS eI (by assumption) (by assumption) (by (first | assumption | exact lt_ix (by assumption) (by assumption) (by assumption) | exact lt_ix2 (by assumption) (by assumption) (by assumption) (by assumption) | exact lt_y (by assumption) (by assumption) | exact le_y (by assumption) | exact ge_y (by assumption) | exact cut_le (by assumption) (by assumption) | omega)) rfl (fun _ => rfl) ?_; intro L hL hnL g hgL; (try rw [hL] at h); (try rw [Option.bind_some] at h); (try rw [hnL] at h); cbv))
    | ((with_reducible show ∃ _ : Nat → St → Prop, _)
       first
        | (refine ⟨fun k1 s => ∃ x4 x13 x14 x15 n_x4 g_x4 n_x13 g_x13, spec_SharedKit.l0 k1 x4 x13 x14 x15 = some (r0, r1) ∧ x4.length = n_x4 ∧ encL eI x4 = g_x4 ∧ x13.length = n_x13 ∧ encL e81 x13 = g_x13 ∧ s = ⟨⟨39, (upd 39 (upd 39 (upd 39 (upd 39 noT 15 (.val (.int .i64 x15))) 14 (.val (.int .i64 x14))) 13 (.fz 3 n_x13 g_x13)) 4 (.row 0 0 n_x4))⟩, [.row 3 1 n_x4 g_x4]⟩, ?_, [], ?_⟩
           rotate_left
           · cbv; exact ⟨_, [4, 13, 14, 15], by cbv; exact ⟨_, _, _, _, _, _, _, _, h, by first | assumption | rfl, by first | assumption | rfl, by first | assumption | rfl, by first | assumption | rfl, rfl⟩⟩
           clear h
           rintro (_ | k1) s1 ⟨x4, x13, x14, x15, n_x4, g_x4, n_x13, g_x13, h, hn_x4, hg_x4, hn_x13, hg_x13, rfl⟩
           · cases h
           unfold spec_SharedKit.l0 at h
           (try rw [hn_x4] at h); (try rw [hn_x13] at h); skip
           cbv)
        | (refine ⟨fun k2 s => ∃ x4 x13 x14 x15 x20 x21 x22 n_x4 g_x4 n_x13 g_x13 n_x20 g_x20, spec_SharedKit.l1 k2 x4 x13 x14 x15 x20 x21 x22 = some (r0, r1) ∧ k2 ≤ k1 ∧ x4.length = n_x4 ∧ encL eI x4 = g_x4 ∧ x13.length = n_x13 ∧ encL e81 x13 = g_x13 ∧ x20.length = n_x20 ∧ encL eI x20 = g_x20 ∧ s = ⟨⟨39, (upd 39 (upd 39 (upd 39 (upd 39 (upd 39 (upd 39 (upd 39 noT 22 (.val (.int .i64 x22))) 21 (.val (.int .i64 x21))) 20 (.row 1 0 n_x20)) 15 (.val (.int .i64 x15))) 14 (.val (.int .i64 x14))) 13 (.fz 3 n_x13 g_x13)) 4 (.row 0 0 n_x4))⟩, [.row 3 1 n_x4 g_x4, .row 3 1 n_x20 g_x20]⟩, ?_, [], ?_⟩
           rotate_left
           · cbv; exact ⟨_, [4, 13, 14, 15, 20, 21, 22], by cbv; exact ⟨_, _, _, _, _, _, _, _, _, _, _, _, _, h, by omega, by first | assumption | rfl, by first | assumption | rfl, by first | assumption | rfl, by first | assumption | rfl, by first | assumption | rfl, by first | assumption | rfl, rfl⟩⟩
           clear h
           rintro (_ | k2) s1 ⟨x4, x13, x14, x15, x20, x21, x22, n_x4, g_x4, n_x13, g_x13, n_x20, g_x20, h, hk2, hn_x4, hg_x4, hn_x13, hg_x13, hn_x20, hg_x20, rfl⟩
           · cases h
           unfold spec_SharedKit.l1 at h
           (try rw [hn_x4] at h); (try rw [hn_x13] at h); (try rw [hn_x20] at h); skip
           cbv))
    | ((with_reducible show ∀ _ : Bool, _)
       first
        | (refine all_lt ?_ ?_ <;> (intro hd; first | exact absurd rfl hd | ((first | rw [if_pos hd] at h | rw [if_neg hd] at h | rw [if_pos (by omega)] at h | rw [if_neg (by omega)] at h | skip); (first | (rw [decide_eq_true hd] at h; (try simp only [bs, eq_self, if_true, if_false, reduceIte] at h)) | (rw [decide_eq_false hd] at h; (try simp only [bs, eq_self, if_true, if_false, reduceIte] at h)) | skip); cbv))))
    | ((with_reducible show ∀ _ : Int, _)
       first
        | (refine all_wrap ?_; intro y hy; (try rw [hy] at h); cbv)
        | (refine all_len ?_; intro y hy; (try replace hy : ((_ : Nat) : Int) = y := hy); (try rw [hy] at h); (try rw [show (NatCast.natCast _ : Int) = _ from hy] at h); cbv))
    | ((with_reducible show ∀ _ : Nat, _)
       first
        | (refine all_ix0_old (by assumption) ?_; cbv)
        | (refine all_ix0 ?_; intro q hq; (try rw [hq] at h); cbv)
        | (refine all_mk eI (0 : Int) 7 rfl rfl ?_; intro L hL hnL g hgL; (try rw [hL] at h); (try rw [Option.bind_some] at h); (try rw [hnL] at h); cbv))
    | ((with_reducible show ∀ _ : List V, _)
       first
        | (refine @all_rd _ _ eI rd ?_ ?_ ?_ _ _ _ (fun _ _ => rfl) ?_ ?_ ?_ ?_ ?_ ?_
           rotate_left 3
           assumption
           assumption
           (first | rfl | assumption)
           (first | assumption | exact lt_ix (by assumption) (by assumption) (by assumption) | exact lt_ix2 (by assumption) (by assumption) (by assumption) (by assumption) | exact lt_y (by assumption) (by assumption) | exact le_y (by assumption) | exact ge_y (by assumption) | exact cut_le (by assumption) (by assumption) | omega)
           (first | assumption | exact lt_ix (by assumption) (by assumption) (by assumption) | exact lt_ix2 (by assumption) (by assumption) (by assumption) (by assumption) | exact lt_y (by assumption) (by assumption) | exact le_y (by assumption) | exact ge_y (by assumption) | exact cut_le (by assumption) (by assumption) | omega)
           intro z hz
           (try rw [hz] at h); cbv)
        | (refine @all_rd81 ?_ ?_ ?_ _ _ _ ?_ ?_ ?_ ?_ ?_ ?_
           rotate_left 3
           assumption
           assumption
           (first | rfl | assumption)
           (first | assumption | exact lt_ix (by assumption) (by assumption) (by assumption) | exact lt_ix2 (by assumption) (by assumption) (by assumption) (by assumption) | exact lt_y (by assumption) (by assumption) | exact le_y (by assumption) | exact ge_y (by assumption) | exact cut_le (by assumption) (by assumption) | omega)
           (first | assumption | exact lt_ix (by assumption) (by assumption) (by assumption) | exact lt_ix2 (by assumption) (by assumption) (by assumption) (by assumption) | exact lt_y (by assumption) (by assumption) | exact le_y (by assumption) | exact ge_y (by assumption) | exact cut_le (by assumption) (by assumption) | omega)
           intro z hz n_z hn_z g_z hg_z; (try rw [hz] at h); (try rw [hn_z] at h); cbv))
    | (obtain ⟨hc, h'⟩ := if_none h; clear h; have h := h'; clear h')
    | (simp only [Option.some.injEq, Prod.mk.injEq] at h; obtain ⟨rfl, rfl⟩ := h)
    | ((with_reducible show ∃ _, _)
       refine side (by first | exact enc_same (by assumption) (by assumption) _ | exact take_s1 (by assumption) (by assumption) (by assumption) | exact take_s2 (by assumption) (by assumption) (by assumption) (by assumption) (by assumption) | exact take_s3 (by assumption) (by assumption) (by assumption) | exact take_s4 (by assumption) (by assumption) (by assumption) | (intro k hk; subst_vars; first | eq_refl | exact enc_drop | exact enc_take hk | exact absurd hk (Nat.not_lt_zero k)) | (subst_vars; first | eq_refl | (simp; done) | (simp; omega)) | (have h1 : Int.toNat 1 = 1 := rfl; have h2 := one_le (by assumption) (by assumption); simp only [List.length_append, List.length_nil, List.length_drop, h1] at *; omega) | (simp only [Nat.cast] at *; omega)) ?_; (try cbv)))

mutual
def impl_SumKit.l0 : Nat → List Int → List (S81) → Int → Int → Option (List Int × Bool)
  | 0, _, _, _, _ => none
  | k + 1, x4, x13, x14, x15 => if x15 < x14 then (if 0 ≤ x15 then (if x15 < (x13.length : Int) then ((impl_neededParts.f k ((rd_T81 x13 x15).f0) ((rd_T81 x13 x15).f1) ((rd_T81 x13 x15).f2)).bind fun t1520 => (impl_SumKit.l1 k x4 x13 x14 x15 t1520 (t1520.length : Int) 0)) else (none)) else (none)) else (some (x4, true))
def impl_SumKit.l1 : Nat → List Int → List (S81) → Int → Int → List Int → Int → Int → Option (List Int × Bool)
  | 0, _, _, _, _, _, _, _ => none
  | k + 1, x4, x13, x14, x15, x20, x21, x22 => if x22 < x21 then (if 0 ≤ x22 then (if x22 < (x20.length : Int) then (if x22 < (x4.length : Int) then (impl_SumKit.l1 k (x4.set (x22 : Int).toNat (wrap64 ((rd x4 x22) + (rd x20 x22)))) x13 x14 x15 x20 x21 (wrap64 (x22 + 1))) else (none)) else (none)) else (none)) else (impl_SumKit.l0 k x4 x13 x14 (wrap64 (x15 + 1)))
end
def impl_SumKit.f (k : Nat) (l0 : List (S81)) : Option (List Int × Bool) := (impl_areBoards.f k l0).bind fun t1514 => (if t1514 = true then (if 7 ≤ 35184372088832 then (impl_SumKit.l0 k (List.replicate 7 0) l0 (l0.length : Int) 0) else (none)) else (some (([] : List Int), false)))

theorem impl_SumKit_ok (k : Nat) (l0 : List (S81)) (r0 : List Int) (r1 : Bool) (h : impl_SumKit.f k l0 = some (r0, r1)) (n_l0 : Nat) (hn_l0 : l0.length = n_l0) (g_l0 : Nat → List V) (hg_l0 : encL e81 l0 = g_l0) (n_r0 : Nat) (hn_r0 : r0.length = n_r0) (g_r0 : Nat → List V) (hg_r0 : encL eI r0 = g_r0) : CallOK Try.prog 74 [.fz 3 n_l0 g_l0] [] (.tup [.row 0 0 n_r0, .val (.bool r1)]) [.row 3 1 n_r0 g_r0] := by
  refine CallOK.of_code tabOK Try.func74 rfl rfl ⟨[(11, [4, 13, 14, 15, 20, 21, 22]), (12, [4, 13, 14, 15]), (13, [4])], []⟩ ?_
  unfold impl_SumKit.f at h
  obtain ⟨P, hP⟩ : ∃ P, Try.prog = P := ⟨_, rfl⟩
  rw [hP]
  (try rw [hn_l0] at h); skip
  cbv
  repeat' (first
    | ((with_reducible show ∃ _, _)
       first
        | (refine ⟨trivial, ?_⟩; cbv)
        | (refine side (by first | with_reducible eq_refl | assumption | (intro _ _; with_reducible eq_refl) | exact lt_ix (by assumption) (by assumption) (by assumption) | exact lt_ix2 (by assumption) (by assumption) (by assumption) (by assumption) | exact lt_y (by assumption) (by assumption) | exact le_y (by assumption) | exact ge_y (by assumption) | exact cut_le (by assumption) (by assumption) | omega) ?_; (try cbv))
        | (refine bind_side (Eq.refl _) ?_; (try cbv))
        | (refine ⟨.kept, side (Eq.refl _) (side (by first | trivial | exact ⟨clean_enc (by assumption) (by assumption) (fun _ => rfl), trivial⟩) ?_)⟩; cbv)
        | (refine ⟨Frz.own, ?_⟩; cbv)
        | (refine ⟨.row, ?_⟩; cbv))
    | ((with_reducible show ∃ _ : Nat, _)
       first
        | (refine ⟨_, [4, 13, 14, 15, 20, 21, 22], Nat.lt_succ_self _, ?_⟩; cbv; exact ⟨_, _, _, _, _, _, _, _, _, _, _, _, _, h, by omega, by first | assumption | rfl, by first | assumption | rfl, by first | assumption | rfl, by first | assumption | rfl, by first | assumption | rfl, by first | assumption | rfl, rfl⟩)
        | (refine ⟨k2, [4, 13, 14, 15], (by omega), ?_⟩; cbv; exact ⟨_, _, _, _, _, _, _, _, h, by first | assumption | rfl, by first | assumption | rfl, by first | assumption | rfl, by first | assumption | rfl, rfl⟩))
    | ((with_reducible show ∃ _ : List Nat, _)
       first
        | ((with_reducible (have h0 : Option.bind (impl_neededParts.f _ _ _ _) _ = some _ := h; clear h0))
           refine ⟨[], ?_⟩; cbv
           repeat (first | (refine all_show (by first | omega | decide) ?_; cbv) | (refine all_showT (by assumption) (by assumption) (by assumption) (by first | assumption | exact lt_ix (by assumption) (by assumption) (by assumption) | exact lt_ix2 (by assumption) (by assumption) (by assumption) (by assumption) | exact lt_y (by assumption) (by assumption) | exact le_y (by assumption) | exact ge_y (by assumption) | exact cut_le (by assumption) (by assumption) | omega) (by first | assumption | exact cut_hi (by assumption) | exact cut_hi2 (by assumption) (by assumption) | omega) ?_; intro D hD hnD g hgD; (try rw [hD] at h); cbv))
           obtain ⟨t, ht, h'⟩ := bind_some h
           clear h; have h := h'; clear h'; (try dsimp only at h)
           obtain ⟨n_c170_0, hn_c170_0⟩ : ∃ n, t.length = n := ⟨_, rfl⟩; obtain ⟨g_t, hg_c170_0⟩ : ∃ g, encL eI t = g := ⟨_, rfl⟩; (try rw [hn_c170_0] at h)
           refine ⟨_, _, (hP ▸ impl_neededParts_ok _ _ _ _ _ ht _ (by first | assumption | rfl) _ (by assumption) _ hn_c170_0 _ hg_c170_0 : CallOK P 170 _ _ _ _), ?_⟩; cbv)
        | ((with_reducible (have h0 : Option.bind (impl_areBoards.f _ _) _ = some _ := h; clear h0))
           refine ⟨[], ?_⟩; cbv
           repeat (first | (refine all_show (by first | omega | decide) ?_; cbv) | (refine all_showT (by assumption) (by assumption) (by assumption) (by first | assumption | exact lt_ix (by assumption) (by assumption) (by assumption) | exact lt_ix2 (by assumption) (by assumption) (by assumption) (by assumption) | exact lt_y (by assumption) (by assumption) | exact le_y (by assumption) | exact ge_y (by assumption) | exact cut_le (by assumption) (by assumption) | omega) (by first | assumption | exact cut_hi (by assumption) | exact cut_hi2 (by assumption) (by assumption) | omega) ?_; intro D hD hnD g hgD; (try rw [hD] at h); cbv))
           obtain ⟨t, ht, h'⟩ := bind_some h
           clear h; have h := h'; clear h'; (try dsimp only at h)
           refine ⟨_, _, (hP ▸ impl_areBoards_ok _ _ _ ht _ (by first | assumption | rfl) _ (by assumption)  : CallOK P 176 _ _ _ _), ?_⟩
           rcases t with _ | _ <;> (try simp only [bs, eq_self, if_true, if_false, reduceIte] at h) <;> (try (cases h; done)) <;> cbv))
    | ((with_reducible show ∃ _ : Nat → List V, _)
       first
        | (refine all_putS eI (by assumption) (by assumption) (by (first | assumption | exact lt_ix (by assumption) (by assumption) (by assumption) | exact lt_ix2 (by assumption) (by assumption) (by assumption) (by assumption) | exact lt_y (by assumption) (by assumption) | exact le_y (by assumption) | exact ge_y (by assumption) | exact cut_le (by assumption) (by assumption) | omega)) rfl (fun _ => rfl) ?_; intro L hL hnL g hgL; (try rw [hL] at h); (try rw [Option.bind_some] at h); (try rw [hnL] at h); cbv))
    | ((with_reducible show ∃ _ : Nat → St → Prop, _)
       first
        | (refine ⟨fun k1 s => ∃ x4 x13 x14 x15 n_x4 g_x4 n_x13 g_x13, impl_SumKit.l0 k1 x4 x13 x14 x15 = some (r0, r1) ∧ x4.length = n_x4 ∧ encL eI x4 = g_x4 ∧ x13.length = n_x13 ∧ encL e81 x13 = g_x13 ∧ s = ⟨⟨37, (upd 37 (upd 37 (upd 37 (upd 37 noT 15 (.val (.int .i64 x15))) 14 (.val (.int .i64 x14))) 13 (.fz 3 n_x13 g_x13)) 4 (.row 0 0 n_x4))⟩, [.row 3 1 n_x4 g_x4]⟩, ?_, [], ?_⟩
           rotate_left
           · cbv; exact ⟨_, [4, 13, 14, 15], by cbv; exact ⟨_, _, _, _, _, _, _, _, h, by first | assumption | rfl, by first | assumption | rfl, by first | assumption | rfl, by first | assumption | rfl, rfl⟩⟩
           clear h
           rintro (_ | k1) s1 ⟨x4, x13, x14, x15, n_x4, g_x4, n_x13, g_x13, h, hn_x4, hg_x4, hn_x13, hg_x13, rfl⟩
           · cases h
           unfold impl_SumKit.l0 at h
           (try rw [hn_x4] at h); (try rw [hn_x13] at h); skip
           cbv)
        | (refine ⟨fun k2 s => ∃ x4 x13 x14 x15 x20 x21 x22 n_x4 g_x4 n_x13 g_x13 n_x20 g_x20, impl_SumKit.l1 k2 x4 x13 x14 x15 x20 x21 x22 = some (r0, r1) ∧ k2 ≤ k1 ∧ x4.length = n_x4 ∧ encL eI x4 = g_x4 ∧ x13.length = n_x13 ∧ encL e81 x13 = g_x13 ∧ x20.length = n_x20 ∧ encL eI x20 = g_x20 ∧ s = ⟨⟨37, (upd 37 (upd 37 (upd 37 (upd 37 (upd 37 (upd 37 (upd 37 noT 22 (.val (.int .i64 x22))) 21 (.val (.int .i64 x21))) 20 (.row 1 0 n_x20)) 15 (.val (.int .i64 x15))) 14 (.val (.int .i64 x14))) 13 (.fz 3 n_x13 g_x13)) 4 (.row 0 0 n_x4))⟩, [.row 3 1 n_x4 g_x4, .row 3 1 n_x20 g_x20]⟩, ?_, [], ?_⟩
           rotate_left
           · cbv; exact ⟨_, [4, 13, 14, 15, 20, 21, 22], by cbv; exact ⟨_, _, _, _, _, _, _, _, _, _, _, _, _, h, by omega, by first | assumption | rfl, by first | assumption | rfl, by first | assumption | rfl, by first | assumption | rfl, by first | assumption | rfl, by first | assumption | rfl, rfl⟩⟩
           clear h
           rintro (_ | k2) s1 ⟨x4, x13, x14, x15, x20, x21, x22, n_x4, g_x4, n_x13, g_x13, n_x20, g_x20, h, hk2, hn_x4, hg_x4, hn_x13, hg_x13, hn_x20, hg_x20, rfl⟩
           · cases h
           unfold impl_SumKit.l1 at h
           (try rw [hn_x4] at h); (try rw [hn_x13] at h); (try rw [hn_x20] at h); skip
           cbv))
    | ((with_reducible show ∀ _ : Bool, _)
       first
        | (refine all_lt ?_ ?_ <;> (intro hd; first | exact absurd rfl hd | ((first | rw [if_pos hd] at h | rw [if_neg hd] at h | rw [if_pos (by omega)] at h | rw [if_neg (by omega)] at h | skip); (first | (rw [decide_eq_true hd] at h; (try simp only [bs, eq_self, if_true, if_false, reduceIte] at h)) | (rw [decide_eq_false hd] at h; (try simp only [bs, eq_self, if_true, if_false, reduceIte] at h)) | skip); cbv))))
    | ((with_reducible show ∀ _ : Int, _)
       first
        | (refine all_wrap ?_; intro y hy; (try rw [hy] at h); cbv)
        | (refine all_len ?_; intro y hy; (try replace hy : ((_ : Nat) : Int) = y := hy); (try rw [hy] at h); (try rw [show (NatCast.natCast _ : Int) = _ from hy] at h); cbv))
    | ((with_reducible show ∀ _ : Nat, _)
       first
        | (refine all_ix0_old (by assumption) ?_; cbv)
        | (refine all_ix0 ?_; intro q hq; (try rw [hq] at h); cbv)
        | (refine all_mk eI (0 : Int) 7 rfl rfl ?_; intro L hL hnL g hgL; (try rw [hL] at h); (try rw [Option.bind_some] at h); (try rw [hnL] at h); cbv))
    | ((with_reducible show ∀ _ : List V, _)
       first
        | (refine @all_rd _ _ eI rd ?_ ?_ ?_ _ _ _ (fun _ _ => rfl) ?_ ?_ ?_ ?_ ?_ ?_
           rotate_left 3
           assumption
           assumption
           (first | rfl | assumption)
           (first | assumption | exact lt_ix (by assumption) (by assumption) (by assumption) | exact lt_ix2 (by assumption) (by assumption) (by assumption) (by assumption) | exact lt_y (by assumption) (by assumption) | exact le_y (by assumption) | exact ge_y (by assumption) | exact cut_le (by assumption) (by assumption) | omega)
           (first | assumption | exact lt_ix (by assumption) (by assumption) (by assumption) | exact lt_ix2 (by assumption) (by assumption) (by assumption) (by assumption) | exact lt_y (by assumption) (by assumption) | exact le_y (by assumption) | exact ge_y (by assumption) | exact cut_le (by assumption) (by assumption) | omega)
           intro z hz
           (try rw [hz] at h); cbv)
        | (refine @all_rd81 ?_ ?_ ?_ _ _ _ ?_ ?_ ?_ ?_ ?_ ?_
           rotate_left 3
           assumption
           assumption
           (first | rfl | assumption)
           (first | assumption | exact lt_ix (by assumption) (by assumption) (by assumption) | exact lt_ix2 (by assumption) (by assumption) (by assumption) (by assumption) | exact lt_y (by assumption) (by assumption) | exact le_y (by assumption) | exact ge_y (by assumption) | exact cut_le (by assumption) (by assumption) | omega)
           (first | assumption | exact lt_ix (by assumption) (by assumption) (by assumption) | exact lt_ix2 (by assumption) (by assumption) (by assumption) (by assumption) | exact lt_y (by assumption) (by assumption) | exact le_y (by assumption) | exact ge_y (by assumption) | exact cut_le (by assumption) (by assumption) | omega)
           intro z hz n_z hn_z g_z hg_z; (try rw [hz] at h); (try rw [hn_z] at h); cbv))
    | (obtain ⟨hc, h'⟩ := if_none h; clear h; have h := h'; clear h')
    | (simp only [Option.some.injEq, Prod.mk.injEq] at h; obtain ⟨rfl, rfl⟩ := h)
    | ((with_reducible show ∃ _, _)
       refine side (by first | exact enc_same (by assumption) (by assumption) _ | exact take_s1 (by assumption) (by assumption) (by assumption) | exact take_s2 (by assumption) (by assumption) (by assumption) (by assumption) (by assumption) | exact take_s3 (by assumption) (by assumption) (by assumption) | exact take_s4 (by assumption) (by assumption) (by assumption) | (intro k hk; subst_vars; first | eq_refl | exact enc_drop | exact enc_take hk | exact absurd hk (Nat.not_lt_zero k)) | (subst_vars; first | eq_refl | (simp; done) | (simp; omega)) | (have h1 : Int.toNat 1 = 1 := rfl; have h2 := one_le (by assumption) (by assumption); simp only [List.length_append, List.length_nil, List.length_drop, h1] at *; omega) | (simp only [Nat.cast] at *; omega)) ?_; (try cbv)))

mutual
def spec_SumKit.l0 : Nat → List Int → List (S81) → Int → Int → Option (List Int × Bool)
  | 0, _, _, _, _ => none
  | k + 1, x4, x13, x14, x15 => if x15 < x14 then (if 0 ≤ x15 then (if x15 < (x13.length : Int) then ((spec_kiOf.f k ((rd_T81 x13 x15).f0) ((rd_T81 x13 x15).f1) ((rd_T81 x13 x15).f2)).bind fun t1532 => (spec_SumKit.l1 k x4 x13 x14 x15 t1532 (t1532.length : Int) 0)) else (none)) else (none)) else (some (x4, true))
def spec_SumKit.l1 : Nat → List Int → List (S81) → Int → Int → List Int → Int → Int → Option (List Int × Bool)
  | 0, _, _, _, _, _, _, _ => none
  | k + 1, x4, x13, x14, x15, x20, x21, x22 => if x22 < x21 then (if 0 ≤ x22 then (if x22 < (x20.length : Int) then (if x22 < (x4.length : Int) then (spec_SumKit.l1 k (x4.set (x22 : Int).toNat (wrap64 ((rd x4 x22) + (rd x20 x22)))) x13 x14 x15 x20 x21 (wrap64 (x22 + 1))) else (none)) else (none)) else (none)) else (spec_SumKit.l0 k x4 x13 x14 (wrap64 (x15 + 1)))
end
def spec_SumKit.f (k : Nat) (l0 : List (S81)) : Option (List Int × Bool) := (spec_kiBoards.f k l0).bind fun t1526 => (if t1526 = true then (if 7 ≤ 35184372088832 then (spec_SumKit.l0 k (List.replicate 7 0) l0 (l0.length : Int) 0) else (none)) else (some (([] : List Int), false)))

theorem spec_SumKit_ok (k : Nat) (l0 : List (S81)) (r0 : List Int) (r1 : Bool) (h : spec_SumKit.f k l0 = some (r0, r1)) (n_l0 : Nat) (hn_l0 : l0.length = n_l0) (g_l0 : Nat → List V) (hg_l0 : encL e81 l0 = g_l0) (n_r0 : Nat) (hn_r0 : r0.length = n_r0) (g_r0 : Nat → List V) (hg_r0 : encL eI r0 = g_r0) : CallOK Try.prog 75 [.fz 3 n_l0 g_l0] [] (.tup [.row 0 0 n_r0, .val (.bool r1)]) [.row 3 1 n_r0 g_r0] := by
  refine CallOK.of_code tabOK Try.func75 rfl rfl ⟨[(11, [4, 13, 14, 15, 20, 21, 22]), (12, [4, 13, 14, 15]), (13, [4])], []⟩ ?_
  unfold spec_SumKit.f at h
  obtain ⟨P, hP⟩ : ∃ P, Try.prog = P := ⟨_, rfl⟩
  rw [hP]
  (try rw [hn_l0] at h); skip
  cbv
  repeat' (first
    | ((with_reducible show ∃ _, _)
       first
        | (refine ⟨trivial, ?_⟩; cbv)
        | (refine side (by first | with_reducible eq_refl | assumption | (intro _ _; with_reducible eq_refl) | exact lt_ix (by assumption) (by assumption) (by assumption) | exact lt_ix2 (by assumption) (by assumption) (by assumption) (by assumption) | exact lt_y (by assumption) (by assumption) | exact le_y (by assumption) | exact ge_y (by assumption) | exact cut_le (by assumption) (by assumption) | omega) ?_; (try cbv))
        | (refine bind_side (Eq.refl _) ?_; (try cbv))
        | (refine ⟨.kept, side (Eq.refl _) (side (by first | trivial | exact ⟨clean_enc (by assumption) (by assumption) (fun _ => rfl), trivial⟩) ?_)⟩; cbv)
        | (refine ⟨Frz.own, ?_⟩; cbv)
        | (refine ⟨.row, ?_⟩; cbv))
    | ((with_reducible show ∃ _ : Nat, _)
       first
        | (refine ⟨_, [4, 13, 14, 15, 20, 21, 22], Nat.lt_succ_self _, ?_⟩; cbv; exact ⟨_, _, _, _, _, _, _, _, _, _, _, _, _, h, by omega, by first | assumption | rfl, by first | assumption | rfl, by first | assumption | rfl, by first | assumption | rfl, by first | assumption | rfl, by first | assumption | rfl, rfl⟩)
        | (refine ⟨k2, [4, 13, 14, 15], (by omega), ?_⟩; cbv; exact ⟨_, _, _, _, _, _, _, _, h, by first | assumption | rfl, by first | assumption | rfl, by first | assumption | rfl, by first | assumption | rfl, rfl⟩))
    | ((with_reducible show ∃ _ : List Nat, _)
       first
        | ((with_reducible (have h0 : Option.bind (spec_kiOf.f _ _ _ _) _ = some _ := h; clear h0))
           refine ⟨[], ?_⟩; cbv
           repeat (first | (refine all_show (by first | omega | decide) ?_; cbv) | (refine all_showT (by assumption) (by assumption) (by assumption) (by first | assumption | exact lt_ix (by assumption) (by assumption) (by assumption) | exact lt_ix2 (by assumption) (by assumption) (by assumption) (by assumption) | exact lt_y (by assumption) (by assumption) | exact le_y (by assumption) | exact ge_y (by assumption) | exact cut_le (by assumption) (by assumption) | omega) (by first | assumption | exact cut_hi (by assumption) | exact cut_hi2 (by assumption) (by assumption) | omega) ?_; intro D hD hnD g hgD; (try rw [hD] at h); cbv))
           obtain ⟨t, ht, h'⟩ := bind_some h
           clear h; have h := h'; clear h'; (try dsimp only at h)
           obtain ⟨n_c173_0, hn_c173_0⟩ : ∃ n, t.length = n := ⟨_, rfl⟩; obtain ⟨g_t, hg_c173_0⟩ : ∃ g, encL eI t = g := ⟨_, rfl⟩; (try rw [hn_c173_0] at h)
           refine ⟨_, _, (hP ▸ spec_kiOf_ok _ _ _ _ _ ht _ (by first | assumption | rfl) _ (by assumption) _ hn_c173_0 _ hg_c173_0 : CallOK P 173 _ _ _ _), ?_⟩; cbv)
        | ((with_reducible (have h0 : Option.bind (spec_kiBoards.f _ _) _ = some _ := h; clear h0))
           refine ⟨[], ?_⟩; cbv
           repeat (first | (refine all_show (by first | omega | decide) ?_; cbv) | (refine all_showT (by assumption) (by assumption) (by assumption) (by first | assumption | exact lt_ix (by assumption) (by assumption) (by assumption) | exact lt_ix2 (by assumption) (by assumption) (by assumption) (by assumption) | exact lt_y (by assumption) (by assumption) | exact le_y (by assumption) | exact ge_y (by assumption) | exact cut_le (by assumption) (by assumption) | omega) (by first | assumption | exact cut_hi (by assumption) | exact cut_hi2 (by assumption) (by assumption) | omega) ?_; intro D hD hnD g hgD; (try rw [hD] at h); cbv))
           obtain ⟨t, ht, h'⟩ := bind_some h
           clear h; have h := h'; clear h'; (try dsimp only at h)
           refine ⟨_, _, (hP ▸ spec_kiBoards_ok _ _ _ ht _ (by first | assumption | rfl) _ (by assumption)  : CallOK P 177 _ _ _ _), ?_⟩
           rcases t with _ | _ <;> (try simp only [bs, eq_self, if_true, if_false, reduceIte] at h) <;> (try (cases h; done)) <;> cbv))
    | ((with_reducible show ∃ _ : Nat → List V, _)
       first
        | (refine all_putS eI (by assumption) (by assumption) (by (first | assumption | exact lt_ix (by assumption) (by assumption) (by assumption) | exact lt_ix2 (by assumption) (by assumption) (by assumption) (by assumption) | exact lt_y (by assumption) (by assumption) | exact le_y (by assumption) | exact ge_y (by assumption) | exact cut_le (by assumption) (by assumption) | omega)) rfl (fun _ => rfl) ?_; intro L hL hnL g hgL; (try rw [hL] at h); (try rw [Option.bind_some] at h); (try rw [hnL] at h); cbv))
    | ((with_reducible show ∃ _ : Nat → St → Prop, _)
       first
        | (refine ⟨fun k1 s => ∃ x4 x13 x14 x15 n_x4 g_x4 n_x13 g_x13, spec_SumKit.l0 k1 x4 x13 x14 x15 = some (r0, r1) ∧ x4.length = n_x4 ∧ encL eI x4 = g_x4 ∧ x13.length = n_x13 ∧ encL e81 x13 = g_x13 ∧ s = ⟨⟨37, (upd 37 (upd 37 (upd 37 (upd 37 noT 15 (.val (.int .i64 x15))) 14 (.val (.int .i64 x14))) 13 (.fz 3 n_x13 g_x13)) 4 (.row 0 0 n_x4))⟩, [.row 3 1 n_x4 g_x4]⟩, ?_, [], ?_⟩
           rotate_left
           · cbv; exact ⟨_, [4, 13, 14, 15], by cbv; exact ⟨_, _, _, _, _, _, _, _, h, by first | assumption | rfl, by first | assumption | rfl, by first | assumption | rfl, by first | assumption | rfl, rfl⟩⟩
           clear h
           rintro (_ | k1) s1 ⟨x4, x13, x14, x15, n_x4, g_x4, n_x13, g_x13, h, hn_x4, hg_x4, hn_x13, hg_x13, rfl⟩
           · cases h
           unfold spec_SumKit.l0 at h
           (try rw [hn_x4] at h); (try rw [hn_x13] at h); skip
           cbv)
        | (refine ⟨fun k2 s => ∃ x4 x13 x14 x15 x20 x21 x22 n_x4 g_x4 n_x13 g_x13 n_x20 g_x20, spec_SumKit.l1 k2 x4 x13 x14 x15 x20 x21 x22 = some (r0, r1) ∧ k2 ≤ k1 ∧ x4.length = n_x4 ∧ encL eI x4 = g_x4 ∧ x13.length = n_x13 ∧ encL e81 x13 = g_x13 ∧ x20.length = n_x20 ∧ encL eI x20 = g_x20 ∧ s = ⟨⟨37, (upd 37 (upd 37 (upd 37 (upd 37 (upd 37 (upd 37 (upd 37 noT 22 (.val (.int .i64 x22))) 21 (.val (.int .i64 x21))) 20 (.row 1 0 n_x20)) 15 (.val (.int .i64 x15))) 14 (.val (.int .i64 x14))) 13 (.fz 3 n_x13 g_x13)) 4 (.row 0 0 n_x4))⟩, [.row 3 1 n_x4 g_x4, .row 3 1 n_x20 g_x20]⟩, ?_, [], ?_⟩
           rotate_left
           · cbv; exact ⟨_, [4, 13, 14, 15, 20, 21, 22], by cbv; exact ⟨_, _, _, _, _, _, _, _, _, _, _, _, _, h, by omega, by first | assumption | rfl, by first | assumption | rfl, by first | assumption | rfl, by first | assumption | rfl, by first | assumption | rfl, by first | assumption | rfl, rfl⟩⟩
           clear h
           rintro (_ | k2) s1 ⟨x4, x13, x14, x15, x20, x21, x22, n_x4, g_x4, n_x13, g_x13, n_x20, g_x20, h, hk2, hn_x4, hg_x4, hn_x13, hg_x13, hn_x20, hg_x20, rfl⟩
           · cases h
           unfold spec_SumKit.l1 at h
           (try rw [hn_x4] at h); (try rw [hn_x13] at h); (try rw [hn_x20] at h); skip
           cbv))
    | ((with_reducible show ∀ _ : Bool, _)
       first
        | (refine all_lt ?_ ?_ <;> (intro hd; first | exact absurd rfl hd | ((first | rw [if_pos hd] at h | rw [if_neg hd] at h | rw [if_pos (by omega)] at h | rw [if_neg (by omega)] at h | skip); (first | (rw [decide_eq_true hd] at h; (try simp only [bs, eq_self, if_true, if_false, reduceIte] at h)) | (rw [decide_eq_false hd] at h; (try simp only [bs, eq_self, if_true, if_false, reduceIte] at h)) | skip); cbv))))
    | ((with_reducible show ∀ _ : Int, _)
       first
        | (refine all_wrap ?_; intro y hy; (try rw [hy] at h); cbv)
        | (refine all_len ?_; intro y hy; (try replace hy : ((_ : Nat) : Int) = y := hy); (try rw [hy] at h); (try rw [show (NatCast.natCast _ : Int) = _ from hy] at h); cbv))
    | ((with_reducible show ∀ _ : Nat, _)
       first
        | (refine all_ix0_old (by assumption) ?_; cbv)
        | (refine all_ix0 ?_; intro q hq; (try rw [hq] at h); cbv)
        | (refine all_mk eI (0 : Int) 7 rfl rfl ?_; intro L hL hnL g hgL; (try rw [hL] at h); (try rw [Option.bind_some] at h); (try rw [hnL] at h); cbv))
    | ((with_reducible show ∀ _ : List V, _)
       first
        | (refine @all_rd _ _ eI rd ?_ ?_ ?_ _ _ _ (fun _ _ => rfl) ?_ ?_ ?_ ?_ ?_ ?_
           rotate_left 3
           assumption
           assumption
           (first | rfl | assumption)
           (first | assumption | exact lt_ix (by assumption) (by assumption) (by assumption) | exact lt_ix2 (by assumption) (by assumption) (by assumption) (by assumption) | exact lt_y (by assumption) (by assumption) | exact le_y (by assumption) | exact ge_y (by assumption) | exact cut_le (by assumption) (by assumption) | omega)
           (first | assumption | exact lt_ix (by assumption) (by assumption) (by assumption) | exact lt_ix2 (by assumption) (by assumption) (by assumption) (by assumption) | exact lt_y (by assumption) (by assumption) | exact le_y (by assumption) | exact ge_y (by assumption) | exact cut_le (by assumption) (by assumption) | omega)
           intro z hz
           (try rw [hz] at h); cbv)
        | (refine @all_rd81 ?_ ?_ ?_ _ _ _ ?_ ?_ ?_ ?_ ?_ ?_
           rotate_left 3
           assumption
           assumption
           (first | rfl | assumption)
           (first | assumption | exact lt_ix (by assumption) (by assumption) (by assumption) | exact lt_ix2 (by assumption) (by assumption) (by assumption) (by assumption) | exact lt_y (by assumption) (by assumption) | exact le_y (by assumption) | exact ge_y (by assumption) | exact cut_le (by assumption) (by assumption) | omega)
           (first | assumption | exact lt_ix (by assumption) (by assumption) (by assumption) | exact lt_ix2 (by assumption) (by assumption) (by assumption) (by assumption) | exact lt_y (by assumption) (by assumption) | exact le_y (by assumption) | exact ge_y (by assumption) | exact cut_le (by assumption) (by assumption) | omega)
           intro z hz n_z hn_z g_z hg_z; (try rw [hz] at h); (try rw [hn_z] at h); cbv))
    | (obtain ⟨hc, h'⟩ := if_none h; clear h; have h := h'; clear h')
    | (simp only [Option.some.injEq, Prod.mk.injEq] at h; obtain ⟨rfl, rfl⟩ := h)
    | ((with_reducible show ∃ _, _)
       refine side (by first | exact enc_same (by assumption) (by assumption) _ | exact take_s1 (by assumption) (by assumption) (by assumption) | exact take_s2 (by assumption) (by assumption) (by assumption) (by assumption) (by assumption) | exact take_s3 (by assumption) (by assumption) (by assumption) | exact take_s4 (by assumption) (by assumption) (by assumption) | (intro k hk; subst_vars; first | eq_refl | exact enc_drop | exact enc_take hk | exact absurd hk (Nat.not_lt_zero k)) | (subst_vars; first | eq_refl | (simp; done) | (simp; omega)) | (have h1 : Int.toNat 1 = 1 := rfl; have h2 := one_le (by assumption) (by assumption); simp only [List.length_append, List.length_nil, List.length_drop, h1] at *; omega) | (simp only [Nat.cast] at *; omega)) ?_; (try cbv)))

end Go.Proofs.Ythhoobpmjgpkkaa.E
