/- The functions and what they answer, proved over the engine; printed by a program. -/
import Derived.Test.YthhoobpmjgpkkaaQS
set_option linter.unusedVariables false
set_option linter.unusedSimpArgs false
set_option maxRecDepth 10000
set_option maxHeartbeats 40000000
namespace Go.Proofs.Ythhoobpmjgpkkaa.E
open Go Go.Sim Go.Proofs Go.RowKit Go.Proofs.YthhoobpmjgpkkaaW.PrintWords Go.Proofs.YthhoobpmjgpkkaaW.PrintMore
def laws_big.f (l0 : List Int) (l1 : List Int) : Option (Bool) := if (l0.length : Int) > 1048576 then (some true) else (some (decide ((l1.length : Int) > (wrap64 (1048576 - (l0.length : Int))))))

theorem laws_big_ok  (l0 : List Int) (l1 : List Int) (r0 : Bool) (h : laws_big.f l0 l1 = some r0) (n_l0 : Nat) (hn_l0 : l0.length = n_l0) (g_l0 : Nat → List V) (hg_l0 : encL eU l0 = g_l0) (n_l1 : Nat) (hn_l1 : l1.length = n_l1) (g_l1 : Nat → List V) (hg_l1 : encL eU l1 = g_l1)  : CallOK Try.prog 38 [.fz 1 n_l0 g_l0, .fz 1 n_l1 g_l1] [] (.val (.bool r0)) [] := by
  refine CallOK.of_code tabOK Try.func38 rfl rfl ⟨[], []⟩ ?_
  unfold laws_big.f at h
  obtain ⟨P, hP⟩ : ∃ P, Try.prog = P := ⟨_, rfl⟩
  rw [hP]
  (try rw [hn_l0] at h); (try rw [hn_l1] at h); skip
  cbv
  repeat' (first
    | ((with_reducible show ∃ _, _)
       first
        | (refine ⟨trivial, ?_⟩; cbv)
        | (refine side (by first | with_reducible eq_refl | assumption | (intro _ _; with_reducible eq_refl) | exact lt_ix (by assumption) (by assumption) (by assumption) | exact lt_ix2 (by assumption) (by assumption) (by assumption) (by assumption) | exact lt_y (by assumption) (by assumption) | exact le_y (by assumption) | exact ge_y (by assumption) | exact cut_le (by assumption) (by assumption) | omega) ?_; (try cbv)))
    | ((with_reducible show ∀ _ : Bool, _)
       first
        | (refine all_lt ?_ ?_ <;> (intro hd; first | exact absurd rfl hd | ((first | rw [if_pos hd] at h | rw [if_neg hd] at h | rw [if_pos (by omega)] at h | rw [if_neg (by omega)] at h | skip); (first | (rw [decide_eq_true hd] at h; (try simp only [bs, eq_self, if_true, if_false, reduceIte] at h)) | (rw [decide_eq_false hd] at h; (try simp only [bs, eq_self, if_true, if_false, reduceIte] at h)) | skip); cbv))))
    | ((with_reducible show ∀ _ : Int, _)
       first
        | (refine all_wrap ?_; intro y hy; (try rw [hy] at h); cbv)
        | (refine all_len_old (by assumption) ?_; cbv)
        | (refine all_len ?_; intro y hy; (try replace hy : ((_ : Nat) : Int) = y := hy); (try rw [hy] at h); (try rw [show (NatCast.natCast _ : Int) = _ from hy] at h); cbv))
    | (simp only [Option.some.injEq, Prod.mk.injEq] at h; subst h)
    | trivial)

def laws_sameInts.l0 : Nat → List Int → List Int → Int → Int → Option (Bool)
  | 0, _, _, _, _ => none
  | k + 1, x0, x1, x12, x13 => if x13 < x12 then (if 0 ≤ x13 then (if x13 < (x0.length : Int) then (if x13 < (x1.length : Int) then (if (rd x0 x13) = (rd x1 x13) then (laws_sameInts.l0 k x0 x1 x12 (wrap64 (x13 + 1))) else (some false)) else (none)) else (none)) else (none)) else (some true)
def laws_sameInts.f (k : Nat) (l0 : List Int) (l1 : List Int) : Option (Bool) := if (l0.length : Int) = (l1.length : Int) then (laws_sameInts.l0 k l0 l1 (l0.length : Int) 0) else (some false)

theorem laws_sameInts_ok (k : Nat) (l0 : List Int) (l1 : List Int) (r0 : Bool) (h : laws_sameInts.f k l0 l1 = some r0) (n_l0 : Nat) (hn_l0 : l0.length = n_l0) (g_l0 : Nat → List V) (hg_l0 : encL eI l0 = g_l0) (n_l1 : Nat) (hn_l1 : l1.length = n_l1) (g_l1 : Nat → List V) (hg_l1 : encL eI l1 = g_l1)  : CallOK Try.prog 42 [.fz 1 n_l0 g_l0, .fz 1 n_l1 g_l1] [] (.val (.bool r0)) [] := by
  refine CallOK.of_code tabOK Try.func42 rfl rfl ⟨[(7, []), (8, [0, 1, 12, 13]), (9, [])], []⟩ ?_
  unfold laws_sameInts.f at h
  obtain ⟨P, hP⟩ : ∃ P, Try.prog = P := ⟨_, rfl⟩
  rw [hP]
  (try rw [hn_l0] at h); (try rw [hn_l1] at h); skip
  cbv
  repeat' (first
    | ((with_reducible show ∃ _, _)
       first
        | (refine ⟨trivial, ?_⟩; cbv)
        | (refine side (by first | with_reducible eq_refl | assumption | (intro _ _; with_reducible eq_refl) | exact lt_ix (by assumption) (by assumption) (by assumption) | exact lt_ix2 (by assumption) (by assumption) (by assumption) (by assumption) | exact lt_y (by assumption) (by assumption) | exact le_y (by assumption) | exact ge_y (by assumption) | exact cut_le (by assumption) (by assumption) | omega) ?_; (try cbv))
        | (refine ⟨.still 9, side (by decide +kernel) ?_⟩; cbv))
    | ((with_reducible show ∃ _ : Nat, _)
       first
        | (refine ⟨_, [0, 1, 12, 13], Nat.lt_succ_self _, ?_⟩; cbv; exact ⟨_, _, _, _, _, _, _, _, h, by first | assumption | rfl, by first | assumption | rfl, by first | assumption | rfl, by first | assumption | rfl, rfl⟩))
    | ((with_reducible show ∃ _ : Nat → St → Prop, _)
       first
        | (refine ⟨fun k1 s => ∃ x0 x1 x12 x13 n_x0 g_x0 n_x1 g_x1, laws_sameInts.l0 k1 x0 x1 x12 x13 = some r0 ∧ x0.length = n_x0 ∧ encL eI x0 = g_x0 ∧ x1.length = n_x1 ∧ encL eI x1 = g_x1 ∧ s = ⟨⟨26, (upd 26 (upd 26 (upd 26 (upd 26 noT 13 (.val (.int .i64 x13))) 12 (.val (.int .i64 x12))) 1 (.fz 1 n_x1 g_x1)) 0 (.fz 1 n_x0 g_x0))⟩, []⟩, ?_, [], ?_⟩
           rotate_left
           · cbv; exact ⟨_, [0, 1, 12, 13], by cbv; exact ⟨_, _, _, _, _, _, _, _, h, by first | assumption | rfl, by first | assumption | rfl, by first | assumption | rfl, by first | assumption | rfl, rfl⟩⟩
           clear h
           rintro (_ | k1) s1 ⟨x0, x1, x12, x13, n_x0, g_x0, n_x1, g_x1, h, hn_x0, hg_x0, hn_x1, hg_x1, rfl⟩
           · cases h
           unfold laws_sameInts.l0 at h
           (try rw [hn_x0] at h); (try rw [hn_x1] at h); skip
           cbv))
    | ((with_reducible show ∀ _ : Bool, _)
       first
        | (refine all_lt ?_ ?_ <;> (intro hd; first | exact absurd rfl hd | ((first | rw [if_pos hd] at h | rw [if_neg hd] at h | rw [if_pos (by omega)] at h | rw [if_neg (by omega)] at h | skip); (first | (rw [decide_eq_true hd] at h; (try simp only [bs, eq_self, if_true, if_false, reduceIte] at h)) | (rw [decide_eq_false hd] at h; (try simp only [bs, eq_self, if_true, if_false, reduceIte] at h)) | skip); cbv)))
        | (refine all_bne ?_ ?_ <;> (intro hd; first | exact absurd rfl hd | ((first | rw [if_pos hd] at h | rw [if_neg hd] at h | rw [if_pos (by omega)] at h | rw [if_neg (by omega)] at h | skip); (first | (rw [bne_pos hd] at h; (try simp only [bs, eq_self, if_true, if_false, reduceIte] at h)) | (rw [bne_neg hd] at h; (try simp only [bs, eq_self, if_true, if_false, reduceIte] at h)) | skip); cbv))))
    | ((with_reducible show ∀ _ : Int, _)
       first
        | (refine all_wrap ?_; intro y hy; (try rw [hy] at h); cbv)
        | (refine all_len_old (by assumption) ?_; cbv)
        | (refine all_len ?_; intro y hy; (try replace hy : ((_ : Nat) : Int) = y := hy); (try rw [hy] at h); (try rw [show (NatCast.natCast _ : Int) = _ from hy] at h); cbv))
    | ((with_reducible show ∀ _ : List V, _)
       first
        | (refine @all_rd _ _ eI rd ?_ ?_ ?_ _ _ _ (fun _ _ => rfl) ?_ ?_ ?_ ?_ ?_ ?_
           rotate_left 3
           assumption
           assumption
           (first | rfl | assumption)
           (first | assumption | exact lt_ix (by assumption) (by assumption) (by assumption) | exact lt_ix2 (by assumption) (by assumption) (by assumption) (by assumption) | exact lt_y (by assumption) (by assumption) | exact le_y (by assumption) | exact ge_y (by assumption) | exact cut_le (by assumption) (by assumption) | omega)
           (first | assumption | exact lt_ix (by assumption) (by assumption) (by assumption) | exact lt_ix2 (by assumption) (by assumption) (by assumption) (by assumption) | exact lt_y (by assumption) (by assumption) | exact le_y (by assumption) | exact ge_y (by assumption) | exact cut_le (by assumption) (by assumption) | omega)
           intro z hz
           (try rw [hz] at h); cbv))
    | (obtain ⟨hc, h'⟩ := if_none h; clear h; have h := h'; clear h')
    | (simp only [Option.some.injEq, Prod.mk.injEq] at h; subst h)
    | trivial)

def spec_l1Cur_next.f (s0_0 : List Int) (s0_1 : Int) (s0_2 : Int) : Option (Int × Int × Int) := if s0_1 < (s0_0.length : Int) then (if 0 ≤ s0_1 then (if (wrap64 (s0_1 + 1)) ≤ (s0_0.length : Int) then (some (wrap64 (rd s0_0 s0_1), wrap64 (s0_1 + 1), IntKind.u64.wrap ((IntKind.u64.wrap ((IntKind.u64.wrap (s0_2 * 6364136223846793005)) + (IntKind.u64.wrap (wrap64 (rd s0_0 s0_1))))) + 1442695040888963407))) else (some (wrap64 (Go.bits .and .u64 ((IntKind.u64.wrap ((IntKind.u64.wrap ((IntKind.u64.wrap (s0_2 * 6364136223846793005)) + (IntKind.u64.wrap (wrap64 (rd s0_0 s0_1))))) + 1442695040888963407)) / 1099511627776) 255), wrap64 (s0_1 + 1), IntKind.u64.wrap ((IntKind.u64.wrap ((IntKind.u64.wrap (s0_2 * 6364136223846793005)) + (IntKind.u64.wrap (wrap64 (rd s0_0 s0_1))))) + 1442695040888963407)))) else (none)) else (if (wrap64 (s0_1 + 1)) ≤ (s0_0.length : Int) then (some (0, wrap64 (s0_1 + 1), IntKind.u64.wrap ((IntKind.u64.wrap ((IntKind.u64.wrap (s0_2 * 6364136223846793005)) + 0)) + 1442695040888963407))) else (some (wrap64 (Go.bits .and .u64 ((IntKind.u64.wrap ((IntKind.u64.wrap ((IntKind.u64.wrap (s0_2 * 6364136223846793005)) + 0)) + 1442695040888963407)) / 1099511627776) 255), wrap64 (s0_1 + 1), IntKind.u64.wrap ((IntKind.u64.wrap ((IntKind.u64.wrap (s0_2 * 6364136223846793005)) + 0)) + 1442695040888963407))))

theorem spec_l1Cur_next_ok  (s0_0 : List Int) (s0_1 : Int) (s0_2 : Int) (r0 : Int) (r1 : Int) (r2 : Int) (h : spec_l1Cur_next.f s0_0 s0_1 s0_2 = some (r0, r1, r2)) (n_s0_0 : Nat) (hn_s0_0 : s0_0.length = n_s0_0) (g_s0_0 : Nat → List V) (hg_s0_0 : encL eU s0_0 = g_s0_0)  : CallOK Try.prog 199 [.ptr 0 0] [.box 139 [.fz 1 n_s0_0 g_s0_0, .val (.int .i64 s0_1), .val (.int .u64 s0_2)]] (.val (.int .i64 r0)) [.box 139 [.fz 1 n_s0_0 g_s0_0, .val (.int .i64 r1), .val (.int .u64 r2)]] := by
  refine CallOK.of_code tabOK Try.func199 rfl rfl ⟨[(3, [0]), (4, [0, 3]), (6, [0, 3]), (7, [3]), (8, [0])], []⟩ ?_
  unfold spec_l1Cur_next.f at h
  obtain ⟨P, hP⟩ : ∃ P, Try.prog = P := ⟨_, rfl⟩
  rw [hP]
  (try rw [hn_s0_0] at h); skip
  cbv
  repeat' (first
    | ((with_reducible show ∃ _, _)
       first
        | (refine ⟨trivial, ?_⟩; cbv)
        | (refine side (by first | with_reducible eq_refl | assumption | (intro _ _; with_reducible eq_refl) | exact lt_ix (by assumption) (by assumption) (by assumption) | exact lt_ix2 (by assumption) (by assumption) (by assumption) (by assumption) | exact lt_y (by assumption) (by assumption) | exact le_y (by assumption) | exact ge_y (by assumption) | exact cut_le (by assumption) (by assumption) | omega) ?_; (try cbv))
        | (refine ⟨.still 10, side (by decide +kernel) ?_⟩; cbv))
    | ((with_reducible show ∀ _ : Bool, _)
       first
        | (refine all_lt ?_ ?_ <;> (intro hd; first | exact absurd rfl hd | ((first | rw [if_pos hd] at h | rw [if_neg hd] at h | rw [if_pos (by omega)] at h | rw [if_neg (by omega)] at h | skip); (first | (rw [decide_eq_true hd] at h; (try simp only [bs, eq_self, if_true, if_false, reduceIte] at h)) | (rw [decide_eq_false hd] at h; (try simp only [bs, eq_self, if_true, if_false, reduceIte] at h)) | skip); cbv)))
        | (refine all_le ?_ ?_ <;> (intro hd; first | exact absurd rfl hd | ((first | rw [if_pos hd] at h | rw [if_neg hd] at h | rw [if_pos (by omega)] at h | rw [if_neg (by omega)] at h | skip); (first | (rw [decide_eq_true hd] at h; (try simp only [bs, eq_self, if_true, if_false, reduceIte] at h)) | (rw [decide_eq_false hd] at h; (try simp only [bs, eq_self, if_true, if_false, reduceIte] at h)) | skip); cbv))))
    | ((with_reducible show ∀ _ : Int, _)
       first
        | (refine all_u0 ?_; cbv)
        | (refine all_shr40 ?_; intro y hy; (try rw [hy] at h); cbv)
        | (refine all_and ?_; intro y hy; (try rw [hy] at h); cbv)
        | (refine all_wrap ?_; intro y hy; (try rw [hy] at h); cbv)
        | (refine all_len_old (by assumption) ?_; cbv)
        | (refine all_len ?_; intro y hy; (try replace hy : ((_ : Nat) : Int) = y := hy); (try rw [hy] at h); (try rw [show (NatCast.natCast _ : Int) = _ from hy] at h); cbv)
        | (refine all_eq (α := Int) ?_; intro y hy; (try replace hy : ((_ : Nat) : Int) = y := hy); (try rw [hy] at h); cbv))
    | ((with_reducible show ∀ _ : List V, _)
       first
        | (refine @all_rd _ _ eU rd ?_ ?_ ?_ _ _ _ (fun _ _ => rfl) ?_ ?_ ?_ ?_ ?_ ?_
           rotate_left 3
           assumption
           assumption
           (first | rfl | assumption)
           (first | assumption | exact lt_ix (by assumption) (by assumption) (by assumption) | exact lt_ix2 (by assumption) (by assumption) (by assumption) (by assumption) | exact lt_y (by assumption) (by assumption) | exact le_y (by assumption) | exact ge_y (by assumption) | exact cut_le (by assumption) (by assumption) | omega)
           (first | assumption | exact lt_ix (by assumption) (by assumption) (by assumption) | exact lt_ix2 (by assumption) (by assumption) (by assumption) (by assumption) | exact lt_y (by assumption) (by assumption) | exact le_y (by assumption) | exact ge_y (by assumption) | exact cut_le (by assumption) (by assumption) | omega)
           intro z hz
           (try rw [hz] at h); cbv))
    | (obtain ⟨hc, h'⟩ := if_none h; clear h; have h := h'; clear h')
    | (simp only [Option.some.injEq, Prod.mk.injEq] at h; obtain ⟨rfl, rfl, rfl⟩ := h)
    | trivial)

def spec_l1Cur_pick.f (s0_0 : List Int) (s0_1 : Int) (s0_2 : Int) (a1 : Int) : Option (Int × Int × Int) := if a1 ≤ 1 then (some (0, s0_1, s0_2)) else ((spec_l1Cur_next.f s0_0 s0_1 s0_2).bind fun bt102 => (if a1 > 200 then ((spec_l1Cur_next.f s0_0 bt102.2.1 bt102.2.2).bind fun bt105 => (if a1 = 0 then (none) else (some (Int.tmod (wrap64 ((wrap64 (bt102.1 * 256)) + bt105.1)) a1, bt105.2.1, bt105.2.2)))) else (if a1 = 0 then (none) else (some (Int.tmod bt102.1 a1, bt102.2.1, bt102.2.2)))))

theorem spec_l1Cur_pick_ok  (s0_0 : List Int) (s0_1 : Int) (s0_2 : Int) (a1 : Int) (r0 : Int) (r1 : Int) (r2 : Int) (h : spec_l1Cur_pick.f s0_0 s0_1 s0_2 a1 = some (r0, r1, r2)) (n_s0_0 : Nat) (hn_s0_0 : s0_0.length = n_s0_0) (g_s0_0 : Nat → List V) (hg_s0_0 : encL eU s0_0 = g_s0_0)  : CallOK Try.prog 122 [.ptr 0 0, .val (.int .i64 a1)] [.box 139 [.fz 1 n_s0_0 g_s0_0, .val (.int .i64 s0_1), .val (.int .u64 s0_2)]] (.val (.int .i64 r0)) [.box 139 [.fz 1 n_s0_0 g_s0_0, .val (.int .i64 r1), .val (.int .u64 r2)]] := by
  refine CallOK.of_code tabOK Try.func122 rfl rfl ⟨[(6, [1, 5])], []⟩ ?_
  unfold spec_l1Cur_pick.f at h
  obtain ⟨P, hP⟩ : ∃ P, Try.prog = P := ⟨_, rfl⟩
  rw [hP]
  (try rw [hn_s0_0] at h); skip
  cbv
  repeat' (first
    | ((with_reducible show ∃ _, _)
       first
        | (refine ⟨trivial, ?_⟩; cbv)
        | (refine side (by first | with_reducible eq_refl | assumption | (intro _ _; with_reducible eq_refl) | exact lt_ix (by assumption) (by assumption) (by assumption) | exact lt_ix2 (by assumption) (by assumption) (by assumption) (by assumption) | exact lt_y (by assumption) (by assumption) | exact le_y (by assumption) | exact ge_y (by assumption) | exact cut_le (by assumption) (by assumption) | omega) ?_; (try cbv))
        | (refine ⟨Frz.own, ?_⟩; cbv))
    | ((with_reducible show ∃ _ : List Nat, _)
       first
        | ((with_reducible (have h0 : Option.bind (spec_l1Cur_next.f _ _ _) _ = some _ := h; clear h0))
           refine ⟨[0], ?_⟩; cbv
           repeat (first | (refine all_show (by first | omega | decide) ?_; cbv) | (refine all_showT (by assumption) (by assumption) (by assumption) (by first | assumption | exact lt_ix (by assumption) (by assumption) (by assumption) | exact lt_ix2 (by assumption) (by assumption) (by assumption) (by assumption) | exact lt_y (by assumption) (by assumption) | exact le_y (by assumption) | exact ge_y (by assumption) | exact cut_le (by assumption) (by assumption) | omega) (by first | assumption | exact cut_hi (by assumption) | exact cut_hi2 (by assumption) (by assumption) | omega) ?_; intro D hD hnD g hgD; (try rw [hD] at h); cbv))
           obtain ⟨⟨t0, t1, t2⟩, ht, h'⟩ := bind_some h
           clear h; have h := h'; clear h'; (try dsimp only at h)
           refine ⟨_, _, (hP ▸ spec_l1Cur_next_ok _ _ _ _ _ _ ht _ (by first | assumption | rfl) _ (by assumption)  : CallOK P 199 _ _ _ _), ?_⟩; cbv))
    | ((with_reducible show ∀ _ : Bool, _)
       first
        | (refine all_lt ?_ ?_ <;> (intro hd; first | exact absurd rfl hd | ((first | rw [if_pos hd] at h | rw [if_neg hd] at h | rw [if_pos (by omega)] at h | rw [if_neg (by omega)] at h | skip); (first | (rw [decide_eq_true hd] at h; (try simp only [bs, eq_self, if_true, if_false, reduceIte] at h)) | (rw [decide_eq_false hd] at h; (try simp only [bs, eq_self, if_true, if_false, reduceIte] at h)) | skip); cbv)))
        | (refine all_le ?_ ?_ <;> (intro hd; first | exact absurd rfl hd | ((first | rw [if_pos hd] at h | rw [if_neg hd] at h | rw [if_pos (by omega)] at h | rw [if_neg (by omega)] at h | skip); (first | (rw [decide_eq_true hd] at h; (try simp only [bs, eq_self, if_true, if_false, reduceIte] at h)) | (rw [decide_eq_false hd] at h; (try simp only [bs, eq_self, if_true, if_false, reduceIte] at h)) | skip); cbv))))
    | ((with_reducible show ∀ _ : Int, _)
       first
        | (refine all_wrap ?_; intro y hy; (try rw [hy] at h); cbv)
        | (refine all_eq (α := Int) ?_; intro y hy; (try replace hy : ((_ : Nat) : Int) = y := hy); (try rw [hy] at h); cbv))
    | (obtain ⟨hc, h'⟩ := if_none' h; clear h; have h := h'; clear h')
    | (simp only [Option.some.injEq, Prod.mk.injEq] at h; obtain ⟨rfl, rfl, rfl⟩ := h)
    | trivial)

def spec_l1Cur_among.f (s0_0 : List Int) (s0_1 : Int) (s0_2 : Int) (l1 : List Int) : Option (Int × Int × Int) := (spec_l1Cur_pick.f s0_0 s0_1 s0_2 (l1.length : Int)).bind fun bt108 => (if 0 ≤ bt108.1 then (if bt108.1 < (l1.length : Int) then (some (rd l1 bt108.1, bt108.2.1, bt108.2.2)) else (none)) else (none))

theorem spec_l1Cur_among_ok  (s0_0 : List Int) (s0_1 : Int) (s0_2 : Int) (l1 : List Int) (r0 : Int) (r1 : Int) (r2 : Int) (h : spec_l1Cur_among.f s0_0 s0_1 s0_2 l1 = some (r0, r1, r2)) (n_s0_0 : Nat) (hn_s0_0 : s0_0.length = n_s0_0) (g_s0_0 : Nat → List V) (hg_s0_0 : encL eU s0_0 = g_s0_0) (n_l1 : Nat) (hn_l1 : l1.length = n_l1) (g_l1 : Nat → List V) (hg_l1 : encL eI l1 = g_l1)  : CallOK Try.prog 136 [.ptr 0 0, .fz 1 n_l1 g_l1] [.box 139 [.fz 1 n_s0_0 g_s0_0, .val (.int .i64 s0_1), .val (.int .u64 s0_2)]] (.val (.int .i64 r0)) [.box 139 [.fz 1 n_s0_0 g_s0_0, .val (.int .i64 r1), .val (.int .u64 r2)]] := by
  refine CallOK.of_code tabOK Try.func136 rfl rfl ⟨[], []⟩ ?_
  unfold spec_l1Cur_among.f at h
  obtain ⟨P, hP⟩ : ∃ P, Try.prog = P := ⟨_, rfl⟩
  rw [hP]
  (try rw [hn_s0_0] at h); (try rw [hn_l1] at h); skip
  cbv
  repeat' (first
    | ((with_reducible show ∃ _, _)
       first
        | (refine ⟨trivial, ?_⟩; cbv)
        | (refine side (by first | with_reducible eq_refl | assumption | (intro _ _; with_reducible eq_refl) | exact lt_ix (by assumption) (by assumption) (by assumption) | exact lt_ix2 (by assumption) (by assumption) (by assumption) (by assumption) | exact lt_y (by assumption) (by assumption) | exact le_y (by assumption) | exact ge_y (by assumption) | exact cut_le (by assumption) (by assumption) | omega) ?_; (try cbv))
        | (refine ⟨Frz.own, ?_⟩; cbv))
    | ((with_reducible show ∃ _ : List Nat, _)
       first
        | ((with_reducible (have h0 : Option.bind (spec_l1Cur_pick.f _ _ _ _) _ = some _ := h; clear h0))
           refine ⟨[0], ?_⟩; cbv
           repeat (first | (refine all_show (by first | omega | decide) ?_; cbv) | (refine all_showT (by assumption) (by assumption) (by assumption) (by first | assumption | exact lt_ix (by assumption) (by assumption) (by assumption) | exact lt_ix2 (by assumption) (by assumption) (by assumption) (by assumption) | exact lt_y (by assumption) (by assumption) | exact le_y (by assumption) | exact ge_y (by assumption) | exact cut_le (by assumption) (by assumption) | omega) (by first | assumption | exact cut_hi (by assumption) | exact cut_hi2 (by assumption) (by assumption) | omega) ?_; intro D hD hnD g hgD; (try rw [hD] at h); cbv))
           obtain ⟨⟨t0, t1, t2⟩, ht, h'⟩ := bind_some h
           clear h; have h := h'; clear h'; (try dsimp only at h)
           refine ⟨_, _, (hP ▸ spec_l1Cur_pick_ok _ _ _ _ _ _ _ ht _ (by first | assumption | rfl) _ (by assumption)  : CallOK P 122 _ _ _ _), ?_⟩; cbv))
    | ((with_reducible show ∀ _ : Int, _)
       first
        | (refine all_len ?_; intro y hy; (try replace hy : ((_ : Nat) : Int) = y := hy); (try rw [hy] at h); (try rw [show (NatCast.natCast _ : Int) = _ from hy] at h); cbv))
    | ((with_reducible show ∀ _ : List V, _)
       first
        | (refine @all_rd _ _ eI rd ?_ ?_ ?_ _ _ _ (fun _ _ => rfl) ?_ ?_ ?_ ?_ ?_ ?_
           rotate_left 3
           assumption
           assumption
           (first | rfl | assumption)
           (first | assumption | exact lt_ix (by assumption) (by assumption) (by assumption) | exact lt_ix2 (by assumption) (by assumption) (by assumption) (by assumption) | exact lt_y (by assumption) (by assumption) | exact le_y (by assumption) | exact ge_y (by assumption) | exact cut_le (by assumption) (by assumption) | omega)
           (first | assumption | exact lt_ix (by assumption) (by assumption) (by assumption) | exact lt_ix2 (by assumption) (by assumption) (by assumption) (by assumption) | exact lt_y (by assumption) (by assumption) | exact le_y (by assumption) | exact ge_y (by assumption) | exact cut_le (by assumption) (by assumption) | omega)
           intro z hz
           (try rw [hz] at h); cbv))
    | (obtain ⟨hc, h'⟩ := if_none h; clear h; have h := h'; clear h')
    | (simp only [Option.some.injEq, Prod.mk.injEq] at h; obtain ⟨rfl, rfl, rfl⟩ := h)
    | trivial)

def spec_l1Cur_one.f (s0_0 : List Int) (s0_1 : Int) (s0_2 : Int) (a1 : Int) : Option (Bool × Int × Int) := (spec_l1Cur_pick.f s0_0 s0_1 s0_2 a1).bind fun bt112 => (some ((bt112.1 == 0), bt112.2.1, bt112.2.2))

theorem spec_l1Cur_one_ok  (s0_0 : List Int) (s0_1 : Int) (s0_2 : Int) (a1 : Int) (r0 : Bool) (r1 : Int) (r2 : Int) (h : spec_l1Cur_one.f s0_0 s0_1 s0_2 a1 = some (r0, r1, r2)) (n_s0_0 : Nat) (hn_s0_0 : s0_0.length = n_s0_0) (g_s0_0 : Nat → List V) (hg_s0_0 : encL eU s0_0 = g_s0_0)  : CallOK Try.prog 121 [.ptr 0 0, .val (.int .i64 a1)] [.box 139 [.fz 1 n_s0_0 g_s0_0, .val (.int .i64 s0_1), .val (.int .u64 s0_2)]] (.val (.bool r0)) [.box 139 [.fz 1 n_s0_0 g_s0_0, .val (.int .i64 r1), .val (.int .u64 r2)]] := by
  refine CallOK.of_code tabOK Try.func121 rfl rfl ⟨[], []⟩ ?_
  unfold spec_l1Cur_one.f at h
  obtain ⟨P, hP⟩ : ∃ P, Try.prog = P := ⟨_, rfl⟩
  rw [hP]
  (try rw [hn_s0_0] at h); skip
  cbv
  repeat' (first
    | ((with_reducible show ∃ _, _)
       first
        | (refine ⟨trivial, ?_⟩; cbv)
        | (refine side (by first | with_reducible eq_refl | assumption | (intro _ _; with_reducible eq_refl) | exact lt_ix (by assumption) (by assumption) (by assumption) | exact lt_ix2 (by assumption) (by assumption) (by assumption) (by assumption) | exact lt_y (by assumption) (by assumption) | exact le_y (by assumption) | exact ge_y (by assumption) | exact cut_le (by assumption) (by assumption) | omega) ?_; (try cbv))
        | (refine ⟨Frz.own, ?_⟩; cbv))
    | ((with_reducible show ∃ _ : List Nat, _)
       first
        | ((with_reducible (have h0 : Option.bind (spec_l1Cur_pick.f _ _ _ _) _ = some _ := h; clear h0))
           refine ⟨[0], ?_⟩; cbv
           repeat (first | (refine all_show (by first | omega | decide) ?_; cbv) | (refine all_showT (by assumption) (by assumption) (by assumption) (by first | assumption | exact lt_ix (by assumption) (by assumption) (by assumption) | exact lt_ix2 (by assumption) (by assumption) (by assumption) (by assumption) | exact lt_y (by assumption) (by assumption) | exact le_y (by assumption) | exact ge_y (by assumption) | exact cut_le (by assumption) (by assumption) | omega) (by first | assumption | exact cut_hi (by assumption) | exact cut_hi2 (by assumption) (by assumption) | omega) ?_; intro D hD hnD g hgD; (try rw [hD] at h); cbv))
           obtain ⟨⟨t0, t1, t2⟩, ht, h'⟩ := bind_some h
           clear h; have h := h'; clear h'; (try dsimp only at h)
           refine ⟨_, _, (hP ▸ spec_l1Cur_pick_ok _ _ _ _ _ _ _ ht _ (by first | assumption | rfl) _ (by assumption)  : CallOK P 122 _ _ _ _), ?_⟩; cbv))
    | ((with_reducible show ∀ _ : Bool, _)
       first
        | (refine all_beq ?_ ?_ <;> (intro hd; first | exact absurd rfl hd | ((first | rw [if_pos hd] at h | rw [if_neg hd] at h | rw [if_pos (by omega)] at h | rw [if_neg (by omega)] at h | skip); (first | (rw [beq_pos hd] at h; (try simp only [bs, eq_self, if_true, if_false, reduceIte] at h)) | (rw [beq_neg hd] at h; (try simp only [bs, eq_self, if_true, if_false, reduceIte] at h)) | skip); cbv))))
    | (simp only [Option.some.injEq, Prod.mk.injEq] at h; obtain ⟨rfl, rfl, rfl⟩ := h)
    | trivial)

def spec_paTurning.f (a0_0 : Int) (a0_1 : Int) : Option (Bool) := if a0_0 = 3 then (some true) else (some (a0_0 == 6))

theorem spec_paTurning_ok  (a0_0 : Int) (a0_1 : Int) (r0 : Bool) (h : spec_paTurning.f a0_0 a0_1 = some r0)   : CallOK Try.prog 224 [.agg [.val (.int .i64 a0_0), .val (.int .i64 a0_1)]] [] (.val (.bool r0)) [] := by
  refine CallOK.of_code tabOK Try.func224 rfl rfl ⟨[], []⟩ ?_
  unfold spec_paTurning.f at h
  obtain ⟨P, hP⟩ : ∃ P, Try.prog = P := ⟨_, rfl⟩
  rw [hP]
  skip
  cbv
  repeat' (first
    | ((with_reducible show ∃ _, _)
       first
        | (refine ⟨trivial, ?_⟩; cbv)
        | (refine side (by first | with_reducible eq_refl | assumption | (intro _ _; with_reducible eq_refl) | exact lt_ix (by assumption) (by assumption) (by assumption) | exact lt_ix2 (by assumption) (by assumption) (by assumption) (by assumption) | exact lt_y (by assumption) (by assumption) | exact le_y (by assumption) | exact ge_y (by assumption) | exact cut_le (by assumption) (by assumption) | omega) ?_; (try cbv)))
    | ((with_reducible show ∀ _ : Bool, _)
       first
        | (refine all_beq ?_ ?_ <;> (intro hd; first | exact absurd rfl hd | ((first | rw [if_pos hd] at h | rw [if_neg hd] at h | rw [if_pos (by omega)] at h | rw [if_neg (by omega)] at h | skip); (first | (rw [beq_pos hd] at h; (try simp only [bs, eq_self, if_true, if_false, reduceIte] at h)) | (rw [beq_neg hd] at h; (try simp only [bs, eq_self, if_true, if_false, reduceIte] at h)) | skip); cbv))))
    | (simp only [Option.some.injEq, Prod.mk.injEq] at h; subst h)
    | trivial)

def spec_paAll.l0 : Nat → List (S116) → Int → Option ((List (S116)))
  | 0, _, _ => none
  | k + 1, x1, x2 => if x2 ≤ 7 then (if x1.length < 8796093022208 then ((some (x1 ++ [(⟨x2, 0⟩ : S116)] : List (S116))).bind fun y1082 => ((spec_paTurning.f x2 1).bind fun t1086 => (if t1086 = true then (if y1082.length < 8796093022208 then (spec_paAll.l0 k (y1082 ++ [(⟨x2, 1⟩ : S116)]) (wrap64 (x2 + 1))) else (none)) else (spec_paAll.l0 k y1082 (wrap64 (x2 + 1)))))) else (none)) else (some x1)
def spec_paAll.f (k : Nat)  : Option ((List (S116))) := spec_paAll.l0 k ([] : List (S116)) 0

theorem spec_paAll_ok (k : Nat)  (r0 : List (S116)) (h : spec_paAll.f k = some r0)  (n_r0 : Nat) (hn_r0 : r0.length = n_r0) (g_r0 : Nat → List V) (hg_r0 : encL e116 r0 = g_r0) : CallOK Try.prog 225 [] [] (.row 0 0 n_r0) [.row 116 2 n_r0 g_r0] := by
  refine CallOK.of_code tabOK Try.func225 rfl rfl ⟨[(7, [1, 2, 3]), (9, [1])], []⟩ ?_
  unfold spec_paAll.f at h
  obtain ⟨P, hP⟩ : ∃ P, Try.prog = P := ⟨_, rfl⟩
  rw [hP]
  skip
  cbv
  repeat' (first
    | ((with_reducible show ∃ _, _)
       first
        | (refine ⟨trivial, ?_⟩; cbv)
        | (refine side (by first | with_reducible eq_refl | assumption | (intro _ _; with_reducible eq_refl) | exact lt_ix (by assumption) (by assumption) (by assumption) | exact lt_ix2 (by assumption) (by assumption) (by assumption) (by assumption) | exact lt_y (by assumption) (by assumption) | exact le_y (by assumption) | exact ge_y (by assumption) | exact cut_le (by assumption) (by assumption) | omega) ?_; (try cbv))
        | (refine bind_side (Eq.refl _) ?_; (try cbv))
        | (refine ⟨Frz.own, ?_⟩; cbv)
        | (refine ⟨.row, ?_⟩; cbv))
    | ((with_reducible show ∃ _ : Nat, _)
       first
        | (refine ⟨_, [1, 2], Nat.lt_succ_self _, ?_⟩; cbv; exact ⟨_, _, _, _, h, by first | assumption | rfl, by first | assumption | rfl, rfl⟩))
    | ((with_reducible show ∃ _ : List Nat, _)
       first
        | ((with_reducible (have h0 : Option.bind (spec_paTurning.f _ _) _ = some _ := h; clear h0))
           refine ⟨[], ?_⟩; cbv
           repeat (first | (refine all_show (by first | omega | decide) ?_; cbv) | (refine all_showT (by assumption) (by assumption) (by assumption) (by first | assumption | exact lt_ix (by assumption) (by assumption) (by assumption) | exact lt_ix2 (by assumption) (by assumption) (by assumption) (by assumption) | exact lt_y (by assumption) (by assumption) | exact le_y (by assumption) | exact ge_y (by assumption) | exact cut_le (by assumption) (by assumption) | omega) (by first | assumption | exact cut_hi (by assumption) | exact cut_hi2 (by assumption) (by assumption) | omega) ?_; intro D hD hnD g hgD; (try rw [hD] at h); cbv))
           obtain ⟨t, ht, h'⟩ := bind_some h
           clear h; have h := h'; clear h'; (try dsimp only at h)
           refine ⟨_, _, (hP ▸ spec_paTurning_ok _ _ _ ht   : CallOK P 224 _ _ _ _), ?_⟩
           rcases t with _ | _ <;> (try simp only [bs, eq_self, if_true, if_false, reduceIte] at h) <;> (try (cases h; done)) <;> cbv))
    | ((with_reducible show ∃ _ : Nat → List V, _)
       first
        | (refine all_build1 e116 (x := ⟨_, _⟩) rfl ?_; intro g_b hg_b; cbv))
    | ((with_reducible show ∃ _ : Nat → St → Prop, _)
       first
        | (refine ⟨fun k1 s => ∃ x1 x2 n_x1 g_x1, spec_paAll.l0 k1 x1 x2 = some r0 ∧ x1.length = n_x1 ∧ encL e116 x1 = g_x1 ∧ s = ⟨⟨22, (upd 22 (upd 22 noT 2 (.val (.int .i64 x2))) 1 (.row 0 0 n_x1))⟩, [.row 116 2 n_x1 g_x1]⟩, ?_, [], ?_⟩
           rotate_left
           · cbv; exact ⟨_, [1, 2], by cbv; exact ⟨_, _, _, _, h, by first | assumption | rfl, by first | assumption | rfl, rfl⟩⟩
           clear h
           rintro (_ | k1) s1 ⟨x1, x2, n_x1, g_x1, h, hn_x1, hg_x1, rfl⟩
           · cases h
           unfold spec_paAll.l0 at h
           (try rw [hn_x1] at h); skip
           cbv))
    | ((with_reducible show ∀ _ : Bool, _)
       first
        | (refine all_le ?_ ?_ <;> (intro hd; first | exact absurd rfl hd | ((first | rw [if_pos hd] at h | rw [if_neg hd] at h | rw [if_pos (by omega)] at h | rw [if_neg (by omega)] at h | skip); (first | (rw [decide_eq_true hd] at h; (try simp only [bs, eq_self, if_true, if_false, reduceIte] at h)) | (rw [decide_eq_false hd] at h; (try simp only [bs, eq_self, if_true, if_false, reduceIte] at h)) | skip); cbv))))
    | ((with_reducible show ∀ _ : Int, _)
       first
        | (refine all_wrap ?_; intro y hy; (try rw [hy] at h); cbv))
    | ((with_reducible show ∀ _ : Nat, _)
       first
        | (refine all_app (by first | assumption | exact (rfl : encL _ ([] : List _) = _)) (by first | assumption | rfl) (by assumption) (by first | assumption | rfl) ?_; intro L hL n_L hnL g hgL; (try rw [hL] at h); (try rw [Option.bind_some] at h); (try rw [hnL] at h); cbv))
    | (obtain ⟨hc, h'⟩ := if_none h; clear h; have h := h'; clear h')
    | (simp only [Option.bind_some] at h)
    | (simp only [Option.some.injEq, Prod.mk.injEq] at h; subst h)
    | ((with_reducible show ∃ _, _)
       refine side (by first | exact enc_same (by assumption) (by assumption) _ | exact take_s1 (by assumption) (by assumption) (by assumption) | exact take_s2 (by assumption) (by assumption) (by assumption) (by assumption) (by assumption) | exact take_s3 (by assumption) (by assumption) (by assumption) | exact take_s4 (by assumption) (by assumption) (by assumption) | (intro k hk; subst_vars; first | eq_refl | exact enc_drop | exact enc_take hk | exact absurd hk (Nat.not_lt_zero k)) | (subst_vars; first | eq_refl | (simp; done) | (simp; omega)) | (have h1 : Int.toNat 1 = 1 := rfl; have h2 := one_le (by assumption) (by assumption); simp only [List.length_append, List.length_nil, List.length_drop, h1] at *; omega) | (simp only [Nat.cast] at *; omega)) ?_; (try cbv)))

def spec_l1Cur_cell.f (k : Nat) (s0_0 : List Int) (s0_1 : Int) (s0_2 : Int) : Option (Int × Int × Int × Int) := (spec_paAll.f k).bind fun t1091 => ((spec_l1Cur_pick.f s0_0 s0_1 s0_2 (t1091.length : Int)).bind fun bt1094 => (if 0 ≤ bt1094.1 then (if bt1094.1 < (t1091.length : Int) then (some ((rd_T116 t1091 bt1094.1).f0, (rd_T116 t1091 bt1094.1).f1, bt1094.2.1, bt1094.2.2)) else (none)) else (none)))

theorem spec_l1Cur_cell_ok (k : Nat) (s0_0 : List Int) (s0_1 : Int) (s0_2 : Int) (r0 : Int) (r1 : Int) (r2 : Int) (r3 : Int) (h : spec_l1Cur_cell.f k s0_0 s0_1 s0_2 = some (r0, r1, r2, r3)) (n_s0_0 : Nat) (hn_s0_0 : s0_0.length = n_s0_0) (g_s0_0 : Nat → List V) (hg_s0_0 : encL eU s0_0 = g_s0_0)  : CallOK Try.prog 214 [.ptr 0 0] [.box 139 [.fz 1 n_s0_0 g_s0_0, .val (.int .i64 s0_1), .val (.int .u64 s0_2)]] (.agg [.val (.int .i64 r0), .val (.int .i64 r1)]) [.box 139 [.fz 1 n_s0_0 g_s0_0, .val (.int .i64 r2), .val (.int .u64 r3)]] := by
  refine CallOK.of_code tabOK Try.func214 rfl rfl ⟨[], []⟩ ?_
  unfold spec_l1Cur_cell.f at h
  obtain ⟨P, hP⟩ : ∃ P, Try.prog = P := ⟨_, rfl⟩
  rw [hP]
  (try rw [hn_s0_0] at h); skip
  cbv
  repeat' (first
    | ((with_reducible show ∃ _, _)
       first
        | (refine ⟨trivial, ?_⟩; cbv)
        | (refine side (by first | with_reducible eq_refl | assumption | (intro _ _; with_reducible eq_refl) | exact lt_ix (by assumption) (by assumption) (by assumption) | exact lt_ix2 (by assumption) (by assumption) (by assumption) (by assumption) | exact lt_y (by assumption) (by assumption) | exact le_y (by assumption) | exact ge_y (by assumption) | exact cut_le (by assumption) (by assumption) | omega) ?_; (try cbv))
        | (refine ⟨Frz.own, ?_⟩; cbv))
    | ((with_reducible show ∃ _ : List Nat, _)
       first
        | ((with_reducible (have h0 : Option.bind (spec_l1Cur_pick.f _ _ _ _) _ = some _ := h; clear h0))
           refine ⟨[0], ?_⟩; cbv
           repeat (first | (refine all_show (by first | omega | decide) ?_; cbv) | (refine all_showT (by assumption) (by assumption) (by assumption) (by first | assumption | exact lt_ix (by assumption) (by assumption) (by assumption) | exact lt_ix2 (by assumption) (by assumption) (by assumption) (by assumption) | exact lt_y (by assumption) (by assumption) | exact le_y (by assumption) | exact ge_y (by assumption) | exact cut_le (by assumption) (by assumption) | omega) (by first | assumption | exact cut_hi (by assumption) | exact cut_hi2 (by assumption) (by assumption) | omega) ?_; intro D hD hnD g hgD; (try rw [hD] at h); cbv))
           obtain ⟨⟨t0, t1, t2⟩, ht, h'⟩ := bind_some h
           clear h; have h := h'; clear h'; (try dsimp only at h)
           refine ⟨_, _, (hP ▸ spec_l1Cur_pick_ok _ _ _ _ _ _ _ ht _ (by first | assumption | rfl) _ (by assumption)  : CallOK P 122 _ _ _ _), ?_⟩; cbv)
        | ((with_reducible (have h0 : Option.bind (spec_paAll.f _) _ = some _ := h; clear h0))
           refine ⟨[], ?_⟩; cbv
           repeat (first | (refine all_show (by first | omega | decide) ?_; cbv) | (refine all_showT (by assumption) (by assumption) (by assumption) (by first | assumption | exact lt_ix (by assumption) (by assumption) (by assumption) | exact lt_ix2 (by assumption) (by assumption) (by assumption) (by assumption) | exact lt_y (by assumption) (by assumption) | exact le_y (by assumption) | exact ge_y (by assumption) | exact cut_le (by assumption) (by assumption) | omega) (by first | assumption | exact cut_hi (by assumption) | exact cut_hi2 (by assumption) (by assumption) | omega) ?_; intro D hD hnD g hgD; (try rw [hD] at h); cbv))
           obtain ⟨t, ht, h'⟩ := bind_some h
           clear h; have h := h'; clear h'; (try dsimp only at h)
           obtain ⟨n_c225_0, hn_c225_0⟩ : ∃ n, t.length = n := ⟨_, rfl⟩; obtain ⟨g_t, hg_c225_0⟩ : ∃ g, encL e116 t = g := ⟨_, rfl⟩; (try rw [hn_c225_0] at h)
           refine ⟨_, _, (hP ▸ spec_paAll_ok _ _ ht  _ hn_c225_0 _ hg_c225_0 : CallOK P 225 _ _ _ _), ?_⟩; cbv))
    | ((with_reducible show ∀ _ : Int, _)
       first
        | (refine all_len ?_; intro y hy; (try replace hy : ((_ : Nat) : Int) = y := hy); (try rw [hy] at h); (try rw [show (NatCast.natCast _ : Int) = _ from hy] at h); cbv))
    | ((with_reducible show ∀ _ : Nat, _)
       first
        | (refine all_ix0 ?_; intro q hq; (try rw [hq] at h); cbv))
    | ((with_reducible show ∀ _ : List V, _)
       first
        | (refine @all_rd _ _ e116 rd_T116 ?_ ?_ ?_ _ _ _ (fun _ _ => rfl) ?_ ?_ ?_ ?_ ?_ ?_
           rotate_left 3
           assumption
           assumption
           (first | rfl | assumption)
           (first | assumption | exact lt_ix (by assumption) (by assumption) (by assumption) | exact lt_ix2 (by assumption) (by assumption) (by assumption) (by assumption) | exact lt_y (by assumption) (by assumption) | exact le_y (by assumption) | exact ge_y (by assumption) | exact cut_le (by assumption) (by assumption) | omega)
           (first | assumption | exact lt_ix (by assumption) (by assumption) (by assumption) | exact lt_ix2 (by assumption) (by assumption) (by assumption) (by assumption) | exact lt_y (by assumption) (by assumption) | exact le_y (by assumption) | exact ge_y (by assumption) | exact cut_le (by assumption) (by assumption) | omega)
           intro z hz
           (try rw [hz] at h); cbv))
    | (obtain ⟨hc, h'⟩ := if_none h; clear h; have h := h'; clear h')
    | (simp only [Option.some.injEq, Prod.mk.injEq] at h; obtain ⟨rfl, rfl, rfl, rfl⟩ := h)
    | trivial)

mutual
def spec_l1Cur_boardOf.l0 : Nat → Int → Int → Int → List Int → Int → Int → Int → Int → List (S116) → Option (Int × Int × (List (S116)) × Int × Int)
  | 0, _, _, _, _, _, _, _, _, _ => none
  | k + 1, x1, x2, x8, x1000, x1001, x1002, x1100000, x1100001, x1100002 => if (x1100002.length : Int) < (wrap64 (x1 * x2)) then ((spec_l1Cur_one.f x1000 x1001 x1002 x8).bind fun bt1107 => (if bt1107.1 = true then (spec_l1Cur_boardOf.j1 k x1 x2 x8 true x1000 bt1107.2.1 bt1107.2.2 x1100000 x1100001 x1100002 0 0) else ((spec_l1Cur_one.f x1000 bt1107.2.1 bt1107.2.2 3).bind fun bt1110 => (spec_l1Cur_boardOf.j1 k x1 x2 x8 bt1110.1 x1000 bt1110.2.1 bt1110.2.2 x1100000 x1100001 x1100002 0 0)))) else (some (x1100000, x1100001, x1100002, x1001, x1002))
def spec_l1Cur_boardOf.j1 : Nat → Int → Int → Int → Bool → List Int → Int → Int → Int → Int → List (S116) → Int → Int → Option (Int × Int × (List (S116)) × Int × Int)
  | 0, _, _, _, _, _, _, _, _, _, _, _, _ => none
  | k + 1, x1, x2, x8, x30, x1000, x1001, x1002, x1100000, x1100001, x1100002, x1107000, x1107001 => if x30 = true then ((spec_l1Cur_cell.f k x1000 x1001 x1002).bind fun bt1113 => (spec_l1Cur_boardOf.j2 k x1 x2 x8 x1000 bt1113.2.2.1 bt1113.2.2.2 x1100000 x1100001 x1100002 bt1113.1 bt1113.2.1)) else (spec_l1Cur_boardOf.j2 k x1 x2 x8 x1000 x1001 x1002 x1100000 x1100001 x1100002 x1107000 x1107001)
def spec_l1Cur_boardOf.j2 : Nat → Int → Int → Int → List Int → Int → Int → Int → Int → List (S116) → Int → Int → Option (Int × Int × (List (S116)) × Int × Int)
  | 0, _, _, _, _, _, _, _, _, _, _, _ => none
  | k + 1, x1, x2, x8, x1000, x1001, x1002, x1100000, x1100001, x1100002, x1107000, x1107001 => if x1107000 = 5 then ((spec_l1Cur_one.f x1000 x1001 x1002 3).bind fun bt1117 => (if bt1117.1 = true then (if x1100002.length < 8796093022208 then (spec_l1Cur_boardOf.l0 k x1 x2 x8 x1000 bt1117.2.1 bt1117.2.2 x1100000 x1100001 (x1100002 ++ [(⟨x1107000, x1107001⟩ : S116)])) else (none)) else ((spec_l1Cur_pick.f x1000 bt1117.2.1 bt1117.2.2 2).bind fun bt1123 => (if x1100002.length < 8796093022208 then (spec_l1Cur_boardOf.l0 k x1 x2 x8 x1000 bt1123.2.1 bt1123.2.2 x1100000 x1100001 (x1100002 ++ [(⟨3, bt1123.1⟩ : S116)])) else (none))))) else (if x1100002.length < 8796093022208 then (spec_l1Cur_boardOf.l0 k x1 x2 x8 x1000 x1001 x1002 x1100000 x1100001 (x1100002 ++ [(⟨x1107000, x1107001⟩ : S116)])) else (none))
end
def spec_l1Cur_boardOf.f (k : Nat) (s0_0 : List Int) (s0_1 : Int) (s0_2 : Int) (a1 : Int) (a2 : Int) : Option (Int × Int × (List (S116)) × Int × Int) := (spec_l1Cur_among.f s0_0 s0_1 s0_2 (([1, 2, 2] : List Int))).bind fun bt1103 => (spec_l1Cur_boardOf.l0 k a1 a2 bt1103.1 s0_0 bt1103.2.1 bt1103.2.2 a1 a2 ([] : List (S116)))

theorem spec_l1Cur_boardOf_ok (k : Nat) (s0_0 : List Int) (s0_1 : Int) (s0_2 : Int) (a1 : Int) (a2 : Int) (r0 : Int) (r1 : Int) (r2 : (List (S116))) (r3 : Int) (r4 : Int) (h : spec_l1Cur_boardOf.f k s0_0 s0_1 s0_2 a1 a2 = some (r0, r1, r2, r3, r4)) (n_s0_0 : Nat) (hn_s0_0 : s0_0.length = n_s0_0) (g_s0_0 : Nat → List V) (hg_s0_0 : encL eU s0_0 = g_s0_0) (n_r2 : Nat) (hn_r2 : r2.length = n_r2) (g_r2 : Nat → List V) (hg_r2 : encL e116 r2 = g_r2) : CallOK Try.prog 223 [.ptr 0 0, .val (.int .i64 a1), .val (.int .i64 a2)] [.box 139 [.fz 1 n_s0_0 g_s0_0, .val (.int .i64 s0_1), .val (.int .u64 s0_2)]] (.agg [.val (.int .i64 r0), .val (.int .i64 r1), .row 1 0 n_r2]) [.box 139 [.fz 1 n_s0_0 g_s0_0, .val (.int .i64 r3), .val (.int .u64 r4)], .row 116 2 n_r2 g_r2] := by
  refine CallOK.of_code tabOK Try.func223 rfl rfl ⟨[(4, [0, 1, 2, 6, 7, 8]), (6, [0, 1, 2, 6, 7, 8, 9]), (7, [0, 1, 2, 6, 7, 8, 9]), (8, [0, 1, 2, 6, 7, 8, 9]), (9, [0, 1, 2, 6, 7, 8, 9]), (10, [6, 7])], []⟩ ?_
  unfold spec_l1Cur_boardOf.f at h
  obtain ⟨P, hP⟩ : ∃ P, Try.prog = P := ⟨_, rfl⟩
  rw [hP]
  (try rw [hn_s0_0] at h); skip
  cbv
  repeat' (first
    | ((with_reducible show ∃ _, _)
       first
        | (refine ⟨trivial, ?_⟩; cbv)
        | (refine side (by first | with_reducible eq_refl | assumption | (intro _ _; with_reducible eq_refl) | exact lt_ix (by assumption) (by assumption) (by assumption) | exact lt_ix2 (by assumption) (by assumption) (by assumption) (by assumption) | exact lt_y (by assumption) (by assumption) | exact le_y (by assumption) | exact ge_y (by assumption) | exact cut_le (by assumption) (by assumption) | omega) ?_; (try cbv))
        | (refine bind_side (Eq.refl _) ?_; (try cbv))
        | (refine ⟨.dead, ?_⟩; cbv)
        | (refine ⟨Frz.own, ?_⟩; cbv))
    | ((with_reducible show ∃ _ : Nat, _)
       first
        | (refine ⟨k1, [0, 1, 2, 6, 7, 8], (by omega), ?_⟩; cbv; exact ⟨_, _, _, _, _, _, _, _, _, _, h, by first | assumption | rfl, by first | assumption | rfl, rfl⟩))
    | ((with_reducible show ∃ _ : List Nat, _)
       first
        | ((with_reducible (have h0 : Option.bind (spec_l1Cur_one.f _ _ _ _) _ = some _ := h; clear h0))
           refine ⟨[0], ?_⟩; cbv
           repeat (first | (refine all_show (by first | omega | decide) ?_; cbv) | (refine all_showT (by assumption) (by assumption) (by assumption) (by first | assumption | exact lt_ix (by assumption) (by assumption) (by assumption) | exact lt_ix2 (by assumption) (by assumption) (by assumption) (by assumption) | exact lt_y (by assumption) (by assumption) | exact le_y (by assumption) | exact ge_y (by assumption) | exact cut_le (by assumption) (by assumption) | omega) (by first | assumption | exact cut_hi (by assumption) | exact cut_hi2 (by assumption) (by assumption) | omega) ?_; intro D hD hnD g hgD; (try rw [hD] at h); cbv))
           obtain ⟨⟨t0, t1, t2⟩, ht, h'⟩ := bind_some h
           clear h; have h := h'; clear h'; (try dsimp only at h)
           refine ⟨_, _, (hP ▸ spec_l1Cur_one_ok _ _ _ _ _ _ _ ht _ (by first | assumption | rfl) _ (by assumption)  : CallOK P 121 _ _ _ _), ?_⟩
           rcases t0 with _ | _ <;> (try simp only [bs, eq_self, if_true, if_false, reduceIte] at h) <;> (try (cases h; done)) <;> cbv)
        | ((with_reducible (have h0 : Option.bind (spec_l1Cur_pick.f _ _ _ _) _ = some _ := h; clear h0))
           refine ⟨[0], ?_⟩; cbv
           repeat (first | (refine all_show (by first | omega | decide) ?_; cbv) | (refine all_showT (by assumption) (by assumption) (by assumption) (by first | assumption | exact lt_ix (by assumption) (by assumption) (by assumption) | exact lt_ix2 (by assumption) (by assumption) (by assumption) (by assumption) | exact lt_y (by assumption) (by assumption) | exact le_y (by assumption) | exact ge_y (by assumption) | exact cut_le (by assumption) (by assumption) | omega) (by first | assumption | exact cut_hi (by assumption) | exact cut_hi2 (by assumption) (by assumption) | omega) ?_; intro D hD hnD g hgD; (try rw [hD] at h); cbv))
           obtain ⟨⟨t0, t1, t2⟩, ht, h'⟩ := bind_some h
           clear h; have h := h'; clear h'; (try dsimp only at h)
           refine ⟨_, _, (hP ▸ spec_l1Cur_pick_ok _ _ _ _ _ _ _ ht _ (by first | assumption | rfl) _ (by assumption)  : CallOK P 122 _ _ _ _), ?_⟩; cbv)
        | ((with_reducible (have h0 : Option.bind (spec_l1Cur_among.f _ _ _ _) _ = some _ := h; clear h0))
           refine ⟨[0], ?_⟩; cbv
           repeat (first | (refine all_show (by first | omega | decide) ?_; cbv) | (refine all_showT (by assumption) (by assumption) (by assumption) (by first | assumption | exact lt_ix (by assumption) (by assumption) (by assumption) | exact lt_ix2 (by assumption) (by assumption) (by assumption) (by assumption) | exact lt_y (by assumption) (by assumption) | exact le_y (by assumption) | exact ge_y (by assumption) | exact cut_le (by assumption) (by assumption) | omega) (by first | assumption | exact cut_hi (by assumption) | exact cut_hi2 (by assumption) (by assumption) | omega) ?_; intro D hD hnD g hgD; (try rw [hD] at h); cbv))
           obtain ⟨⟨t0, t1, t2⟩, ht, h'⟩ := bind_some h
           clear h; have h := h'; clear h'; (try dsimp only at h)
           refine ⟨_, _, (hP ▸ spec_l1Cur_among_ok _ _ _ _ _ _ _ ht _ (by first | assumption | rfl) _ (by assumption) _ (by first | assumption | rfl) _ (by assumption)  : CallOK P 136 _ _ _ _), ?_⟩; cbv)
        | ((with_reducible (have h0 : Option.bind (spec_l1Cur_cell.f _ _ _ _) _ = some _ := h; clear h0))
           refine ⟨[0], ?_⟩; cbv
           repeat (first | (refine all_show (by first | omega | decide) ?_; cbv) | (refine all_showT (by assumption) (by assumption) (by assumption) (by first | assumption | exact lt_ix (by assumption) (by assumption) (by assumption) | exact lt_ix2 (by assumption) (by assumption) (by assumption) (by assumption) | exact lt_y (by assumption) (by assumption) | exact le_y (by assumption) | exact ge_y (by assumption) | exact cut_le (by assumption) (by assumption) | omega) (by first | assumption | exact cut_hi (by assumption) | exact cut_hi2 (by assumption) (by assumption) | omega) ?_; intro D hD hnD g hgD; (try rw [hD] at h); cbv))
           obtain ⟨⟨t0, t1, t2, t3⟩, ht, h'⟩ := bind_some h
           clear h; have h := h'; clear h'; (try dsimp only at h)
           refine ⟨_, _, (hP ▸ spec_l1Cur_cell_ok _ _ _ _ _ _ _ _ ht _ (by first | assumption | rfl) _ (by assumption)  : CallOK P 214 _ _ _ _), ?_⟩; cbv))
    | ((with_reducible show ∃ _ : Nat → List V, _)
       first
        | (refine all_buildI3 ?_; intro g_b hg_b; cbv)
        | (refine all_build1 e116 (x := ⟨_, _⟩) rfl ?_; intro g_b hg_b; cbv))
    | ((with_reducible show ∃ _ : Nat → St → Prop, _)
       first
        | (refine ⟨fun k1 s => ∃ x1 x2 x8 x1001 x1002 x1100000 x1100001 x1100002 n_x1100002 g_x1100002, spec_l1Cur_boardOf.l0 k1 x1 x2 x8 s0_0 x1001 x1002 x1100000 x1100001 x1100002 = some (r0, r1, r2, r3, r4) ∧ x1100002.length = n_x1100002 ∧ encL e116 x1100002 = g_x1100002 ∧ s = ⟨⟨51, (upd 51 (upd 51 (upd 51 (upd 51 (upd 51 (upd 51 noT 8 (.val (.int .i64 x8))) 7 (.ptr 2 0)) 6 (.ptr 1 0)) 2 (.val (.int .i64 x2))) 1 (.val (.int .i64 x1))) 0 (.ptr 0 0))⟩, [.box 139 [.fz 1 n_s0_0 g_s0_0, .val (.int .i64 x1001), .val (.int .u64 x1002)], .box 81 [.val (.int .i64 0), .val (.int .i64 0), .val (.slice none 0 0)], .box 81 [.val (.int .i64 x1100000), .val (.int .i64 x1100001), .row 3 0 n_x1100002], .row 116 2 n_x1100002 g_x1100002]⟩, ?_, [(2, 2, 116, 2)], ?_⟩
           rotate_left
           · cbv; exact ⟨_, [0, 1, 2, 6, 7, 8], by cbv; exact ⟨_, _, _, _, _, _, _, _, _, _, h, by first | assumption | rfl, by first | assumption | rfl, rfl⟩⟩
           clear h
           rintro (_ | k1) s1 ⟨x1, x2, x8, x1001, x1002, x1100000, x1100001, x1100002, n_x1100002, g_x1100002, h, hn_x1100002, hg_x1100002, rfl⟩
           · cases h
           unfold spec_l1Cur_boardOf.l0 at h
           (try rw [hn_x1100002] at h); skip
           cbv))
    | ((with_reducible (have h0 : spec_l1Cur_boardOf.j1 _ _ _ _ _ _ _ _ _ _ _ _ _ = some _ := h; clear h0))
       first
        | (unfold spec_l1Cur_boardOf.j1 at h
           rcases k1 with _ | k1
           · cases h
           (try dsimp only at h); (try simp only [bs, eq_self, if_true, if_false, reduceIte] at h); (try rw [hn_s0_0] at h); (try rw [show (Nat.cast n_s0_0 : Int) = _ from (by assumption)] at h); (try rw [show (NatCast.natCast n_s0_0 : Int) = _ from (by assumption)] at h); (try (simp only [Nat.cast] at h; rw [show (NatCast.natCast n_s0_0 : Int) = _ from (by assumption)] at h)); (try rw [hn_x1000] at h); (try rw [show (Nat.cast n_x1000 : Int) = _ from (by assumption)] at h); (try rw [show (NatCast.natCast n_x1000 : Int) = _ from (by assumption)] at h); (try (simp only [Nat.cast] at h; rw [show (NatCast.natCast n_x1000 : Int) = _ from (by assumption)] at h)); (try rw [hn_x1100002] at h); (try rw [show (Nat.cast n_x1100002 : Int) = _ from (by assumption)] at h); (try rw [show (NatCast.natCast n_x1100002 : Int) = _ from (by assumption)] at h); (try (simp only [Nat.cast] at h; rw [show (NatCast.natCast n_x1100002 : Int) = _ from (by assumption)] at h))))
    | ((with_reducible (have h0 : spec_l1Cur_boardOf.j2 _ _ _ _ _ _ _ _ _ _ _ _ = some _ := h; clear h0))
       first
        | (unfold spec_l1Cur_boardOf.j2 at h
           rcases k1 with _ | k1
           · cases h
           (try dsimp only at h); (try simp only [bs, eq_self, if_true, if_false, reduceIte] at h); (try rw [hn_s0_0] at h); (try rw [show (Nat.cast n_s0_0 : Int) = _ from (by assumption)] at h); (try rw [show (NatCast.natCast n_s0_0 : Int) = _ from (by assumption)] at h); (try (simp only [Nat.cast] at h; rw [show (NatCast.natCast n_s0_0 : Int) = _ from (by assumption)] at h)); (try rw [hn_x1000] at h); (try rw [show (Nat.cast n_x1000 : Int) = _ from (by assumption)] at h); (try rw [show (NatCast.natCast n_x1000 : Int) = _ from (by assumption)] at h); (try (simp only [Nat.cast] at h; rw [show (NatCast.natCast n_x1000 : Int) = _ from (by assumption)] at h)); (try rw [hn_x1100002] at h); (try rw [show (Nat.cast n_x1100002 : Int) = _ from (by assumption)] at h); (try rw [show (NatCast.natCast n_x1100002 : Int) = _ from (by assumption)] at h); (try (simp only [Nat.cast] at h; rw [show (NatCast.natCast n_x1100002 : Int) = _ from (by assumption)] at h))))
    | ((with_reducible show ∀ _ : Bool, _)
       first
        | (refine all_lt ?_ ?_ <;> (intro hd; first | exact absurd rfl hd | ((first | rw [if_pos hd] at h | rw [if_neg hd] at h | rw [if_pos (by omega)] at h | rw [if_neg (by omega)] at h | skip); (first | (rw [decide_eq_true hd] at h; (try simp only [bs, eq_self, if_true, if_false, reduceIte] at h)) | (rw [decide_eq_false hd] at h; (try simp only [bs, eq_self, if_true, if_false, reduceIte] at h)) | skip); cbv)))
        | (refine all_beq ?_ ?_ <;> (intro hd; first | exact absurd rfl hd | ((first | rw [if_pos hd] at h | rw [if_neg hd] at h | rw [if_pos (by omega)] at h | rw [if_neg (by omega)] at h | skip); (first | (rw [beq_pos hd] at h; (try simp only [bs, eq_self, if_true, if_false, reduceIte] at h)) | (rw [beq_neg hd] at h; (try simp only [bs, eq_self, if_true, if_false, reduceIte] at h)) | skip); cbv))))
    | ((with_reducible show ∀ _ : Int, _)
       first
        | (refine all_wrap ?_; intro y hy; (try rw [hy] at h); cbv)
        | (refine all_len ?_; intro y hy; (try replace hy : ((_ : Nat) : Int) = y := hy); (try rw [hy] at h); (try rw [show (NatCast.natCast _ : Int) = _ from hy] at h); cbv))
    | ((with_reducible show ∀ _ : Nat, _)
       first
        | (refine all_app (by first | assumption | exact (rfl : encL _ ([] : List _) = _)) (by first | assumption | rfl) (by assumption) (by first | assumption | rfl) ?_; intro L hL n_L hnL g hgL; (try rw [hL] at h); (try rw [Option.bind_some] at h); (try rw [hnL] at h); cbv))
    | (obtain ⟨hc, h'⟩ := if_none h; clear h; have h := h'; clear h')
    | (simp only [Option.some.injEq, Prod.mk.injEq] at h; obtain ⟨rfl, rfl, rfl, rfl, rfl⟩ := h)
    | ((with_reducible show ∃ _, _)
       refine side (by first | exact enc_same (by assumption) (by assumption) _ | exact take_s1 (by assumption) (by assumption) (by assumption) | exact take_s2 (by assumption) (by assumption) (by assumption) (by assumption) (by assumption) | exact take_s3 (by assumption) (by assumption) (by assumption) | exact take_s4 (by assumption) (by assumption) (by assumption) | (intro k hk; subst_vars; first | eq_refl | exact enc_drop | exact enc_take hk | exact absurd hk (Nat.not_lt_zero k)) | (subst_vars; first | eq_refl | (simp; done) | (simp; omega)) | (have h1 : Int.toNat 1 = 1 := rfl; have h2 := one_le (by assumption) (by assumption); simp only [List.length_append, List.length_nil, List.length_drop, h1] at *; omega) | (simp only [Nat.cast] at *; omega)) ?_; (try cbv)))

def spec_l1Cur_board.f (k : Nat) (s0_0 : List Int) (s0_1 : Int) (s0_2 : Int) : Option (Int × Int × (List (S116)) × Int × Int) := (spec_l1Cur_one.f s0_0 s0_1 s0_2 20).bind fun bt1133 => (if bt1133.1 = true then ((spec_l1Cur_among.f s0_0 bt1133.2.1 bt1133.2.2 (([1, 10] : List Int))).bind fun bt1139 => ((spec_l1Cur_among.f s0_0 bt1139.2.1 bt1139.2.2 (([1, 9] : List Int))).bind fun bt1145 => ((spec_l1Cur_boardOf.f k s0_0 bt1145.2.1 bt1145.2.2 bt1139.1 bt1145.1).bind fun bt1148 => (some (bt1148.1, bt1148.2.1, bt1148.2.2.1, bt1148.2.2.2.1, bt1148.2.2.2.2))))) else ((spec_l1Cur_pick.f s0_0 bt1133.2.1 bt1133.2.2 5).bind fun bt1155 => ((spec_l1Cur_pick.f s0_0 bt1155.2.1 bt1155.2.2 5).bind fun bt1158 => ((spec_l1Cur_boardOf.f k s0_0 bt1158.2.1 bt1158.2.2 (wrap64 (1 + bt1155.1)) (wrap64 (1 + bt1158.1))).bind fun bt1161 => (some (bt1161.1, bt1161.2.1, bt1161.2.2.1, bt1161.2.2.2.1, bt1161.2.2.2.2))))))

theorem spec_l1Cur_board_ok (k : Nat) (s0_0 : List Int) (s0_1 : Int) (s0_2 : Int) (r0 : Int) (r1 : Int) (r2 : (List (S116))) (r3 : Int) (r4 : Int) (h : spec_l1Cur_board.f k s0_0 s0_1 s0_2 = some (r0, r1, r2, r3, r4)) (n_s0_0 : Nat) (hn_s0_0 : s0_0.length = n_s0_0) (g_s0_0 : Nat → List V) (hg_s0_0 : encL eU s0_0 = g_s0_0) (n_r2 : Nat) (hn_r2 : r2.length = n_r2) (g_r2 : Nat → List V) (hg_r2 : encL e116 r2 = g_r2) : CallOK Try.prog 204 [.ptr 0 0] [.box 139 [.fz 1 n_s0_0 g_s0_0, .val (.int .i64 s0_1), .val (.int .u64 s0_2)]] (.agg [.val (.int .i64 r0), .val (.int .i64 r1), .row 1 0 n_r2]) [.box 139 [.fz 1 n_s0_0 g_s0_0, .val (.int .i64 r3), .val (.int .u64 r4)], .row 116 2 n_r2 g_r2] := by
  refine CallOK.of_code tabOK Try.func204 rfl rfl ⟨[], []⟩ ?_
  unfold spec_l1Cur_board.f at h
  obtain ⟨P, hP⟩ : ∃ P, Try.prog = P := ⟨_, rfl⟩
  rw [hP]
  (try rw [hn_s0_0] at h); skip
  cbv
  repeat' (first
    | ((with_reducible show ∃ _, _)
       first
        | (refine ⟨trivial, ?_⟩; cbv)
        | (refine side (by first | with_reducible eq_refl | assumption | (intro _ _; with_reducible eq_refl) | exact lt_ix (by assumption) (by assumption) (by assumption) | exact lt_ix2 (by assumption) (by assumption) (by assumption) (by assumption) | exact lt_y (by assumption) (by assumption) | exact le_y (by assumption) | exact ge_y (by assumption) | exact cut_le (by assumption) (by assumption) | omega) ?_; (try cbv))
        | (refine bind_side (Eq.refl _) ?_; (try cbv))
        | (refine ⟨.dead, ?_⟩; cbv)
        | (refine ⟨Frz.own, ?_⟩; cbv))
    | ((with_reducible show ∃ _ : List Nat, _)
       first
        | ((with_reducible (have h0 : Option.bind (spec_l1Cur_one.f _ _ _ _) _ = some _ := h; clear h0))
           refine ⟨[0], ?_⟩; cbv
           repeat (first | (refine all_show (by first | omega | decide) ?_; cbv) | (refine all_showT (by assumption) (by assumption) (by assumption) (by first | assumption | exact lt_ix (by assumption) (by assumption) (by assumption) | exact lt_ix2 (by assumption) (by assumption) (by assumption) (by assumption) | exact lt_y (by assumption) (by assumption) | exact le_y (by assumption) | exact ge_y (by assumption) | exact cut_le (by assumption) (by assumption) | omega) (by first | assumption | exact cut_hi (by assumption) | exact cut_hi2 (by assumption) (by assumption) | omega) ?_; intro D hD hnD g hgD; (try rw [hD] at h); cbv))
           obtain ⟨⟨t0, t1, t2⟩, ht, h'⟩ := bind_some h
           clear h; have h := h'; clear h'; (try dsimp only at h)
           refine ⟨_, _, (hP ▸ spec_l1Cur_one_ok _ _ _ _ _ _ _ ht _ (by first | assumption | rfl) _ (by assumption)  : CallOK P 121 _ _ _ _), ?_⟩
           rcases t0 with _ | _ <;> (try simp only [bs, eq_self, if_true, if_false, reduceIte] at h) <;> (try (cases h; done)) <;> cbv)
        | ((with_reducible (have h0 : Option.bind (spec_l1Cur_pick.f _ _ _ _) _ = some _ := h; clear h0))
           refine ⟨[0], ?_⟩; cbv
           repeat (first | (refine all_show (by first | omega | decide) ?_; cbv) | (refine all_showT (by assumption) (by assumption) (by assumption) (by first | assumption | exact lt_ix (by assumption) (by assumption) (by assumption) | exact lt_ix2 (by assumption) (by assumption) (by assumption) (by assumption) | exact lt_y (by assumption) (by assumption) | exact le_y (by assumption) | exact ge_y (by assumption) | exact cut_le (by assumption) (by assumption) | omega) (by first | assumption | exact cut_hi (by assumption) | exact cut_hi2 (by assumption) (by assumption) | omega) ?_; intro D hD hnD g hgD; (try rw [hD] at h); cbv))
           obtain ⟨⟨t0, t1, t2⟩, ht, h'⟩ := bind_some h
           clear h; have h := h'; clear h'; (try dsimp only at h)
           refine ⟨_, _, (hP ▸ spec_l1Cur_pick_ok _ _ _ _ _ _ _ ht _ (by first | assumption | rfl) _ (by assumption)  : CallOK P 122 _ _ _ _), ?_⟩; cbv)
        | ((with_reducible (have h0 : Option.bind (spec_l1Cur_among.f _ _ _ _) _ = some _ := h; clear h0))
           refine ⟨[0], ?_⟩; cbv
           repeat (first | (refine all_show (by first | omega | decide) ?_; cbv) | (refine all_showT (by assumption) (by assumption) (by assumption) (by first | assumption | exact lt_ix (by assumption) (by assumption) (by assumption) | exact lt_ix2 (by assumption) (by assumption) (by assumption) (by assumption) | exact lt_y (by assumption) (by assumption) | exact le_y (by assumption) | exact ge_y (by assumption) | exact cut_le (by assumption) (by assumption) | omega) (by first | assumption | exact cut_hi (by assumption) | exact cut_hi2 (by assumption) (by assumption) | omega) ?_; intro D hD hnD g hgD; (try rw [hD] at h); cbv))
           obtain ⟨⟨t0, t1, t2⟩, ht, h'⟩ := bind_some h
           clear h; have h := h'; clear h'; (try dsimp only at h)
           refine ⟨_, _, (hP ▸ spec_l1Cur_among_ok _ _ _ _ _ _ _ ht _ (by first | assumption | rfl) _ (by assumption) _ (by first | assumption | rfl) _ (by assumption)  : CallOK P 136 _ _ _ _), ?_⟩; cbv)
        | ((with_reducible (have h0 : Option.bind (spec_l1Cur_boardOf.f _ _ _ _ _ _) _ = some _ := h; clear h0))
           refine ⟨[0], ?_⟩; cbv
           repeat (first | (refine all_show (by first | omega | decide) ?_; cbv) | (refine all_showT (by assumption) (by assumption) (by assumption) (by first | assumption | exact lt_ix (by assumption) (by assumption) (by assumption) | exact lt_ix2 (by assumption) (by assumption) (by assumption) (by assumption) | exact lt_y (by assumption) (by assumption) | exact le_y (by assumption) | exact ge_y (by assumption) | exact cut_le (by assumption) (by assumption) | omega) (by first | assumption | exact cut_hi (by assumption) | exact cut_hi2 (by assumption) (by assumption) | omega) ?_; intro D hD hnD g hgD; (try rw [hD] at h); cbv))
           obtain ⟨⟨t0, t1, t2, t3, t4⟩, ht, h'⟩ := bind_some h
           clear h; have h := h'; clear h'; (try dsimp only at h)
           obtain ⟨n_c223_2, hn_c223_2⟩ : ∃ n, t2.length = n := ⟨_, rfl⟩; obtain ⟨g_t, hg_c223_2⟩ : ∃ g, encL e116 t2 = g := ⟨_, rfl⟩; (try rw [hn_c223_2] at h)
           refine ⟨_, _, (hP ▸ spec_l1Cur_boardOf_ok _ _ _ _ _ _ _ _ _ _ _ ht _ (by first | assumption | rfl) _ (by assumption) _ hn_c223_2 _ hg_c223_2 : CallOK P 223 _ _ _ _), ?_⟩; cbv))
    | ((with_reducible show ∃ _ : Nat → List V, _)
       first
        | (refine all_buildI2 ?_; intro g_b hg_b; cbv))
    | ((with_reducible show ∀ _ : Int, _)
       first
        | (refine all_wrap ?_; intro y hy; (try rw [hy] at h); cbv))
    | (simp only [Option.some.injEq, Prod.mk.injEq] at h; obtain ⟨rfl, rfl, rfl, rfl, rfl⟩ := h)
    | ((with_reducible show ∃ _, _)
       refine side (by first | exact enc_same (by assumption) (by assumption) _ | exact take_s1 (by assumption) (by assumption) (by assumption) | exact take_s2 (by assumption) (by assumption) (by assumption) (by assumption) (by assumption) | exact take_s3 (by assumption) (by assumption) (by assumption) | exact take_s4 (by assumption) (by assumption) (by assumption) | (intro k hk; subst_vars; first | eq_refl | exact enc_drop | exact enc_take hk | exact absurd hk (Nat.not_lt_zero k)) | (subst_vars; first | eq_refl | (simp; done) | (simp; omega)) | (have h1 : Int.toNat 1 = 1 := rfl; have h2 := one_le (by assumption) (by assumption); simp only [List.length_append, List.length_nil, List.length_drop, h1] at *; omega) | (simp only [Nat.cast] at *; omega)) ?_; (try cbv)))

def spec_l1Cur_anyCell.f (k : Nat) (s0_0 : List Int) (s0_1 : Int) (s0_2 : Int) : Option (Int × Int × Int × Int) := (spec_l1Cur_cell.f k s0_0 s0_1 s0_2).bind fun bt1169 => ((spec_l1Cur_pick.f s0_0 bt1169.2.2.1 bt1169.2.2.2 20).bind fun bt1174 => (if bt1174.1 = 0 then ((spec_l1Cur_among.f s0_0 bt1174.2.1 bt1174.2.2 (([(-1), 8] : List Int))).bind fun bt1180 => (some (bt1180.1, bt1169.2.1, bt1180.2.1, bt1180.2.2))) else (if bt1174.1 = 1 then ((spec_l1Cur_among.f s0_0 bt1174.2.1 bt1174.2.2 (([(-1), 1, 2] : List Int))).bind fun bt1186 => (some (bt1169.1, bt1186.1, bt1186.2.1, bt1186.2.2))) else (some (bt1169.1, bt1169.2.1, bt1174.2.1, bt1174.2.2)))))

theorem spec_l1Cur_anyCell_ok (k : Nat) (s0_0 : List Int) (s0_1 : Int) (s0_2 : Int) (r0 : Int) (r1 : Int) (r2 : Int) (r3 : Int) (h : spec_l1Cur_anyCell.f k s0_0 s0_1 s0_2 = some (r0, r1, r2, r3)) (n_s0_0 : Nat) (hn_s0_0 : s0_0.length = n_s0_0) (g_s0_0 : Nat → List V) (hg_s0_0 : encL eU s0_0 = g_s0_0)  : CallOK Try.prog 205 [.ptr 0 0] [.box 139 [.fz 1 n_s0_0 g_s0_0, .val (.int .i64 s0_1), .val (.int .u64 s0_2)]] (.agg [.val (.int .i64 r0), .val (.int .i64 r1)]) [.box 139 [.fz 1 n_s0_0 g_s0_0, .val (.int .i64 r2), .val (.int .u64 r3)]] := by
  refine CallOK.of_code tabOK Try.func205 rfl rfl ⟨[(7, [2, 3])], []⟩ ?_
  unfold spec_l1Cur_anyCell.f at h
  obtain ⟨P, hP⟩ : ∃ P, Try.prog = P := ⟨_, rfl⟩
  rw [hP]
  (try rw [hn_s0_0] at h); skip
  cbv
  repeat' (first
    | ((with_reducible show ∃ _, _)
       first
        | (refine ⟨trivial, ?_⟩; cbv)
        | (refine side (by first | with_reducible eq_refl | assumption | (intro _ _; with_reducible eq_refl) | exact lt_ix (by assumption) (by assumption) (by assumption) | exact lt_ix2 (by assumption) (by assumption) (by assumption) (by assumption) | exact lt_y (by assumption) (by assumption) | exact le_y (by assumption) | exact ge_y (by assumption) | exact cut_le (by assumption) (by assumption) | omega) ?_; (try cbv))
        | (refine ⟨.dead, ?_⟩; cbv)
        | (refine ⟨Frz.own, ?_⟩; cbv))
    | ((with_reducible show ∃ _ : List Nat, _)
       first
        | ((with_reducible (have h0 : Option.bind (spec_l1Cur_pick.f _ _ _ _) _ = some _ := h; clear h0))
           refine ⟨[0], ?_⟩; cbv
           repeat (first | (refine all_show (by first | omega | decide) ?_; cbv) | (refine all_showT (by assumption) (by assumption) (by assumption) (by first | assumption | exact lt_ix (by assumption) (by assumption) (by assumption) | exact lt_ix2 (by assumption) (by assumption) (by assumption) (by assumption) | exact lt_y (by assumption) (by assumption) | exact le_y (by assumption) | exact ge_y (by assumption) | exact cut_le (by assumption) (by assumption) | omega) (by first | assumption | exact cut_hi (by assumption) | exact cut_hi2 (by assumption) (by assumption) | omega) ?_; intro D hD hnD g hgD; (try rw [hD] at h); cbv))
           obtain ⟨⟨t0, t1, t2⟩, ht, h'⟩ := bind_some h
           clear h; have h := h'; clear h'; (try dsimp only at h)
           refine ⟨_, _, (hP ▸ spec_l1Cur_pick_ok _ _ _ _ _ _ _ ht _ (by first | assumption | rfl) _ (by assumption)  : CallOK P 122 _ _ _ _), ?_⟩; cbv)
        | ((with_reducible (have h0 : Option.bind (spec_l1Cur_among.f _ _ _ _) _ = some _ := h; clear h0))
           refine ⟨[0], ?_⟩; cbv
           repeat (first | (refine all_show (by first | omega | decide) ?_; cbv) | (refine all_showT (by assumption) (by assumption) (by assumption) (by first | assumption | exact lt_ix (by assumption) (by assumption) (by assumption) | exact lt_ix2 (by assumption) (by assumption) (by assumption) (by assumption) | exact lt_y (by assumption) (by assumption) | exact le_y (by assumption) | exact ge_y (by assumption) | exact cut_le (by assumption) (by assumption) | omega) (by first | assumption | exact cut_hi (by assumption) | exact cut_hi2 (by assumption) (by assumption) | omega) ?_; intro D hD hnD g hgD; (try rw [hD] at h); cbv))
           obtain ⟨⟨t0, t1, t2⟩, ht, h'⟩ := bind_some h
           clear h; have h := h'; clear h'; (try dsimp only at h)
           refine ⟨_, _, (hP ▸ spec_l1Cur_among_ok _ _ _ _ _ _ _ ht _ (by first | assumption | rfl) _ (by assumption) _ (by first | assumption | rfl) _ (by assumption)  : CallOK P 136 _ _ _ _), ?_⟩; cbv)
        | ((with_reducible (have h0 : Option.bind (spec_l1Cur_cell.f _ _ _ _) _ = some _ := h; clear h0))
           refine ⟨[0], ?_⟩; cbv
           repeat (first | (refine all_show (by first | omega | decide) ?_; cbv) | (refine all_showT (by assumption) (by assumption) (by assumption) (by first | assumption | exact lt_ix (by assumption) (by assumption) (by assumption) | exact lt_ix2 (by assumption) (by assumption) (by assumption) (by assumption) | exact lt_y (by assumption) (by assumption) | exact le_y (by assumption) | exact ge_y (by assumption) | exact cut_le (by assumption) (by assumption) | omega) (by first | assumption | exact cut_hi (by assumption) | exact cut_hi2 (by assumption) (by assumption) | omega) ?_; intro D hD hnD g hgD; (try rw [hD] at h); cbv))
           obtain ⟨⟨t0, t1, t2, t3⟩, ht, h'⟩ := bind_some h
           clear h; have h := h'; clear h'; (try dsimp only at h)
           refine ⟨_, _, (hP ▸ spec_l1Cur_cell_ok _ _ _ _ _ _ _ _ ht _ (by first | assumption | rfl) _ (by assumption)  : CallOK P 214 _ _ _ _), ?_⟩; cbv))
    | ((with_reducible show ∃ _ : Nat → List V, _)
       first
        | (refine all_buildI2 ?_; intro g_b hg_b; cbv)
        | (refine all_buildI3 ?_; intro g_b hg_b; cbv))
    | ((with_reducible show ∀ _ : Bool, _)
       first
        | (refine all_beq ?_ ?_ <;> (intro hd; first | exact absurd rfl hd | ((first | rw [if_pos hd] at h | rw [if_neg hd] at h | rw [if_pos (by omega)] at h | rw [if_neg (by omega)] at h | skip); (first | (rw [beq_pos hd] at h; (try simp only [bs, eq_self, if_true, if_false, reduceIte] at h)) | (rw [beq_neg hd] at h; (try simp only [bs, eq_self, if_true, if_false, reduceIte] at h)) | skip); cbv))))
    | (simp only [Option.some.injEq, Prod.mk.injEq] at h; obtain ⟨rfl, rfl, rfl, rfl⟩ := h)
    | trivial)

def spec_l1Cur_anyBoard.f (k : Nat) (s0_0 : List Int) (s0_1 : Int) (s0_2 : Int) : Option (Int × Int × (List (S116)) × Int × Int) := (spec_l1Cur_board.f k s0_0 s0_1 s0_2).bind fun bt1190 => ((spec_l1Cur_pick.f s0_0 bt1190.2.2.2.1 bt1190.2.2.2.2 36).bind fun bt1198 => (if bt1198.1 = 0 then ((spec_l1Cur_among.f s0_0 bt1198.2.1 bt1198.2.2 (([0, wrap64 (bt1190.1 + 1), 10, 11] : List Int))).bind fun bt1204 => (some (bt1204.1, bt1190.2.1, bt1190.2.2.1, bt1204.2.1, bt1204.2.2))) else (if bt1198.1 = 1 then ((spec_l1Cur_among.f s0_0 bt1198.2.1 bt1198.2.2 (([0, wrap64 (bt1190.2.1 + 1), 9, 10] : List Int))).bind fun bt1210 => (some (bt1190.1, bt1210.1, bt1190.2.2.1, bt1210.2.1, bt1210.2.2))) else (if bt1198.1 = 2 then ((spec_l1Cur_pick.f s0_0 bt1198.2.1 bt1198.2.2 (bt1190.2.2.1.length : Int)).bind fun bt1213 => ((spec_l1Cur_anyCell.f k s0_0 bt1213.2.1 bt1213.2.2).bind fun bt1216 => (if 0 ≤ bt1213.1 then (if bt1213.1 < (bt1190.2.2.1.length : Int) then (some (bt1190.1, bt1190.2.1, (bt1190.2.2.1.set (bt1213.1 : Int).toNat (⟨bt1216.1, bt1216.2.1⟩ : S116)), bt1216.2.2.1, bt1216.2.2.2)) else (none)) else (none)))) else (if bt1198.1 = 3 then (if 1 ≤ (bt1190.2.2.1.length : Int) then (some (bt1190.1, bt1190.2.1, (bt1190.2.2.1.drop (1 : Int).toNat), bt1198.2.1, bt1198.2.2)) else (none)) else (if bt1198.1 = 4 then (if 22 ≤ 17592186044416 then (some (11, 2, (List.replicate 22 z116), bt1198.2.1, bt1198.2.2)) else (none)) else (if bt1198.1 = 5 then (if 20 ≤ 17592186044416 then (some (2, 10, (List.replicate 20 z116), bt1198.2.1, bt1198.2.2)) else (none)) else (some (bt1190.1, bt1190.2.1, bt1190.2.2.1, bt1198.2.1, bt1198.2.2)))))))))

theorem spec_l1Cur_anyBoard_ok (k : Nat) (s0_0 : List Int) (s0_1 : Int) (s0_2 : Int) (r0 : Int) (r1 : Int) (r2 : (List (S116))) (r3 : Int) (r4 : Int) (h : spec_l1Cur_anyBoard.f k s0_0 s0_1 s0_2 = some (r0, r1, r2, r3, r4)) (n_s0_0 : Nat) (hn_s0_0 : s0_0.length = n_s0_0) (g_s0_0 : Nat → List V) (hg_s0_0 : encL eU s0_0 = g_s0_0) (n_r2 : Nat) (hn_r2 : r2.length = n_r2) (g_r2 : Nat → List V) (hg_r2 : encL e116 r2 = g_r2) : CallOK Try.prog 167 [.ptr 0 0] [.box 139 [.fz 1 n_s0_0 g_s0_0, .val (.int .i64 s0_1), .val (.int .u64 s0_2)]] (.agg [.val (.int .i64 r0), .val (.int .i64 r1), .row 1 0 n_r2]) [.box 139 [.fz 1 n_s0_0 g_s0_0, .val (.int .i64 r3), .val (.int .u64 r4)], .row 116 2 n_r2 g_r2] := by
  refine CallOK.of_code tabOK Try.func167 rfl rfl ⟨[(8, [0, 2, 3]), (9, [2, 3, 7]), (15, [2, 3])], []⟩ ?_
  unfold spec_l1Cur_anyBoard.f at h
  obtain ⟨P, hP⟩ : ∃ P, Try.prog = P := ⟨_, rfl⟩
  rw [hP]
  (try rw [hn_s0_0] at h); skip
  cbv
  repeat' (first
    | ((with_reducible show ∃ _, _)
       first
        | (refine ⟨trivial, ?_⟩; cbv)
        | (refine side (by first | with_reducible eq_refl | assumption | (intro _ _; with_reducible eq_refl) | exact lt_ix (by assumption) (by assumption) (by assumption) | exact lt_ix2 (by assumption) (by assumption) (by assumption) (by assumption) | exact lt_y (by assumption) (by assumption) | exact le_y (by assumption) | exact ge_y (by assumption) | exact cut_le (by assumption) (by assumption) | omega) ?_; (try cbv))
        | (refine bind_side (Eq.refl _) ?_; (try cbv))
        | (refine agree_side (Eq.refl _) ?_; (try cbv))
        | (refine agree_weak (Eq.refl _) ?_; (try cbv))
        | (refine ⟨.dead, ?_⟩; cbv)
        | (refine ⟨Frz.own, ?_⟩; cbv)
        | (refine ⟨.chain [(0, 7), (0, 9), (1, 7), (1, 9), (7, 0)], side (by decide +kernel) ?_⟩; cbv))
    | ((with_reducible show ∃ _ : List Nat, _)
       first
        | ((with_reducible (have h0 : Option.bind (spec_l1Cur_pick.f _ _ _ _) _ = some _ := h; clear h0))
           refine ⟨[0], ?_⟩; cbv
           repeat (first | (refine all_show (by first | omega | decide) ?_; cbv) | (refine all_showT (by assumption) (by assumption) (by assumption) (by first | assumption | exact lt_ix (by assumption) (by assumption) (by assumption) | exact lt_ix2 (by assumption) (by assumption) (by assumption) (by assumption) | exact lt_y (by assumption) (by assumption) | exact le_y (by assumption) | exact ge_y (by assumption) | exact cut_le (by assumption) (by assumption) | omega) (by first | assumption | exact cut_hi (by assumption) | exact cut_hi2 (by assumption) (by assumption) | omega) ?_; intro D hD hnD g hgD; (try rw [hD] at h); cbv))
           obtain ⟨⟨t0, t1, t2⟩, ht, h'⟩ := bind_some h
           clear h; have h := h'; clear h'; (try dsimp only at h)
           refine ⟨_, _, (hP ▸ spec_l1Cur_pick_ok _ _ _ _ _ _ _ ht _ (by first | assumption | rfl) _ (by assumption)  : CallOK P 122 _ _ _ _), ?_⟩; cbv)
        | ((with_reducible (have h0 : Option.bind (spec_l1Cur_among.f _ _ _ _) _ = some _ := h; clear h0))
           refine ⟨[0], ?_⟩; cbv
           repeat (first | (refine all_show (by first | omega | decide) ?_; cbv) | (refine all_showT (by assumption) (by assumption) (by assumption) (by first | assumption | exact lt_ix (by assumption) (by assumption) (by assumption) | exact lt_ix2 (by assumption) (by assumption) (by assumption) (by assumption) | exact lt_y (by assumption) (by assumption) | exact le_y (by assumption) | exact ge_y (by assumption) | exact cut_le (by assumption) (by assumption) | omega) (by first | assumption | exact cut_hi (by assumption) | exact cut_hi2 (by assumption) (by assumption) | omega) ?_; intro D hD hnD g hgD; (try rw [hD] at h); cbv))
           obtain ⟨⟨t0, t1, t2⟩, ht, h'⟩ := bind_some h
           clear h; have h := h'; clear h'; (try dsimp only at h)
           refine ⟨_, _, (hP ▸ spec_l1Cur_among_ok _ _ _ _ _ _ _ ht _ (by first | assumption | rfl) _ (by assumption) _ (by first | assumption | rfl) _ (by assumption)  : CallOK P 136 _ _ _ _), ?_⟩; cbv)
        | ((with_reducible (have h0 : Option.bind (spec_l1Cur_board.f _ _ _ _) _ = some _ := h; clear h0))
           refine ⟨[0], ?_⟩; cbv
           repeat (first | (refine all_show (by first | omega | decide) ?_; cbv) | (refine all_showT (by assumption) (by assumption) (by assumption) (by first | assumption | exact lt_ix (by assumption) (by assumption) (by assumption) | exact lt_ix2 (by assumption) (by assumption) (by assumption) (by assumption) | exact lt_y (by assumption) (by assumption) | exact le_y (by assumption) | exact ge_y (by assumption) | exact cut_le (by assumption) (by assumption) | omega) (by first | assumption | exact cut_hi (by assumption) | exact cut_hi2 (by assumption) (by assumption) | omega) ?_; intro D hD hnD g hgD; (try rw [hD] at h); cbv))
           obtain ⟨⟨t0, t1, t2, t3, t4⟩, ht, h'⟩ := bind_some h
           clear h; have h := h'; clear h'; (try dsimp only at h)
           obtain ⟨n_c204_2, hn_c204_2⟩ : ∃ n, t2.length = n := ⟨_, rfl⟩; obtain ⟨g_t, hg_c204_2⟩ : ∃ g, encL e116 t2 = g := ⟨_, rfl⟩; (try rw [hn_c204_2] at h)
           refine ⟨_, _, (hP ▸ spec_l1Cur_board_ok _ _ _ _ _ _ _ _ _ ht _ (by first | assumption | rfl) _ (by assumption) _ hn_c204_2 _ hg_c204_2 : CallOK P 204 _ _ _ _), ?_⟩; cbv)
        | ((with_reducible (have h0 : Option.bind (spec_l1Cur_anyCell.f _ _ _ _) _ = some _ := h; clear h0))
           refine ⟨[0], ?_⟩; cbv
           repeat (first | (refine all_show (by first | omega | decide) ?_; cbv) | (refine all_showT (by assumption) (by assumption) (by assumption) (by first | assumption | exact lt_ix (by assumption) (by assumption) (by assumption) | exact lt_ix2 (by assumption) (by assumption) (by assumption) (by assumption) | exact lt_y (by assumption) (by assumption) | exact le_y (by assumption) | exact ge_y (by assumption) | exact cut_le (by assumption) (by assumption) | omega) (by first | assumption | exact cut_hi (by assumption) | exact cut_hi2 (by assumption) (by assumption) | omega) ?_; intro D hD hnD g hgD; (try rw [hD] at h); cbv))
           obtain ⟨⟨t0, t1, t2, t3⟩, ht, h'⟩ := bind_some h
           clear h; have h := h'; clear h'; (try dsimp only at h)
           refine ⟨_, _, (hP ▸ spec_l1Cur_anyCell_ok _ _ _ _ _ _ _ _ ht _ (by first | assumption | rfl) _ (by assumption)  : CallOK P 205 _ _ _ _), ?_⟩; cbv))
    | ((with_reducible show ∃ _ : Nat → List V, _)
       first
        | (refine all_buildI4 ?_; intro g_b hg_b; cbv)
        | (refine all_putS e116 (x := ⟨_, _⟩) (by assumption) (by assumption) (by (first | assumption | exact lt_ix (by assumption) (by assumption) (by assumption) | exact lt_ix2 (by assumption) (by assumption) (by assumption) (by assumption) | exact lt_y (by assumption) (by assumption) | exact le_y (by assumption) | exact ge_y (by assumption) | exact cut_le (by assumption) (by assumption) | omega)) rfl (fun _ => rfl) ?_; intro L hL hnL g hgL; (try rw [hL] at h); (try rw [Option.bind_some] at h); (try rw [hnL] at h); cbv))
    | ((with_reducible show ∀ _ : Bool, _)
       first
        | (refine all_beq ?_ ?_ <;> (intro hd; first | exact absurd rfl hd | ((first | rw [if_pos hd] at h | rw [if_neg hd] at h | rw [if_pos (by omega)] at h | rw [if_neg (by omega)] at h | skip); (first | (rw [beq_pos hd] at h; (try simp only [bs, eq_self, if_true, if_false, reduceIte] at h)) | (rw [beq_neg hd] at h; (try simp only [bs, eq_self, if_true, if_false, reduceIte] at h)) | skip); cbv))))
    | ((with_reducible show ∀ _ : Int, _)
       first
        | (refine all_wrap ?_; intro y hy; (try rw [hy] at h); cbv)
        | (refine all_len ?_; intro y hy; (try replace hy : ((_ : Nat) : Int) = y := hy); (try rw [hy] at h); (try rw [show (NatCast.natCast _ : Int) = _ from hy] at h); cbv))
    | ((with_reducible show ∀ _ : Nat, _)
       first
        | (refine all_ix0 ?_; intro q hq; (try rw [hq] at h); cbv)
        | (refine all_mk e116 z116 20 rfl rfl ?_; intro L hL hnL g hgL; (try rw [hL] at h); (try rw [Option.bind_some] at h); (try rw [hnL] at h); cbv)
        | (refine all_mk e116 z116 22 rfl rfl ?_; intro L hL hnL g hgL; (try rw [hL] at h); (try rw [Option.bind_some] at h); (try rw [hnL] at h); cbv)
        | (intro off' n' ho hn'; obtain rfl : off' = _ := ho; (try replace hn' := cut_len hn' (by assumption)); (try replace hn' := cut_len0 hn'); cbv))
    | (obtain ⟨hc, h'⟩ := if_none h; clear h; have h := h'; clear h')
    | (simp only [Option.some.injEq, Prod.mk.injEq] at h; obtain ⟨rfl, rfl, rfl, rfl, rfl⟩ := h)
    | ((with_reducible show ∃ _, _)
       refine side (by first | exact enc_same (by assumption) (by assumption) _ | exact take_s1 (by assumption) (by assumption) (by assumption) | exact take_s2 (by assumption) (by assumption) (by assumption) (by assumption) (by assumption) | exact take_s3 (by assumption) (by assumption) (by assumption) | exact take_s4 (by assumption) (by assumption) (by assumption) | (intro k hk; subst_vars; first | eq_refl | exact enc_drop | exact enc_take hk | exact absurd hk (Nat.not_lt_zero k)) | (subst_vars; first | eq_refl | (simp; done) | (simp; omega)) | (have h1 : Int.toNat 1 = 1 := rfl; have h2 := one_le (by assumption) (by assumption); simp only [List.length_append, List.length_nil, List.length_drop, h1] at *; omega) | (simp only [Nat.cast] at *; omega)) ?_; (try cbv)))

def spec_l1In.f (a0 : Int) (a1 : Int) (a2 : Int) : Option (Bool) := if a0 ≥ a1 then (some (decide (a0 ≤ a2))) else (some false)

theorem spec_l1In_ok  (a0 : Int) (a1 : Int) (a2 : Int) (r0 : Bool) (h : spec_l1In.f a0 a1 a2 = some r0)   : CallOK Try.prog 155 [.val (.int .i64 a0), .val (.int .i64 a1), .val (.int .i64 a2)] [] (.val (.bool r0)) [] := by
  refine CallOK.of_code tabOK Try.func155 rfl rfl ⟨[], []⟩ ?_
  unfold spec_l1In.f at h
  obtain ⟨P, hP⟩ : ∃ P, Try.prog = P := ⟨_, rfl⟩
  rw [hP]
  skip
  cbv
  repeat' (first
    | ((with_reducible show ∃ _, _)
       first
        | (refine ⟨trivial, ?_⟩; cbv)
        | (refine side (by first | with_reducible eq_refl | assumption | (intro _ _; with_reducible eq_refl) | exact lt_ix (by assumption) (by assumption) (by assumption) | exact lt_ix2 (by assumption) (by assumption) (by assumption) (by assumption) | exact lt_y (by assumption) (by assumption) | exact le_y (by assumption) | exact ge_y (by assumption) | exact cut_le (by assumption) (by assumption) | omega) ?_; (try cbv)))
    | ((with_reducible show ∀ _ : Bool, _)
       first
        | (refine all_le ?_ ?_ <;> (intro hd; first | exact absurd rfl hd | ((first | rw [if_pos hd] at h | rw [if_neg hd] at h | rw [if_pos (by omega)] at h | rw [if_neg (by omega)] at h | skip); (first | (rw [decide_eq_true hd] at h; (try simp only [bs, eq_self, if_true, if_false, reduceIte] at h)) | (rw [decide_eq_false hd] at h; (try simp only [bs, eq_self, if_true, if_false, reduceIte] at h)) | skip); cbv))))
    | (simp only [Option.some.injEq, Prod.mk.injEq] at h; subst h)
    | trivial)

def spec_paGood.f (a0_0 : Int) (a0_1 : Int) : Option (Bool) := (spec_l1In.f a0_0 0 7).bind fun t1231 => (if t1231 = true then (if a0_1 = 0 then (some true) else (if a0_1 = 1 then ((spec_paTurning.f a0_0 a0_1).bind fun t1232 => (some t1232)) else (some false))) else (some false))

theorem spec_paGood_ok  (a0_0 : Int) (a0_1 : Int) (r0 : Bool) (h : spec_paGood.f a0_0 a0_1 = some r0)   : CallOK Try.prog 208 [.agg [.val (.int .i64 a0_0), .val (.int .i64 a0_1)]] [] (.val (.bool r0)) [] := by
  refine CallOK.of_code tabOK Try.func208 rfl rfl ⟨[], []⟩ ?_
  unfold spec_paGood.f at h
  obtain ⟨P, hP⟩ : ∃ P, Try.prog = P := ⟨_, rfl⟩
  rw [hP]
  skip
  cbv
  repeat' (first
    | ((with_reducible show ∃ _, _)
       first
        | (refine ⟨trivial, ?_⟩; cbv)
        | (refine side (by first | with_reducible eq_refl | assumption | (intro _ _; with_reducible eq_refl) | exact lt_ix (by assumption) (by assumption) (by assumption) | exact lt_ix2 (by assumption) (by assumption) (by assumption) (by assumption) | exact lt_y (by assumption) (by assumption) | exact le_y (by assumption) | exact ge_y (by assumption) | exact cut_le (by assumption) (by assumption) | omega) ?_; (try cbv))
        | (refine ⟨Frz.own, ?_⟩; cbv))
    | ((with_reducible show ∃ _ : List Nat, _)
       first
        | ((with_reducible (have h0 : Option.bind (spec_l1In.f _ _ _) _ = some _ := h; clear h0))
           refine ⟨[], ?_⟩; cbv
           repeat (first | (refine all_show (by first | omega | decide) ?_; cbv) | (refine all_showT (by assumption) (by assumption) (by assumption) (by first | assumption | exact lt_ix (by assumption) (by assumption) (by assumption) | exact lt_ix2 (by assumption) (by assumption) (by assumption) (by assumption) | exact lt_y (by assumption) (by assumption) | exact le_y (by assumption) | exact ge_y (by assumption) | exact cut_le (by assumption) (by assumption) | omega) (by first | assumption | exact cut_hi (by assumption) | exact cut_hi2 (by assumption) (by assumption) | omega) ?_; intro D hD hnD g hgD; (try rw [hD] at h); cbv))
           obtain ⟨t, ht, h'⟩ := bind_some h
           clear h; have h := h'; clear h'; (try dsimp only at h)
           refine ⟨_, _, (hP ▸ spec_l1In_ok _ _ _ _ ht   : CallOK P 155 _ _ _ _), ?_⟩
           rcases t with _ | _ <;> (try simp only [bs, eq_self, if_true, if_false, reduceIte] at h) <;> (try (cases h; done)) <;> cbv)
        | ((with_reducible (have h0 : Option.bind (spec_paTurning.f _ _) _ = some _ := h; clear h0))
           refine ⟨[], ?_⟩; cbv
           repeat (first | (refine all_show (by first | omega | decide) ?_; cbv) | (refine all_showT (by assumption) (by assumption) (by assumption) (by first | assumption | exact lt_ix (by assumption) (by assumption) (by assumption) | exact lt_ix2 (by assumption) (by assumption) (by assumption) (by assumption) | exact lt_y (by assumption) (by assumption) | exact le_y (by assumption) | exact ge_y (by assumption) | exact cut_le (by assumption) (by assumption) | omega) (by first | assumption | exact cut_hi (by assumption) | exact cut_hi2 (by assumption) (by assumption) | omega) ?_; intro D hD hnD g hgD; (try rw [hD] at h); cbv))
           obtain ⟨t, ht, h'⟩ := bind_some h
           clear h; have h := h'; clear h'; (try dsimp only at h)
           refine ⟨_, _, (hP ▸ spec_paTurning_ok _ _ _ ht   : CallOK P 224 _ _ _ _), ?_⟩
           rcases t with _ | _ <;> (try simp only [bs, eq_self, if_true, if_false, reduceIte] at h) <;> (try (cases h; done)) <;> cbv))
    | ((with_reducible show ∀ _ : Bool, _)
       first
        | (refine all_beq ?_ ?_ <;> (intro hd; first | exact absurd rfl hd | ((first | rw [if_pos hd] at h | rw [if_neg hd] at h | rw [if_pos (by omega)] at h | rw [if_neg (by omega)] at h | skip); (first | (rw [beq_pos hd] at h; (try simp only [bs, eq_self, if_true, if_false, reduceIte] at h)) | (rw [beq_neg hd] at h; (try simp only [bs, eq_self, if_true, if_false, reduceIte] at h)) | skip); cbv))))
    | (simp only [Option.some.injEq, Prod.mk.injEq] at h; subst h)
    | trivial)

def spec_boGood.l0 : Nat → List (S116) → Int → Int → Option (Bool)
  | 0, _, _, _ => none
  | k + 1, x27, x28, x29 => if x29 < x28 then (if 0 ≤ x29 then (if x29 < (x27.length : Int) then ((spec_paGood.f ((rd_T116 x27 x29).f0) ((rd_T116 x27 x29).f1)).bind fun t1238 => (if t1238 = true then (spec_boGood.l0 k x27 x28 (wrap64 (x29 + 1))) else (some false))) else (none)) else (none)) else (some true)
def spec_boGood.j0 : Nat → Bool → Int → Int → List (S116) → Option (Bool)
  | 0, _, _, _, _ => none
  | k + 1, x25, x1234000, x1234001, x1234002 => if x25 = true then (some false) else (spec_boGood.l0 k x1234002 (x1234002.length : Int) 0)
def spec_boGood.f (k : Nat) (a0_0 : Int) (a0_1 : Int) (l0_2 : List (S116)) : Option (Bool) := (spec_l1In.f a0_0 1 10).bind fun t1234 => (if t1234 = true then ((spec_l1In.f a0_1 1 9).bind fun t1235 => (if t1235 = true then (spec_boGood.j0 k ((l0_2.length : Int) != (wrap64 (a0_0 * a0_1))) a0_0 a0_1 l0_2) else (spec_boGood.j0 k true a0_0 a0_1 l0_2))) else (spec_boGood.j0 k true a0_0 a0_1 l0_2))

theorem spec_boGood_ok (k : Nat) (a0_0 : Int) (a0_1 : Int) (l0_2 : List (S116)) (r0 : Bool) (h : spec_boGood.f k a0_0 a0_1 l0_2 = some r0) (n_l0_2 : Nat) (hn_l0_2 : l0_2.length = n_l0_2) (g_l0_2 : Nat → List V) (hg_l0_2 : encL e116 l0_2 = g_l0_2)  : CallOK Try.prog 171 [.agg [.val (.int .i64 a0_0), .val (.int .i64 a0_1), .fz 2 n_l0_2 g_l0_2]] [] (.val (.bool r0)) [] := by
  refine CallOK.of_code tabOK Try.func171 rfl rfl ⟨[(2, []), (3, [1]), (9, [])], []⟩ ?_
  unfold spec_boGood.f at h
  obtain ⟨P, hP⟩ : ∃ P, Try.prog = P := ⟨_, rfl⟩
  rw [hP]
  (try rw [hn_l0_2] at h); skip
  cbv
  repeat' (first
    | ((with_reducible show ∃ _, _)
       first
        | (refine ⟨trivial, ?_⟩; cbv)
        | (refine side (by first | with_reducible eq_refl | assumption | (intro _ _; with_reducible eq_refl) | exact lt_ix (by assumption) (by assumption) (by assumption) | exact lt_ix2 (by assumption) (by assumption) (by assumption) (by assumption) | exact lt_y (by assumption) (by assumption) | exact le_y (by assumption) | exact ge_y (by assumption) | exact cut_le (by assumption) (by assumption) | omega) ?_; (try cbv))
        | (refine ⟨Frz.own, ?_⟩; cbv))
    | ((with_reducible show ∃ _ : Nat, _)
       first
        | (refine ⟨_, [27, 28, 29], Nat.lt_succ_self _, ?_⟩; cbv; exact ⟨_, _, _, _, _, h, by first | assumption | rfl, by first | assumption | rfl, rfl⟩))
    | ((with_reducible show ∃ _ : List Nat, _)
       first
        | ((with_reducible (have h0 : Option.bind (spec_l1In.f _ _ _) _ = some _ := h; clear h0))
           refine ⟨[], ?_⟩; cbv
           repeat (first | (refine all_show (by first | omega | decide) ?_; cbv) | (refine all_showT (by assumption) (by assumption) (by assumption) (by first | assumption | exact lt_ix (by assumption) (by assumption) (by assumption) | exact lt_ix2 (by assumption) (by assumption) (by assumption) (by assumption) | exact lt_y (by assumption) (by assumption) | exact le_y (by assumption) | exact ge_y (by assumption) | exact cut_le (by assumption) (by assumption) | omega) (by first | assumption | exact cut_hi (by assumption) | exact cut_hi2 (by assumption) (by assumption) | omega) ?_; intro D hD hnD g hgD; (try rw [hD] at h); cbv))
           obtain ⟨t, ht, h'⟩ := bind_some h
           clear h; have h := h'; clear h'; (try dsimp only at h)
           refine ⟨_, _, (hP ▸ spec_l1In_ok _ _ _ _ ht   : CallOK P 155 _ _ _ _), ?_⟩
           rcases t with _ | _ <;> (try simp only [bs, eq_self, if_true, if_false, reduceIte] at h) <;> (try (cases h; done)) <;> cbv)
        | ((with_reducible (have h0 : Option.bind (spec_paGood.f _ _) _ = some _ := h; clear h0))
           refine ⟨[], ?_⟩; cbv
           repeat (first | (refine all_show (by first | omega | decide) ?_; cbv) | (refine all_showT (by assumption) (by assumption) (by assumption) (by first | assumption | exact lt_ix (by assumption) (by assumption) (by assumption) | exact lt_ix2 (by assumption) (by assumption) (by assumption) (by assumption) | exact lt_y (by assumption) (by assumption) | exact le_y (by assumption) | exact ge_y (by assumption) | exact cut_le (by assumption) (by assumption) | omega) (by first | assumption | exact cut_hi (by assumption) | exact cut_hi2 (by assumption) (by assumption) | omega) ?_; intro D hD hnD g hgD; (try rw [hD] at h); cbv))
           obtain ⟨t, ht, h'⟩ := bind_some h
           clear h; have h := h'; clear h'; (try dsimp only at h)
           refine ⟨_, _, (hP ▸ spec_paGood_ok _ _ _ ht   : CallOK P 208 _ _ _ _), ?_⟩
           rcases t with _ | _ <;> (try simp only [bs, eq_self, if_true, if_false, reduceIte] at h) <;> (try (cases h; done)) <;> cbv))
    | ((with_reducible show ∃ _ : Nat → St → Prop, _)
       first
        | (refine ⟨fun k1 s => ∃ x27 x28 x29 n_x27 g_x27, spec_boGood.l0 k1 x27 x28 x29 = some r0 ∧ x27.length = n_x27 ∧ encL e116 x27 = g_x27 ∧ s = ⟨⟨37, (upd 37 (upd 37 (upd 37 noT 29 (.val (.int .i64 x29))) 28 (.val (.int .i64 x28))) 27 (.fz 2 n_x27 g_x27))⟩, []⟩, ?_, [], ?_⟩
           rotate_left
           · cbv; exact ⟨_, [27, 28, 29], by cbv; exact ⟨_, _, _, _, _, h, by first | assumption | rfl, by first | assumption | rfl, rfl⟩⟩
           clear h
           rintro (_ | k1) s1 ⟨x27, x28, x29, n_x27, g_x27, h, hn_x27, hg_x27, rfl⟩
           · cases h
           unfold spec_boGood.l0 at h
           (try rw [hn_x27] at h); skip
           cbv))
    | ((with_reducible (have h0 : spec_boGood.j0 _ _ _ _ _ = some _ := h; clear h0))
       first
        | (unfold spec_boGood.j0 at h
           rcases k with _ | k
           · cases h
           (try dsimp only at h); (try simp only [bs, eq_self, if_true, if_false, reduceIte] at h); (try rw [hn_l0_2] at h); (try rw [show (Nat.cast n_l0_2 : Int) = _ from (by assumption)] at h); (try rw [show (NatCast.natCast n_l0_2 : Int) = _ from (by assumption)] at h); (try (simp only [Nat.cast] at h; rw [show (NatCast.natCast n_l0_2 : Int) = _ from (by assumption)] at h)); (try rw [hn_x27] at h); (try rw [show (Nat.cast n_x27 : Int) = _ from (by assumption)] at h); (try rw [show (NatCast.natCast n_x27 : Int) = _ from (by assumption)] at h); (try (simp only [Nat.cast] at h; rw [show (NatCast.natCast n_x27 : Int) = _ from (by assumption)] at h))))
    | ((with_reducible show ∀ _ : Bool, _)
       first
        | (refine all_lt ?_ ?_ <;> (intro hd; first | exact absurd rfl hd | ((first | rw [if_pos hd] at h | rw [if_neg hd] at h | rw [if_pos (by omega)] at h | rw [if_neg (by omega)] at h | skip); (first | (rw [decide_eq_true hd] at h; (try simp only [bs, eq_self, if_true, if_false, reduceIte] at h)) | (rw [decide_eq_false hd] at h; (try simp only [bs, eq_self, if_true, if_false, reduceIte] at h)) | skip); cbv)))
        | (refine all_bne ?_ ?_ <;> (intro hd; first | exact absurd rfl hd | ((first | rw [if_pos hd] at h | rw [if_neg hd] at h | rw [if_pos (by omega)] at h | rw [if_neg (by omega)] at h | skip); (first | (rw [bne_pos hd] at h; (try simp only [bs, eq_self, if_true, if_false, reduceIte] at h)) | (rw [bne_neg hd] at h; (try simp only [bs, eq_self, if_true, if_false, reduceIte] at h)) | skip); cbv))))
    | ((with_reducible show ∀ _ : Int, _)
       first
        | (refine all_wrap ?_; intro y hy; (try rw [hy] at h); cbv)
        | (refine all_len_old (by assumption) ?_; cbv)
        | (refine all_len ?_; intro y hy; (try replace hy : ((_ : Nat) : Int) = y := hy); (try rw [hy] at h); (try rw [show (NatCast.natCast _ : Int) = _ from hy] at h); cbv))
    | ((with_reducible show ∀ _ : List V, _)
       first
        | (refine @all_rd _ _ e116 rd_T116 ?_ ?_ ?_ _ _ _ (fun _ _ => rfl) ?_ ?_ ?_ ?_ ?_ ?_
           rotate_left 3
           assumption
           assumption
           (first | rfl | assumption)
           (first | assumption | exact lt_ix (by assumption) (by assumption) (by assumption) | exact lt_ix2 (by assumption) (by assumption) (by assumption) (by assumption) | exact lt_y (by assumption) (by assumption) | exact le_y (by assumption) | exact ge_y (by assumption) | exact cut_le (by assumption) (by assumption) | omega)
           (first | assumption | exact lt_ix (by assumption) (by assumption) (by assumption) | exact lt_ix2 (by assumption) (by assumption) (by assumption) (by assumption) | exact lt_y (by assumption) (by assumption) | exact le_y (by assumption) | exact ge_y (by assumption) | exact cut_le (by assumption) (by assumption) | omega)
           intro z hz
           (try rw [hz] at h); cbv))
    | (obtain ⟨hc, h'⟩ := if_none h; clear h; have h := h'; clear h')
    | (simp only [Option.some.injEq, Prod.mk.injEq] at h; subst h)
    | trivial)

def spec_boParts.l0 : Nat → List Int → List (S116) → Int → Int → Option (List Int)
  | 0, _, _, _, _ => none
  | k + 1, x3, x8, x9, x10 => if x10 < x9 then (if 0 ≤ x10 then (if x10 < (x8.length : Int) then (if 0 ≤ ((rd_T116 x8 x10).f0) then (if ((rd_T116 x8 x10).f0) < (x3.length : Int) then (spec_boParts.l0 k (x3.set (((rd_T116 x8 x10).f0) : Int).toNat (wrap64 ((rd x3 ((rd_T116 x8 x10).f0)) + 1))) x8 x9 (wrap64 (x10 + 1))) else (none)) else (none)) else (none)) else (none)) else (some x3)
def spec_boParts.f (k : Nat) (a0_0 : Int) (a0_1 : Int) (l0_2 : List (S116)) : Option (List Int) := if 8 ≤ 35184372088832 then (spec_boParts.l0 k (List.replicate 8 0) l0_2 (l0_2.length : Int) 0) else (none)

theorem spec_boParts_ok (k : Nat) (a0_0 : Int) (a0_1 : Int) (l0_2 : List (S116)) (r0 : List Int) (h : spec_boParts.f k a0_0 a0_1 l0_2 = some r0) (n_l0_2 : Nat) (hn_l0_2 : l0_2.length = n_l0_2) (g_l0_2 : Nat → List V) (hg_l0_2 : encL e116 l0_2 = g_l0_2) (n_r0 : Nat) (hn_r0 : r0.length = n_r0) (g_r0 : Nat → List V) (hg_r0 : encL eI r0 = g_r0) : CallOK Try.prog 209 [.agg [.val (.int .i64 a0_0), .val (.int .i64 a0_1), .fz 2 n_l0_2 g_l0_2]] [] (.row 0 0 n_r0) [.row 3 1 n_r0 g_r0] := by
  refine CallOK.of_code tabOK Try.func209 rfl rfl ⟨[(6, [3, 8, 9, 10]), (7, [3])], []⟩ ?_
  unfold spec_boParts.f at h
  obtain ⟨P, hP⟩ : ∃ P, Try.prog = P := ⟨_, rfl⟩
  rw [hP]
  (try rw [hn_l0_2] at h); skip
  cbv
  repeat' (first
    | ((with_reducible show ∃ _, _)
       first
        | (refine ⟨trivial, ?_⟩; cbv)
        | (refine side (by first | with_reducible eq_refl | assumption | (intro _ _; with_reducible eq_refl) | exact lt_ix (by assumption) (by assumption) (by assumption) | exact lt_ix2 (by assumption) (by assumption) (by assumption) (by assumption) | exact lt_y (by assumption) (by assumption) | exact le_y (by assumption) | exact ge_y (by assumption) | exact cut_le (by assumption) (by assumption) | omega) ?_; (try cbv))
        | (refine bind_side (Eq.refl _) ?_; (try cbv))
        | (refine ⟨.row, ?_⟩; cbv))
    | ((with_reducible show ∃ _ : Nat, _)
       first
        | (refine ⟨_, [3, 8, 9, 10], Nat.lt_succ_self _, ?_⟩; cbv; exact ⟨_, _, _, _, _, _, _, _, h, by first | assumption | rfl, by first | assumption | rfl, by first | assumption | rfl, by first | assumption | rfl, rfl⟩))
    | ((with_reducible show ∃ _ : Nat → List V, _)
       first
        | (refine all_putS eI (by assumption) (by assumption) (by (first | assumption | exact lt_ix (by assumption) (by assumption) (by assumption) | exact lt_ix2 (by assumption) (by assumption) (by assumption) (by assumption) | exact lt_y (by assumption) (by assumption) | exact le_y (by assumption) | exact ge_y (by assumption) | exact cut_le (by assumption) (by assumption) | omega)) rfl (fun _ => rfl) ?_; intro L hL hnL g hgL; (try rw [hL] at h); (try rw [Option.bind_some] at h); (try rw [hnL] at h); cbv))
    | ((with_reducible show ∃ _ : Nat → St → Prop, _)
       first
        | (refine ⟨fun k1 s => ∃ x3 x8 x9 x10 n_x3 g_x3 n_x8 g_x8, spec_boParts.l0 k1 x3 x8 x9 x10 = some r0 ∧ x3.length = n_x3 ∧ encL eI x3 = g_x3 ∧ x8.length = n_x8 ∧ encL e116 x8 = g_x8 ∧ s = ⟨⟨23, (upd 23 (upd 23 (upd 23 (upd 23 noT 10 (.val (.int .i64 x10))) 9 (.val (.int .i64 x9))) 8 (.fz 2 n_x8 g_x8)) 3 (.row 0 0 n_x3))⟩, [.row 3 1 n_x3 g_x3]⟩, ?_, [], ?_⟩
           rotate_left
           · cbv; exact ⟨_, [3, 8, 9, 10], by cbv; exact ⟨_, _, _, _, _, _, _, _, h, by first | assumption | rfl, by first | assumption | rfl, by first | assumption | rfl, by first | assumption | rfl, rfl⟩⟩
           clear h
           rintro (_ | k1) s1 ⟨x3, x8, x9, x10, n_x3, g_x3, n_x8, g_x8, h, hn_x3, hg_x3, hn_x8, hg_x8, rfl⟩
           · cases h
           unfold spec_boParts.l0 at h
           (try rw [hn_x3] at h); (try rw [hn_x8] at h); skip
           cbv))
    | ((with_reducible show ∀ _ : Bool, _)
       first
        | (refine all_lt ?_ ?_ <;> (intro hd; first | exact absurd rfl hd | ((first | rw [if_pos hd] at h | rw [if_neg hd] at h | rw [if_pos (by omega)] at h | rw [if_neg (by omega)] at h | skip); (first | (rw [decide_eq_true hd] at h; (try simp only [bs, eq_self, if_true, if_false, reduceIte] at h)) | (rw [decide_eq_false hd] at h; (try simp only [bs, eq_self, if_true, if_false, reduceIte] at h)) | skip); cbv))))
    | ((with_reducible show ∀ _ : Int, _)
       first
        | (refine all_wrap ?_; intro y hy; (try rw [hy] at h); cbv)
        | (refine all_len ?_; intro y hy; (try replace hy : ((_ : Nat) : Int) = y := hy); (try rw [hy] at h); (try rw [show (NatCast.natCast _ : Int) = _ from hy] at h); cbv))
    | ((with_reducible show ∀ _ : Nat, _)
       first
        | (refine all_ix0_old (by assumption) ?_; cbv)
        | (refine all_ix0 ?_; intro q hq; (try rw [hq] at h); cbv)
        | (refine all_mk eI (0 : Int) 8 rfl rfl ?_; intro L hL hnL g hgL; (try rw [hL] at h); (try rw [Option.bind_some] at h); (try rw [hnL] at h); cbv))
    | ((with_reducible show ∀ _ : List V, _)
       first
        | (refine @all_rd _ _ eI rd ?_ ?_ ?_ _ _ _ (fun _ _ => rfl) ?_ ?_ ?_ ?_ ?_ ?_
           rotate_left 3
           assumption
           assumption
           (first | rfl | assumption)
           (first | assumption | exact lt_ix (by assumption) (by assumption) (by assumption) | exact lt_ix2 (by assumption) (by assumption) (by assumption) (by assumption) | exact lt_y (by assumption) (by assumption) | exact le_y (by assumption) | exact ge_y (by assumption) | exact cut_le (by assumption) (by assumption) | omega)
           (first | assumption | exact lt_ix (by assumption) (by assumption) (by assumption) | exact lt_ix2 (by assumption) (by assumption) (by assumption) (by assumption) | exact lt_y (by assumption) (by assumption) | exact le_y (by assumption) | exact ge_y (by assumption) | exact cut_le (by assumption) (by assumption) | omega)
           intro z hz
           (try rw [hz] at h); cbv)
        | (refine @all_rd _ _ e116 rd_T116 ?_ ?_ ?_ _ _ _ (fun _ _ => rfl) ?_ ?_ ?_ ?_ ?_ ?_
           rotate_left 3
           assumption
           assumption
           (first | rfl | assumption)
           (first | assumption | exact lt_ix (by assumption) (by assumption) (by assumption) | exact lt_ix2 (by assumption) (by assumption) (by assumption) (by assumption) | exact lt_y (by assumption) (by assumption) | exact le_y (by assumption) | exact ge_y (by assumption) | exact cut_le (by assumption) (by assumption) | omega)
           (first | assumption | exact lt_ix (by assumption) (by assumption) (by assumption) | exact lt_ix2 (by assumption) (by assumption) (by assumption) (by assumption) | exact lt_y (by assumption) (by assumption) | exact le_y (by assumption) | exact ge_y (by assumption) | exact cut_le (by assumption) (by assumption) | omega)
           intro z hz
           (try rw [hz] at h); cbv))
    | (obtain ⟨hc, h'⟩ := if_none h; clear h; have h := h'; clear h')
    | (simp only [Option.some.injEq, Prod.mk.injEq] at h; subst h)
    | ((with_reducible show ∃ _, _)
       refine side (by first | exact enc_same (by assumption) (by assumption) _ | exact take_s1 (by assumption) (by assumption) (by assumption) | exact take_s2 (by assumption) (by assumption) (by assumption) (by assumption) (by assumption) | exact take_s3 (by assumption) (by assumption) (by assumption) | exact take_s4 (by assumption) (by assumption) (by assumption) | (intro k hk; subst_vars; first | eq_refl | exact enc_drop | exact enc_take hk | exact absurd hk (Nat.not_lt_zero k)) | (subst_vars; first | eq_refl | (simp; done) | (simp; omega)) | (have h1 : Int.toNat 1 = 1 := rfl; have h2 := one_le (by assumption) (by assumption); simp only [List.length_append, List.length_nil, List.length_drop, h1] at *; omega) | (simp only [Nat.cast] at *; omega)) ?_; (try cbv)))

def spec_kiOf.f (k : Nat) (a0_0 : Int) (a0_1 : Int) (l0_2 : List (S116)) : Option (List Int) := (spec_boParts.f k a0_0 a0_1 l0_2).bind fun t1248 => (if 1 ≤ (t1248.length : Int) then (some (t1248.drop (1 : Int).toNat)) else (none))

theorem spec_kiOf_ok (k : Nat) (a0_0 : Int) (a0_1 : Int) (l0_2 : List (S116)) (r0 : List Int) (h : spec_kiOf.f k a0_0 a0_1 l0_2 = some r0) (n_l0_2 : Nat) (hn_l0_2 : l0_2.length = n_l0_2) (g_l0_2 : Nat → List V) (hg_l0_2 : encL e116 l0_2 = g_l0_2) (n_r0 : Nat) (hn_r0 : r0.length = n_r0) (g_r0 : Nat → List V) (hg_r0 : encL eI r0 = g_r0) : CallOK Try.prog 173 [.agg [.val (.int .i64 a0_0), .val (.int .i64 a0_1), .fz 2 n_l0_2 g_l0_2]] [] (.row 0 0 n_r0) [.row 3 1 n_r0 g_r0] := by
  refine CallOK.of_code tabOK Try.func173 rfl rfl ⟨[], []⟩ ?_
  unfold spec_kiOf.f at h
  obtain ⟨P, hP⟩ : ∃ P, Try.prog = P := ⟨_, rfl⟩
  rw [hP]
  (try rw [hn_l0_2] at h); skip
  cbv
  repeat' (first
    | ((with_reducible show ∃ _, _)
       first
        | (refine side (by first | with_reducible eq_refl | assumption | (intro _ _; with_reducible eq_refl) | exact lt_ix (by assumption) (by assumption) (by assumption) | exact lt_ix2 (by assumption) (by assumption) (by assumption) (by assumption) | exact lt_y (by assumption) (by assumption) | exact le_y (by assumption) | exact ge_y (by assumption) | exact cut_le (by assumption) (by assumption) | omega) ?_; (try cbv))
        | (refine bind_side (Eq.refl _) ?_; (try cbv))
        | (refine ⟨Frz.own, ?_⟩; cbv)
        | (refine ⟨.row, ?_⟩; cbv))
    | ((with_reducible show ∃ _ : List Nat, _)
       first
        | ((with_reducible (have h0 : Option.bind (spec_boParts.f _ _ _ _) _ = some _ := h; clear h0))
           refine ⟨[], ?_⟩; cbv
           repeat (first | (refine all_show (by first | omega | decide) ?_; cbv) | (refine all_showT (by assumption) (by assumption) (by assumption) (by first | assumption | exact lt_ix (by assumption) (by assumption) (by assumption) | exact lt_ix2 (by assumption) (by assumption) (by assumption) (by assumption) | exact lt_y (by assumption) (by assumption) | exact le_y (by assumption) | exact ge_y (by assumption) | exact cut_le (by assumption) (by assumption) | omega) (by first | assumption | exact cut_hi (by assumption) | exact cut_hi2 (by assumption) (by assumption) | omega) ?_; intro D hD hnD g hgD; (try rw [hD] at h); cbv))
           obtain ⟨t, ht, h'⟩ := bind_some h
           clear h; have h := h'; clear h'; (try dsimp only at h)
           obtain ⟨n_c209_0, hn_c209_0⟩ : ∃ n, t.length = n := ⟨_, rfl⟩; obtain ⟨g_t, hg_c209_0⟩ : ∃ g, encL eI t = g := ⟨_, rfl⟩; (try rw [hn_c209_0] at h)
           refine ⟨_, _, (hP ▸ spec_boParts_ok _ _ _ _ _ ht _ (by first | assumption | rfl) _ (by assumption) _ hn_c209_0 _ hg_c209_0 : CallOK P 209 _ _ _ _), ?_⟩; cbv))
    | ((with_reducible show ∀ _ : Int, _)
       first
        | (refine all_len ?_; intro y hy; (try replace hy : ((_ : Nat) : Int) = y := hy); (try rw [hy] at h); (try rw [show (NatCast.natCast _ : Int) = _ from hy] at h); cbv))
    | ((with_reducible show ∀ _ : Nat, _)
       first
        | (intro off' n' ho hn'; obtain rfl : off' = _ := ho; (try replace hn' := cut_len hn' (by assumption)); (try replace hn' := cut_len0 hn'); cbv))
    | (obtain ⟨hc, h'⟩ := if_none h; clear h; have h := h'; clear h')
    | (simp only [Option.some.injEq, Prod.mk.injEq] at h; subst h)
    | ((with_reducible show ∃ _, _)
       refine side (by first | exact enc_same (by assumption) (by assumption) _ | exact take_s1 (by assumption) (by assumption) (by assumption) | exact take_s2 (by assumption) (by assumption) (by assumption) (by assumption) (by assumption) | exact take_s3 (by assumption) (by assumption) (by assumption) | exact take_s4 (by assumption) (by assumption) (by assumption) | (intro k hk; subst_vars; first | eq_refl | exact enc_drop | exact enc_take hk | exact absurd hk (Nat.not_lt_zero k)) | (subst_vars; first | eq_refl | (simp; done) | (simp; omega)) | (have h1 : Int.toNat 1 = 1 := rfl; have h2 := one_le (by assumption) (by assumption); simp only [List.length_append, List.length_nil, List.length_drop, h1] at *; omega) | (simp only [Nat.cast] at *; omega)) ?_; (try cbv)))

def spec_l1Most.f (a0 : Int) (a1 : Int) : Option (Int) := if a0 > a1 then (some a0) else (some a1)

theorem spec_l1Most_ok  (a0 : Int) (a1 : Int) (r0 : Int) (h : spec_l1Most.f a0 a1 = some r0)   : CallOK Try.prog 174 [.val (.int .i64 a0), .val (.int .i64 a1)] [] (.val (.int .i64 r0)) [] := by
  refine CallOK.of_code tabOK Try.func174 rfl rfl ⟨[], []⟩ ?_
  unfold spec_l1Most.f at h
  obtain ⟨P, hP⟩ : ∃ P, Try.prog = P := ⟨_, rfl⟩
  rw [hP]
  skip
  cbv
  repeat' (first
    | ((with_reducible show ∃ _, _)
       first
        | (refine ⟨trivial, ?_⟩; cbv)
        | (refine side (by first | with_reducible eq_refl | assumption | (intro _ _; with_reducible eq_refl) | exact lt_ix (by assumption) (by assumption) (by assumption) | exact lt_ix2 (by assumption) (by assumption) (by assumption) (by assumption) | exact lt_y (by assumption) (by assumption) | exact le_y (by assumption) | exact ge_y (by assumption) | exact cut_le (by assumption) (by assumption) | omega) ?_; (try cbv)))
    | ((with_reducible show ∀ _ : Bool, _)
       first
        | (refine all_lt ?_ ?_ <;> (intro hd; first | exact absurd rfl hd | ((first | rw [if_pos hd] at h | rw [if_neg hd] at h | rw [if_pos (by omega)] at h | rw [if_neg (by omega)] at h | skip); (first | (rw [decide_eq_true hd] at h; (try simp only [bs, eq_self, if_true, if_false, reduceIte] at h)) | (rw [decide_eq_false hd] at h; (try simp only [bs, eq_self, if_true, if_false, reduceIte] at h)) | skip); cbv))))
    | (simp only [Option.some.injEq, Prod.mk.injEq] at h; subst h)
    | trivial)

def spec_l1Cur_kit.l0 : Nat → List Int → Int → List Int → Int → Int → Option (List Int × Int × Int)
  | 0, _, _, _, _, _ => none
  | k + 1, x3, x4, x1000, x1001, x1002 => if (x3.length : Int) < x4 then ((spec_l1Cur_pick.f x1000 x1001 x1002 20).bind fun bt1257 => ((spec_l1Cur_among.f x1000 bt1257.2.1 bt1257.2.2 (([0, 1, 2, 3, 5, bt1257.1, 600] : List Int))).bind fun bt1263 => (if x3.length < 17592186044416 then (spec_l1Cur_kit.l0 k (x3 ++ [bt1263.1]) x4 x1000 bt1263.2.1 bt1263.2.2) else (none)))) else ((spec_l1Cur_one.f x1000 x1001 x1002 24).bind fun bt1269 => (if bt1269.1 = true then ((spec_l1Cur_pick.f x1000 bt1269.2.1 bt1269.2.2 (x3.length : Int)).bind fun bt1272 => ((spec_l1Cur_among.f x1000 bt1272.2.1 bt1272.2.2 (([(-1), 601] : List Int))).bind fun bt1278 => (if 0 ≤ bt1272.1 then (if bt1272.1 < (x3.length : Int) then (some ((x3.set (bt1272.1 : Int).toNat bt1278.1), bt1278.2.1, bt1278.2.2)) else (none)) else (none)))) else (some (x3, bt1269.2.1, bt1269.2.2))))
def spec_l1Cur_kit.f (k : Nat) (s0_0 : List Int) (s0_1 : Int) (s0_2 : Int) : Option (List Int × Int × Int) := (spec_l1Cur_pick.f s0_0 s0_1 s0_2 24).bind fun bt1254 => (spec_l1Cur_kit.l0 k ([] : List Int) (wrap64 (7 - (wrap64 (Int.tdiv bt1254.1 23)))) s0_0 bt1254.2.1 bt1254.2.2)

theorem spec_l1Cur_kit_ok (k : Nat) (s0_0 : List Int) (s0_1 : Int) (s0_2 : Int) (r0 : List Int) (r1 : Int) (r2 : Int) (h : spec_l1Cur_kit.f k s0_0 s0_1 s0_2 = some (r0, r1, r2)) (n_s0_0 : Nat) (hn_s0_0 : s0_0.length = n_s0_0) (g_s0_0 : Nat → List V) (hg_s0_0 : encL eU s0_0 = g_s0_0) (n_r0 : Nat) (hn_r0 : r0.length = n_r0) (g_r0 : Nat → List V) (hg_r0 : encL eI r0 = g_r0) : CallOK Try.prog 182 [.ptr 0 0] [.box 139 [.fz 1 n_s0_0 g_s0_0, .val (.int .i64 s0_1), .val (.int .u64 s0_2)]] (.row 1 0 n_r0) [.box 139 [.fz 1 n_s0_0 g_s0_0, .val (.int .i64 r1), .val (.int .u64 r2)], .row 3 1 n_r0 g_r0] := by
  refine CallOK.of_code tabOK Try.func182 rfl rfl ⟨[(5, [0, 3]), (7, [3])], []⟩ ?_
  unfold spec_l1Cur_kit.f at h
  obtain ⟨P, hP⟩ : ∃ P, Try.prog = P := ⟨_, rfl⟩
  rw [hP]
  (try rw [hn_s0_0] at h); skip
  cbv
  repeat' (first
    | ((with_reducible show ∃ _, _)
       first
        | (refine ⟨trivial, ?_⟩; cbv)
        | (refine side (by first | with_reducible eq_refl | assumption | (intro _ _; with_reducible eq_refl) | exact lt_ix (by assumption) (by assumption) (by assumption) | exact lt_ix2 (by assumption) (by assumption) (by assumption) (by assumption) | exact lt_y (by assumption) (by assumption) | exact le_y (by assumption) | exact ge_y (by assumption) | exact cut_le (by assumption) (by assumption) | omega) ?_; (try cbv))
        | (refine bind_side (Eq.refl _) ?_; (try cbv))
        | (refine ⟨.dead, ?_⟩; cbv)
        | (refine ⟨Frz.own, ?_⟩; cbv)
        | (refine ⟨.row, ?_⟩; cbv))
    | ((with_reducible show ∃ _ : Nat, _)
       first
        | (refine ⟨_, [0, 3, 4], Nat.lt_succ_self _, ?_⟩; cbv; exact ⟨_, _, _, _, _, _, h, by first | assumption | rfl, by first | assumption | rfl, rfl⟩))
    | ((with_reducible show ∃ _ : List Nat, _)
       first
        | ((with_reducible (have h0 : Option.bind (spec_l1Cur_one.f _ _ _ _) _ = some _ := h; clear h0))
           refine ⟨[0], ?_⟩; cbv
           repeat (first | (refine all_show (by first | omega | decide) ?_; cbv) | (refine all_showT (by assumption) (by assumption) (by assumption) (by first | assumption | exact lt_ix (by assumption) (by assumption) (by assumption) | exact lt_ix2 (by assumption) (by assumption) (by assumption) (by assumption) | exact lt_y (by assumption) (by assumption) | exact le_y (by assumption) | exact ge_y (by assumption) | exact cut_le (by assumption) (by assumption) | omega) (by first | assumption | exact cut_hi (by assumption) | exact cut_hi2 (by assumption) (by assumption) | omega) ?_; intro D hD hnD g hgD; (try rw [hD] at h); cbv))
           obtain ⟨⟨t0, t1, t2⟩, ht, h'⟩ := bind_some h
           clear h; have h := h'; clear h'; (try dsimp only at h)
           refine ⟨_, _, (hP ▸ spec_l1Cur_one_ok _ _ _ _ _ _ _ ht _ (by first | assumption | rfl) _ (by assumption)  : CallOK P 121 _ _ _ _), ?_⟩
           rcases t0 with _ | _ <;> (try simp only [bs, eq_self, if_true, if_false, reduceIte] at h) <;> (try (cases h; done)) <;> cbv)
        | ((with_reducible (have h0 : Option.bind (spec_l1Cur_pick.f _ _ _ _) _ = some _ := h; clear h0))
           refine ⟨[0], ?_⟩; cbv
           repeat (first | (refine all_show (by first | omega | decide) ?_; cbv) | (refine all_showT (by assumption) (by assumption) (by assumption) (by first | assumption | exact lt_ix (by assumption) (by assumption) (by assumption) | exact lt_ix2 (by assumption) (by assumption) (by assumption) (by assumption) | exact lt_y (by assumption) (by assumption) | exact le_y (by assumption) | exact ge_y (by assumption) | exact cut_le (by assumption) (by assumption) | omega) (by first | assumption | exact cut_hi (by assumption) | exact cut_hi2 (by assumption) (by assumption) | omega) ?_; intro D hD hnD g hgD; (try rw [hD] at h); cbv))
           obtain ⟨⟨t0, t1, t2⟩, ht, h'⟩ := bind_some h
           clear h; have h := h'; clear h'; (try dsimp only at h)
           refine ⟨_, _, (hP ▸ spec_l1Cur_pick_ok _ _ _ _ _ _ _ ht _ (by first | assumption | rfl) _ (by assumption)  : CallOK P 122 _ _ _ _), ?_⟩; cbv)
        | ((with_reducible (have h0 : Option.bind (spec_l1Cur_among.f _ _ _ _) _ = some _ := h; clear h0))
           refine ⟨[0], ?_⟩; cbv
           repeat (first | (refine all_show (by first | omega | decide) ?_; cbv) | (refine all_showT (by assumption) (by assumption) (by assumption) (by first | assumption | exact lt_ix (by assumption) (by assumption) (by assumption) | exact lt_ix2 (by assumption) (by assumption) (by assumption) (by assumption) | exact lt_y (by assumption) (by assumption) | exact le_y (by assumption) | exact ge_y (by assumption) | exact cut_le (by assumption) (by assumption) | omega) (by first | assumption | exact cut_hi (by assumption) | exact cut_hi2 (by assumption) (by assumption) | omega) ?_; intro D hD hnD g hgD; (try rw [hD] at h); cbv))
           obtain ⟨⟨t0, t1, t2⟩, ht, h'⟩ := bind_some h
           clear h; have h := h'; clear h'; (try dsimp only at h)
           refine ⟨_, _, (hP ▸ spec_l1Cur_among_ok _ _ _ _ _ _ _ ht _ (by first | assumption | rfl) _ (by assumption) _ (by first | assumption | rfl) _ (by assumption)  : CallOK P 136 _ _ _ _), ?_⟩; cbv))
    | ((with_reducible show ∃ _ : Nat → List V, _)
       first
        | (refine all_buildI1 ?_; intro g_b hg_b; cbv)
        | (refine all_buildI2 ?_; intro g_b hg_b; cbv)
        | (refine all_buildI7 ?_; intro g_b hg_b; cbv)
        | (refine all_putS eI (by assumption) (by assumption) (by (first | assumption | exact lt_ix (by assumption) (by assumption) (by assumption) | exact lt_ix2 (by assumption) (by assumption) (by assumption) (by assumption) | exact lt_y (by assumption) (by assumption) | exact le_y (by assumption) | exact ge_y (by assumption) | exact cut_le (by assumption) (by assumption) | omega)) rfl (fun _ => rfl) ?_; intro L hL hnL g hgL; (try rw [hL] at h); (try rw [Option.bind_some] at h); (try rw [hnL] at h); cbv))
    | ((with_reducible show ∃ _ : Nat → St → Prop, _)
       first
        | (refine ⟨fun k1 s => ∃ x3 x4 x1001 x1002 n_x3 g_x3, spec_l1Cur_kit.l0 k1 x3 x4 s0_0 x1001 x1002 = some (r0, r1, r2) ∧ x3.length = n_x3 ∧ encL eI x3 = g_x3 ∧ s = ⟨⟨33, (upd 33 (upd 33 (upd 33 noT 4 (.val (.int .i64 x4))) 3 (.row 1 0 n_x3)) 0 (.ptr 0 0))⟩, [.box 139 [.fz 1 n_s0_0 g_s0_0, .val (.int .i64 x1001), .val (.int .u64 x1002)], .row 3 1 n_x3 g_x3]⟩, ?_, [], ?_⟩
           rotate_left
           · cbv; exact ⟨_, [0, 3, 4], by cbv; exact ⟨_, _, _, _, _, _, h, by first | assumption | rfl, by first | assumption | rfl, rfl⟩⟩
           clear h
           rintro (_ | k1) s1 ⟨x3, x4, x1001, x1002, n_x3, g_x3, h, hn_x3, hg_x3, rfl⟩
           · cases h
           unfold spec_l1Cur_kit.l0 at h
           (try rw [hn_x3] at h); skip
           cbv))
    | ((with_reducible show ∀ _ : Bool, _)
       first
        | (refine all_lt ?_ ?_ <;> (intro hd; first | exact absurd rfl hd | ((first | rw [if_pos hd] at h | rw [if_neg hd] at h | rw [if_pos (by omega)] at h | rw [if_neg (by omega)] at h | skip); (first | (rw [decide_eq_true hd] at h; (try simp only [bs, eq_self, if_true, if_false, reduceIte] at h)) | (rw [decide_eq_false hd] at h; (try simp only [bs, eq_self, if_true, if_false, reduceIte] at h)) | skip); cbv))))
    | ((with_reducible show ∀ _ : Int, _)
       first
        | (refine all_wrap ?_; intro y hy; (try rw [hy] at h); cbv)
        | (refine all_len_old (by assumption) ?_; cbv)
        | (refine all_len ?_; intro y hy; (try replace hy : ((_ : Nat) : Int) = y := hy); (try rw [hy] at h); (try rw [show (NatCast.natCast _ : Int) = _ from hy] at h); cbv))
    | ((with_reducible show ∀ _ : Nat, _)
       first
        | (refine all_ix0 ?_; intro q hq; (try rw [hq] at h); cbv)
        | (refine all_app (by first | assumption | exact (rfl : encL _ ([] : List _) = _)) (by first | assumption | rfl) (by assumption) (by first | assumption | rfl) ?_; intro L hL n_L hnL g hgL; (try rw [hL] at h); (try rw [Option.bind_some] at h); (try rw [hnL] at h); cbv))
    | (obtain ⟨hc, h'⟩ := if_none h; clear h; have h := h'; clear h')
    | (simp only [Option.some.injEq, Prod.mk.injEq] at h; obtain ⟨rfl, rfl, rfl⟩ := h)
    | ((with_reducible show ∃ _, _)
       refine side (by first | exact enc_same (by assumption) (by assumption) _ | exact take_s1 (by assumption) (by assumption) (by assumption) | exact take_s2 (by assumption) (by assumption) (by assumption) (by assumption) (by assumption) | exact take_s3 (by assumption) (by assumption) (by assumption) | exact take_s4 (by assumption) (by assumption) (by assumption) | (intro k hk; subst_vars; first | eq_refl | exact enc_drop | exact enc_take hk | exact absurd hk (Nat.not_lt_zero k)) | (subst_vars; first | eq_refl | (simp; done) | (simp; omega)) | (have h1 : Int.toNat 1 = 1 := rfl; have h2 := one_le (by assumption) (by assumption); simp only [List.length_append, List.length_nil, List.length_drop, h1] at *; omega) | (simp only [Nat.cast] at *; omega)) ?_; (try cbv)))

def spec_l1Cur_enoughKit.l0 : Nat → List Int → Int → Int → List Int → Int → Int → Option (List Int × Int × Int)
  | 0, _, _, _, _, _, _ => none
  | k + 1, x5, x19, x20, x1000, x1001, x1002 => if x20 < x19 then (if 0 ≤ x20 then (if x20 < (x5.length : Int) then ((spec_l1Cur_among.f x1000 x1001 x1002 (([0, 0, 1, 4, (-1)] : List Int))).bind fun bt1299 => ((spec_l1Most.f 0 (wrap64 ((rd x5 x20) + bt1299.1))).bind fun t1302 => (spec_l1Cur_enoughKit.l0 k (x5.set (x20 : Int).toNat t1302) x19 (wrap64 (x20 + 1)) x1000 bt1299.2.1 bt1299.2.2))) else (none)) else (none)) else (some (x5, x1001, x1002))
def spec_l1Cur_enoughKit.j0 : Nat → Bool → List Int → Int → Int → Int → Int → List (S116) → Option (List Int × Int × Int)
  | 0, _, _, _, _, _, _, _ => none
  | k + 1, x13, x1000, x1001, x1002, x1283000, x1283001, x1283002 => if x13 = true then ((spec_l1Cur_kit.f k x1000 x1001 x1002).bind fun bt1287 => (some (bt1287.1, bt1287.2.1, bt1287.2.2))) else ((spec_kiOf.f k x1283000 x1283001 x1283002).bind fun t1292 => (spec_l1Cur_enoughKit.l0 k t1292 (t1292.length : Int) 0 x1000 x1001 x1002))
def spec_l1Cur_enoughKit.f (k : Nat) (s0_0 : List Int) (s0_1 : Int) (s0_2 : Int) (a1_0 : Int) (a1_1 : Int) (l1_2 : List (S116)) : Option (List Int × Int × Int) := (spec_boGood.f k a1_0 a1_1 l1_2).bind fun t1283 => (if t1283 = true then ((spec_l1Cur_one.f s0_0 s0_1 s0_2 3).bind fun bt1284 => (spec_l1Cur_enoughKit.j0 k bt1284.1 s0_0 bt1284.2.1 bt1284.2.2 a1_0 a1_1 l1_2)) else (spec_l1Cur_enoughKit.j0 k true s0_0 s0_1 s0_2 a1_0 a1_1 l1_2))

theorem spec_l1Cur_enoughKit_ok (k : Nat) (s0_0 : List Int) (s0_1 : Int) (s0_2 : Int) (a1_0 : Int) (a1_1 : Int) (l1_2 : List (S116)) (r0 : List Int) (r1 : Int) (r2 : Int) (h : spec_l1Cur_enoughKit.f k s0_0 s0_1 s0_2 a1_0 a1_1 l1_2 = some (r0, r1, r2)) (n_s0_0 : Nat) (hn_s0_0 : s0_0.length = n_s0_0) (g_s0_0 : Nat → List V) (hg_s0_0 : encL eU s0_0 = g_s0_0) (n_l1_2 : Nat) (hn_l1_2 : l1_2.length = n_l1_2) (g_l1_2 : Nat → List V) (hg_l1_2 : encL e116 l1_2 = g_l1_2) (n_r0 : Nat) (hn_r0 : r0.length = n_r0) (g_r0 : Nat → List V) (hg_r0 : encL eI r0 = g_r0) : CallOK Try.prog 168 [.ptr 0 0, .agg [.val (.int .i64 a1_0), .val (.int .i64 a1_1), .fz 2 n_l1_2 g_l1_2]] [.box 139 [.fz 1 n_s0_0 g_s0_0, .val (.int .i64 s0_1), .val (.int .u64 s0_2)]] (.row 1 0 n_r0) [.box 139 [.fz 1 n_s0_0 g_s0_0, .val (.int .i64 r1), .val (.int .u64 r2)], .row 3 1 n_r0 g_r0] := by
  refine CallOK.of_code tabOK Try.func168 rfl rfl ⟨[(3, [0, 3]), (8, [0, 5, 19, 20]), (9, [5])], []⟩ ?_
  unfold spec_l1Cur_enoughKit.f at h
  obtain ⟨P, hP⟩ : ∃ P, Try.prog = P := ⟨_, rfl⟩
  rw [hP]
  (try rw [hn_s0_0] at h); (try rw [hn_l1_2] at h); skip
  cbv
  repeat' (first
    | ((with_reducible show ∃ _, _)
       first
        | (refine ⟨trivial, ?_⟩; cbv)
        | (refine side (by first | with_reducible eq_refl | assumption | (intro _ _; with_reducible eq_refl) | exact lt_ix (by assumption) (by assumption) (by assumption) | exact lt_ix2 (by assumption) (by assumption) (by assumption) (by assumption) | exact lt_y (by assumption) (by assumption) | exact le_y (by assumption) | exact ge_y (by assumption) | exact cut_le (by assumption) (by assumption) | omega) ?_; (try cbv))
        | (refine bind_side (Eq.refl _) ?_; (try cbv))
        | (refine agree_side (Eq.refl _) ?_; (try cbv))
        | (refine agree_weak (Eq.refl _) ?_; (try cbv))
        | (refine ⟨.dead, ?_⟩; cbv)
        | (refine ⟨Frz.own, ?_⟩; cbv)
        | (refine ⟨.row, ?_⟩; cbv)
        | (refine ⟨.chain [(0, 8), (0, 9), (0, 11), (1, 8), (1, 9), (1, 11), (2, 8), (2, 9), (3, 8), (3, 9), (4, 8), (4, 9), (5, 8), (5, 9), (6, 8)], side (by decide +kernel) ?_⟩; cbv))
    | ((with_reducible show ∃ _ : Nat, _)
       first
        | (refine ⟨_, [0, 5, 19, 20], Nat.lt_succ_self _, ?_⟩; cbv; exact ⟨_, _, _, _, _, _, _, h, by first | assumption | rfl, by first | assumption | rfl, rfl⟩))
    | ((with_reducible show ∃ _ : List Nat, _)
       first
        | ((with_reducible (have h0 : Option.bind (spec_l1Cur_one.f _ _ _ _) _ = some _ := h; clear h0))
           refine ⟨[0], ?_⟩; cbv
           repeat (first | (refine all_show (by first | omega | decide) ?_; cbv) | (refine all_showT (by assumption) (by assumption) (by assumption) (by first | assumption | exact lt_ix (by assumption) (by assumption) (by assumption) | exact lt_ix2 (by assumption) (by assumption) (by assumption) (by assumption) | exact lt_y (by assumption) (by assumption) | exact le_y (by assumption) | exact ge_y (by assumption) | exact cut_le (by assumption) (by assumption) | omega) (by first | assumption | exact cut_hi (by assumption) | exact cut_hi2 (by assumption) (by assumption) | omega) ?_; intro D hD hnD g hgD; (try rw [hD] at h); cbv))
           obtain ⟨⟨t0, t1, t2⟩, ht, h'⟩ := bind_some h
           clear h; have h := h'; clear h'; (try dsimp only at h)
           refine ⟨_, _, (hP ▸ spec_l1Cur_one_ok _ _ _ _ _ _ _ ht _ (by first | assumption | rfl) _ (by assumption)  : CallOK P 121 _ _ _ _), ?_⟩
           rcases t0 with _ | _ <;> (try simp only [bs, eq_self, if_true, if_false, reduceIte] at h) <;> (try (cases h; done)) <;> cbv)
        | ((with_reducible (have h0 : Option.bind (spec_l1Cur_among.f _ _ _ _) _ = some _ := h; clear h0))
           refine ⟨[0], ?_⟩; cbv
           repeat (first | (refine all_show (by first | omega | decide) ?_; cbv) | (refine all_showT (by assumption) (by assumption) (by assumption) (by first | assumption | exact lt_ix (by assumption) (by assumption) (by assumption) | exact lt_ix2 (by assumption) (by assumption) (by assumption) (by assumption) | exact lt_y (by assumption) (by assumption) | exact le_y (by assumption) | exact ge_y (by assumption) | exact cut_le (by assumption) (by assumption) | omega) (by first | assumption | exact cut_hi (by assumption) | exact cut_hi2 (by assumption) (by assumption) | omega) ?_; intro D hD hnD g hgD; (try rw [hD] at h); cbv))
           obtain ⟨⟨t0, t1, t2⟩, ht, h'⟩ := bind_some h
           clear h; have h := h'; clear h'; (try dsimp only at h)
           refine ⟨_, _, (hP ▸ spec_l1Cur_among_ok _ _ _ _ _ _ _ ht _ (by first | assumption | rfl) _ (by assumption) _ (by first | assumption | rfl) _ (by assumption)  : CallOK P 136 _ _ _ _), ?_⟩; cbv)
        | ((with_reducible (have h0 : Option.bind (spec_boGood.f _ _ _ _) _ = some _ := h; clear h0))
           refine ⟨[], ?_⟩; cbv
           repeat (first | (refine all_show (by first | omega | decide) ?_; cbv) | (refine all_showT (by assumption) (by assumption) (by assumption) (by first | assumption | exact lt_ix (by assumption) (by assumption) (by assumption) | exact lt_ix2 (by assumption) (by assumption) (by assumption) (by assumption) | exact lt_y (by assumption) (by assumption) | exact le_y (by assumption) | exact ge_y (by assumption) | exact cut_le (by assumption) (by assumption) | omega) (by first | assumption | exact cut_hi (by assumption) | exact cut_hi2 (by assumption) (by assumption) | omega) ?_; intro D hD hnD g hgD; (try rw [hD] at h); cbv))
           obtain ⟨t, ht, h'⟩ := bind_some h
           clear h; have h := h'; clear h'; (try dsimp only at h)
           refine ⟨_, _, (hP ▸ spec_boGood_ok _ _ _ _ _ ht _ (by first | assumption | rfl) _ (by assumption)  : CallOK P 171 _ _ _ _), ?_⟩
           rcases t with _ | _ <;> (try simp only [bs, eq_self, if_true, if_false, reduceIte] at h) <;> (try (cases h; done)) <;> cbv)
        | ((with_reducible (have h0 : Option.bind (spec_kiOf.f _ _ _ _) _ = some _ := h; clear h0))
           refine ⟨[], ?_⟩; cbv
           repeat (first | (refine all_show (by first | omega | decide) ?_; cbv) | (refine all_showT (by assumption) (by assumption) (by assumption) (by first | assumption | exact lt_ix (by assumption) (by assumption) (by assumption) | exact lt_ix2 (by assumption) (by assumption) (by assumption) (by assumption) | exact lt_y (by assumption) (by assumption) | exact le_y (by assumption) | exact ge_y (by assumption) | exact cut_le (by assumption) (by assumption) | omega) (by first | assumption | exact cut_hi (by assumption) | exact cut_hi2 (by assumption) (by assumption) | omega) ?_; intro D hD hnD g hgD; (try rw [hD] at h); cbv))
           obtain ⟨t, ht, h'⟩ := bind_some h
           clear h; have h := h'; clear h'; (try dsimp only at h)
           obtain ⟨n_c173_0, hn_c173_0⟩ : ∃ n, t.length = n := ⟨_, rfl⟩; obtain ⟨g_t, hg_c173_0⟩ : ∃ g, encL eI t = g := ⟨_, rfl⟩; (try rw [hn_c173_0] at h)
           refine ⟨_, _, (hP ▸ spec_kiOf_ok _ _ _ _ _ ht _ (by first | assumption | rfl) _ (by assumption) _ hn_c173_0 _ hg_c173_0 : CallOK P 173 _ _ _ _), ?_⟩; cbv)
        | ((with_reducible (have h0 : Option.bind (spec_l1Most.f _ _) _ = some _ := h; clear h0))
           refine ⟨[], ?_⟩; cbv
           repeat (first | (refine all_show (by first | omega | decide) ?_; cbv) | (refine all_showT (by assumption) (by assumption) (by assumption) (by first | assumption | exact lt_ix (by assumption) (by assumption) (by assumption) | exact lt_ix2 (by assumption) (by assumption) (by assumption) (by assumption) | exact lt_y (by assumption) (by assumption) | exact le_y (by assumption) | exact ge_y (by assumption) | exact cut_le (by assumption) (by assumption) | omega) (by first | assumption | exact cut_hi (by assumption) | exact cut_hi2 (by assumption) (by assumption) | omega) ?_; intro D hD hnD g hgD; (try rw [hD] at h); cbv))
           obtain ⟨t, ht, h'⟩ := bind_some h
           clear h; have h := h'; clear h'; (try dsimp only at h)
           refine ⟨_, _, (hP ▸ spec_l1Most_ok _ _ _ ht   : CallOK P 174 _ _ _ _), ?_⟩; cbv)
        | ((with_reducible (have h0 : Option.bind (spec_l1Cur_kit.f _ _ _ _) _ = some _ := h; clear h0))
           refine ⟨[0], ?_⟩; cbv
           repeat (first | (refine all_show (by first | omega | decide) ?_; cbv) | (refine all_showT (by assumption) (by assumption) (by assumption) (by first | assumption | exact lt_ix (by assumption) (by assumption) (by assumption) | exact lt_ix2 (by assumption) (by assumption) (by assumption) (by assumption) | exact lt_y (by assumption) (by assumption) | exact le_y (by assumption) | exact ge_y (by assumption) | exact cut_le (by assumption) (by assumption) | omega) (by first | assumption | exact cut_hi (by assumption) | exact cut_hi2 (by assumption) (by assumption) | omega) ?_; intro D hD hnD g hgD; (try rw [hD] at h); cbv))
           obtain ⟨⟨t0, t1, t2⟩, ht, h'⟩ := bind_some h
           clear h; have h := h'; clear h'; (try dsimp only at h)
           obtain ⟨n_c182_0, hn_c182_0⟩ : ∃ n, t0.length = n := ⟨_, rfl⟩; obtain ⟨g_t, hg_c182_0⟩ : ∃ g, encL eI t0 = g := ⟨_, rfl⟩; (try rw [hn_c182_0] at h)
           refine ⟨_, _, (hP ▸ spec_l1Cur_kit_ok _ _ _ _ _ _ _ ht _ (by first | assumption | rfl) _ (by assumption) _ hn_c182_0 _ hg_c182_0 : CallOK P 182 _ _ _ _), ?_⟩; cbv))
    | ((with_reducible show ∃ _ : Nat → List V, _)
       first
        | (refine all_buildI5 ?_; intro g_b hg_b; cbv)
        | (refine all_putS eI (by assumption) (by assumption) (by (first | assumption | exact lt_ix (by assumption) (by assumption) (by assumption) | exact lt_ix2 (by assumption) (by assumption) (by assumption) (by assumption) | exact lt_y (by assumption) (by assumption) | exact le_y (by assumption) | exact ge_y (by assumption) | exact cut_le (by assumption) (by assumption) | omega)) rfl (fun _ => rfl) ?_; intro L hL hnL g hgL; (try rw [hL] at h); (try rw [Option.bind_some] at h); (try rw [hnL] at h); cbv))
    | ((with_reducible show ∃ _ : Nat → St → Prop, _)
       first
        | (refine ⟨fun k1 s => ∃ x5 x19 x20 x1001 x1002 n_x5 g_x5, spec_l1Cur_enoughKit.l0 k1 x5 x19 x20 s0_0 x1001 x1002 = some (r0, r1, r2) ∧ x5.length = n_x5 ∧ encL eI x5 = g_x5 ∧ s = ⟨⟨37, (upd 37 (upd 37 (upd 37 (upd 37 noT 20 (.val (.int .i64 x20))) 19 (.val (.int .i64 x19))) 5 (.row 1 0 n_x5)) 0 (.ptr 0 0))⟩, [.box 139 [.fz 1 n_s0_0 g_s0_0, .val (.int .i64 x1001), .val (.int .u64 x1002)], .row 3 1 n_x5 g_x5]⟩, ?_, [], ?_⟩
           rotate_left
           · cbv; exact ⟨_, [0, 5, 19, 20], by cbv; exact ⟨_, _, _, _, _, _, _, h, by first | assumption | rfl, by first | assumption | rfl, rfl⟩⟩
           clear h
           rintro (_ | k1) s1 ⟨x5, x19, x20, x1001, x1002, n_x5, g_x5, h, hn_x5, hg_x5, rfl⟩
           · cases h
           unfold spec_l1Cur_enoughKit.l0 at h
           (try rw [hn_x5] at h); skip
           cbv))
    | ((with_reducible (have h0 : spec_l1Cur_enoughKit.j0 _ _ _ _ _ _ _ _ = some _ := h; clear h0))
       first
        | (unfold spec_l1Cur_enoughKit.j0 at h
           rcases k with _ | k
           · cases h
           (try dsimp only at h); (try simp only [bs, eq_self, if_true, if_false, reduceIte] at h); (try rw [hn_s0_0] at h); (try rw [show (Nat.cast n_s0_0 : Int) = _ from (by assumption)] at h); (try rw [show (NatCast.natCast n_s0_0 : Int) = _ from (by assumption)] at h); (try (simp only [Nat.cast] at h; rw [show (NatCast.natCast n_s0_0 : Int) = _ from (by assumption)] at h)); (try rw [hn_l1_2] at h); (try rw [show (Nat.cast n_l1_2 : Int) = _ from (by assumption)] at h); (try rw [show (NatCast.natCast n_l1_2 : Int) = _ from (by assumption)] at h); (try (simp only [Nat.cast] at h; rw [show (NatCast.natCast n_l1_2 : Int) = _ from (by assumption)] at h)); (try rw [hn_c173_0] at h); (try rw [show (Nat.cast n_c173_0 : Int) = _ from (by assumption)] at h); (try rw [show (NatCast.natCast n_c173_0 : Int) = _ from (by assumption)] at h); (try (simp only [Nat.cast] at h; rw [show (NatCast.natCast n_c173_0 : Int) = _ from (by assumption)] at h)); (try rw [hn_c182_0] at h); (try rw [show (Nat.cast n_c182_0 : Int) = _ from (by assumption)] at h); (try rw [show (NatCast.natCast n_c182_0 : Int) = _ from (by assumption)] at h); (try (simp only [Nat.cast] at h; rw [show (NatCast.natCast n_c182_0 : Int) = _ from (by assumption)] at h)); (try rw [hn_x5] at h); (try rw [show (Nat.cast n_x5 : Int) = _ from (by assumption)] at h); (try rw [show (NatCast.natCast n_x5 : Int) = _ from (by assumption)] at h); (try (simp only [Nat.cast] at h; rw [show (NatCast.natCast n_x5 : Int) = _ from (by assumption)] at h)); (try rw [hn_x1000] at h); (try rw [show (Nat.cast n_x1000 : Int) = _ from (by assumption)] at h); (try rw [show (NatCast.natCast n_x1000 : Int) = _ from (by assumption)] at h); (try (simp only [Nat.cast] at h; rw [show (NatCast.natCast n_x1000 : Int) = _ from (by assumption)] at h))))
    | ((with_reducible show ∀ _ : Bool, _)
       first
        | (refine all_lt ?_ ?_ <;> (intro hd; first | exact absurd rfl hd | ((first | rw [if_pos hd] at h | rw [if_neg hd] at h | rw [if_pos (by omega)] at h | rw [if_neg (by omega)] at h | skip); (first | (rw [decide_eq_true hd] at h; (try simp only [bs, eq_self, if_true, if_false, reduceIte] at h)) | (rw [decide_eq_false hd] at h; (try simp only [bs, eq_self, if_true, if_false, reduceIte] at h)) | skip); cbv))))
    | ((with_reducible show ∀ _ : Int, _)
       first
        | (refine all_wrap ?_; intro y hy; (try rw [hy] at h); cbv)
        | (refine all_len ?_; intro y hy; (try replace hy : ((_ : Nat) : Int) = y := hy); (try rw [hy] at h); (try rw [show (NatCast.natCast _ : Int) = _ from hy] at h); cbv))
    | ((with_reducible show ∀ _ : Nat, _)
       first
        | (refine all_ix0_old (by assumption) ?_; cbv)
        | (refine all_ix0 ?_; intro q hq; (try rw [hq] at h); cbv))
    | ((with_reducible show ∀ _ : List V, _)
       first
        | (refine @all_rd _ _ eI rd ?_ ?_ ?_ _ _ _ (fun _ _ => rfl) ?_ ?_ ?_ ?_ ?_ ?_
           rotate_left 3
           assumption
           assumption
           (first | rfl | assumption)
           (first | assumption | exact lt_ix (by assumption) (by assumption) (by assumption) | exact lt_ix2 (by assumption) (by assumption) (by assumption) (by assumption) | exact lt_y (by assumption) (by assumption) | exact le_y (by assumption) | exact ge_y (by assumption) | exact cut_le (by assumption) (by assumption) | omega)
           (first | assumption | exact lt_ix (by assumption) (by assumption) (by assumption) | exact lt_ix2 (by assumption) (by assumption) (by assumption) (by assumption) | exact lt_y (by assumption) (by assumption) | exact le_y (by assumption) | exact ge_y (by assumption) | exact cut_le (by assumption) (by assumption) | omega)
           intro z hz
           (try rw [hz] at h); cbv))
    | (obtain ⟨hc, h'⟩ := if_none h; clear h; have h := h'; clear h')
    | (simp only [Option.some.injEq, Prod.mk.injEq] at h; obtain ⟨rfl, rfl, rfl⟩ := h)
    | ((with_reducible show ∃ _, _)
       refine side (by first | exact enc_same (by assumption) (by assumption) _ | exact take_s1 (by assumption) (by assumption) (by assumption) | exact take_s2 (by assumption) (by assumption) (by assumption) (by assumption) (by assumption) | exact take_s3 (by assumption) (by assumption) (by assumption) | exact take_s4 (by assumption) (by assumption) (by assumption) | (intro k hk; subst_vars; first | eq_refl | exact enc_drop | exact enc_take hk | exact absurd hk (Nat.not_lt_zero k)) | (subst_vars; first | eq_refl | (simp; done) | (simp; omega)) | (have h1 : Int.toNat 1 = 1 := rfl; have h2 := one_le (by assumption) (by assumption); simp only [List.length_append, List.length_nil, List.length_drop, h1] at *; omega) | (simp only [Nat.cast] at *; omega)) ?_; (try cbv)))

def spec_DrawCanMake.f (k : Nat) (l0 : List Int) : Option (List Int × Int × Int × (List (S116))) := (spec_l1Cur_anyBoard.f k l0 0 0).bind fun bt1306 => ((spec_l1Cur_enoughKit.f k l0 bt1306.2.2.2.1 bt1306.2.2.2.2 bt1306.1 bt1306.2.1 bt1306.2.2.1).bind fun bt1314 => (some (bt1314.1, bt1306.1, bt1306.2.1, bt1306.2.2.1)))

theorem spec_DrawCanMake_ok (k : Nat) (l0 : List Int) (r0 : List Int) (r1 : Int) (r2 : Int) (r3 : (List (S116))) (h : spec_DrawCanMake.f k l0 = some (r0, r1, r2, r3)) (n_l0 : Nat) (hn_l0 : l0.length = n_l0) (g_l0 : Nat → List V) (hg_l0 : encL eU l0 = g_l0) (n_r0 : Nat) (hn_r0 : r0.length = n_r0) (g_r0 : Nat → List V) (hg_r0 : encL eI r0 = g_r0) (n_r3 : Nat) (hn_r3 : r3.length = n_r3) (g_r3 : Nat → List V) (hg_r3 : encL e116 r3 = g_r3) : CallOK Try.prog 59 [.fz 1 n_l0 g_l0] [] (.tup [.fz 1 n_r0 g_r0, .agg [.val (.int .i64 r1), .val (.int .i64 r2), .fz 2 n_r3 g_r3]]) [] := by
  refine CallOK.of_code tabOK Try.func59 rfl rfl ⟨[], []⟩ ?_
  unfold spec_DrawCanMake.f at h
  obtain ⟨P, hP⟩ : ∃ P, Try.prog = P := ⟨_, rfl⟩
  rw [hP]
  (try rw [hn_l0] at h); skip
  cbv
  repeat' (first
    | ((with_reducible show ∃ _, _)
       first
        | (refine ⟨trivial, ?_⟩; cbv)
        | (refine all_show (by first | omega | decide) ?_; cbv)
        | (refine side (by first | with_reducible eq_refl | assumption | (intro _ _; with_reducible eq_refl) | exact lt_ix (by assumption) (by assumption) (by assumption) | exact lt_ix2 (by assumption) (by assumption) (by assumption) (by assumption) | exact lt_y (by assumption) (by assumption) | exact le_y (by assumption) | exact ge_y (by assumption) | exact cut_le (by assumption) (by assumption) | omega) ?_; (try cbv))
        | (refine agree_side (Eq.refl _) ?_; (try cbv))
        | (refine ⟨Frz.frozen, ?_⟩; cbv)
        | (refine ⟨.row, ?_⟩; cbv)
        | (refine ⟨.chain [(3, 0)], side (by decide +kernel) ?_⟩; cbv))
    | ((with_reducible show ∃ _ : List Nat, _)
       first
        | ((with_reducible (have h0 : Option.bind (spec_l1Cur_anyBoard.f _ _ _ _) _ = some _ := h; clear h0))
           refine ⟨[2], ?_⟩; cbv
           repeat (first | (refine all_show (by first | omega | decide) ?_; cbv) | (refine all_showT (by assumption) (by assumption) (by assumption) (by first | assumption | exact lt_ix (by assumption) (by assumption) (by assumption) | exact lt_ix2 (by assumption) (by assumption) (by assumption) (by assumption) | exact lt_y (by assumption) (by assumption) | exact le_y (by assumption) | exact ge_y (by assumption) | exact cut_le (by assumption) (by assumption) | omega) (by first | assumption | exact cut_hi (by assumption) | exact cut_hi2 (by assumption) (by assumption) | omega) ?_; intro D hD hnD g hgD; (try rw [hD] at h); cbv))
           obtain ⟨⟨t0, t1, t2, t3, t4⟩, ht, h'⟩ := bind_some h
           clear h; have h := h'; clear h'; (try dsimp only at h)
           obtain ⟨n_c167_2, hn_c167_2⟩ : ∃ n, t2.length = n := ⟨_, rfl⟩; obtain ⟨g_t, hg_c167_2⟩ : ∃ g, encL e116 t2 = g := ⟨_, rfl⟩; (try rw [hn_c167_2] at h)
           refine ⟨_, _, (hP ▸ spec_l1Cur_anyBoard_ok _ _ _ _ _ _ _ _ _ ht _ (by first | assumption | rfl) _ (by assumption) _ hn_c167_2 _ hg_c167_2 : CallOK P 167 _ _ _ _), ?_⟩; cbv)
        | ((with_reducible (have h0 : Option.bind (spec_l1Cur_enoughKit.f _ _ _ _ _ _ _) _ = some _ := h; clear h0))
           refine ⟨[2], ?_⟩; cbv
           repeat (first | (refine all_show (by first | omega | decide) ?_; cbv) | (refine all_showT (by assumption) (by assumption) (by assumption) (by first | assumption | exact lt_ix (by assumption) (by assumption) (by assumption) | exact lt_ix2 (by assumption) (by assumption) (by assumption) (by assumption) | exact lt_y (by assumption) (by assumption) | exact le_y (by assumption) | exact ge_y (by assumption) | exact cut_le (by assumption) (by assumption) | omega) (by first | assumption | exact cut_hi (by assumption) | exact cut_hi2 (by assumption) (by assumption) | omega) ?_; intro D hD hnD g hgD; (try rw [hD] at h); cbv))
           obtain ⟨⟨t0, t1, t2⟩, ht, h'⟩ := bind_some h
           clear h; have h := h'; clear h'; (try dsimp only at h)
           obtain ⟨n_c168_0, hn_c168_0⟩ : ∃ n, t0.length = n := ⟨_, rfl⟩; obtain ⟨g_t, hg_c168_0⟩ : ∃ g, encL eI t0 = g := ⟨_, rfl⟩; (try rw [hn_c168_0] at h)
           refine ⟨_, _, (hP ▸ spec_l1Cur_enoughKit_ok _ _ _ _ _ _ _ _ _ _ ht _ (by first | assumption | rfl) _ (by assumption) _ (by first | assumption | rfl) _ (by assumption) _ hn_c168_0 _ hg_c168_0 : CallOK P 168 _ _ _ _), ?_⟩; cbv))
    | (simp only [Option.some.injEq, Prod.mk.injEq] at h; obtain ⟨rfl, rfl, rfl, rfl⟩ := h)
    | ((with_reducible show ∃ _, _)
       refine side (by first | exact enc_same (by assumption) (by assumption) _ | exact take_s1 (by assumption) (by assumption) (by assumption) | exact take_s2 (by assumption) (by assumption) (by assumption) (by assumption) (by assumption) | exact take_s3 (by assumption) (by assumption) (by assumption) | exact take_s4 (by assumption) (by assumption) (by assumption) | (intro k hk; subst_vars; first | eq_refl | exact enc_drop | exact enc_take hk | exact absurd hk (Nat.not_lt_zero k)) | (subst_vars; first | eq_refl | (simp; done) | (simp; omega)) | (have h1 : Int.toNat 1 = 1 := rfl; have h2 := one_le (by assumption) (by assumption); simp only [List.length_append, List.length_nil, List.length_drop, h1] at *; omega) | (simp only [Nat.cast] at *; omega)) ?_; (try cbv))
    | trivial)

def impl_isKit.l0 : Nat → List Int → Int → Int → Option (Bool)
  | 0, _, _, _ => none
  | k + 1, x8, x9, x10 => if x10 < x9 then (if 0 ≤ x10 then (if x10 < (x8.length : Int) then (if (rd x8 x10) < 0 then (some false) else (if (rd x8 x10) > 600 then (some false) else (impl_isKit.l0 k x8 x9 (wrap64 (x10 + 1))))) else (none)) else (none)) else (some true)
def impl_isKit.f (k : Nat) (l0 : List Int) : Option (Bool) := if (l0.length : Int) = 7 then (impl_isKit.l0 k l0 (l0.length : Int) 0) else (some false)

theorem impl_isKit_ok (k : Nat) (l0 : List Int) (r0 : Bool) (h : impl_isKit.f k l0 = some r0) (n_l0 : Nat) (hn_l0 : l0.length = n_l0) (g_l0 : Nat → List V) (hg_l0 : encL eI l0 = g_l0)  : CallOK Try.prog 115 [.fz 1 n_l0 g_l0] [] (.val (.bool r0)) [] := by
  refine CallOK.of_code tabOK Try.func115 rfl rfl ⟨[(7, []), (8, [8, 9, 10]), (9, [])], []⟩ ?_
  unfold impl_isKit.f at h
  obtain ⟨P, hP⟩ : ∃ P, Try.prog = P := ⟨_, rfl⟩
  rw [hP]
  (try rw [hn_l0] at h); skip
  cbv
  repeat' (first
    | ((with_reducible show ∃ _, _)
       first
        | (refine ⟨trivial, ?_⟩; cbv)
        | (refine side (by first | with_reducible eq_refl | assumption | (intro _ _; with_reducible eq_refl) | exact lt_ix (by assumption) (by assumption) (by assumption) | exact lt_ix2 (by assumption) (by assumption) (by assumption) (by assumption) | exact lt_y (by assumption) (by assumption) | exact le_y (by assumption) | exact ge_y (by assumption) | exact cut_le (by assumption) (by assumption) | omega) ?_; (try cbv)))
    | ((with_reducible show ∃ _ : Nat, _)
       first
        | (refine ⟨_, [8, 9, 10], Nat.lt_succ_self _, ?_⟩; cbv; exact ⟨_, _, _, _, _, h, by first | assumption | rfl, by first | assumption | rfl, rfl⟩))
    | ((with_reducible show ∃ _ : Nat → St → Prop, _)
       first
        | (refine ⟨fun k1 s => ∃ x8 x9 x10 n_x8 g_x8, impl_isKit.l0 k1 x8 x9 x10 = some r0 ∧ x8.length = n_x8 ∧ encL eI x8 = g_x8 ∧ s = ⟨⟨21, (upd 21 (upd 21 (upd 21 noT 10 (.val (.int .i64 x10))) 9 (.val (.int .i64 x9))) 8 (.fz 1 n_x8 g_x8))⟩, []⟩, ?_, [], ?_⟩
           rotate_left
           · cbv; exact ⟨_, [8, 9, 10], by cbv; exact ⟨_, _, _, _, _, h, by first | assumption | rfl, by first | assumption | rfl, rfl⟩⟩
           clear h
           rintro (_ | k1) s1 ⟨x8, x9, x10, n_x8, g_x8, h, hn_x8, hg_x8, rfl⟩
           · cases h
           unfold impl_isKit.l0 at h
           (try rw [hn_x8] at h); skip
           cbv))
    | ((with_reducible show ∀ _ : Bool, _)
       first
        | (refine all_lt ?_ ?_ <;> (intro hd; first | exact absurd rfl hd | ((first | rw [if_pos hd] at h | rw [if_neg hd] at h | rw [if_pos (by omega)] at h | rw [if_neg (by omega)] at h | skip); (first | (rw [decide_eq_true hd] at h; (try simp only [bs, eq_self, if_true, if_false, reduceIte] at h)) | (rw [decide_eq_false hd] at h; (try simp only [bs, eq_self, if_true, if_false, reduceIte] at h)) | skip); cbv)))
        | (refine all_bne ?_ ?_ <;> (intro hd; first | exact absurd rfl hd | ((first | rw [if_pos hd] at h | rw [if_neg hd] at h | rw [if_pos (by omega)] at h | rw [if_neg (by omega)] at h | skip); (first | (rw [bne_pos hd] at h; (try simp only [bs, eq_self, if_true, if_false, reduceIte] at h)) | (rw [bne_neg hd] at h; (try simp only [bs, eq_self, if_true, if_false, reduceIte] at h)) | skip); cbv))))
    | ((with_reducible show ∀ _ : Int, _)
       first
        | (refine all_wrap ?_; intro y hy; (try rw [hy] at h); cbv)
        | (refine all_len_old (by assumption) ?_; cbv)
        | (refine all_len ?_; intro y hy; (try replace hy : ((_ : Nat) : Int) = y := hy); (try rw [hy] at h); (try rw [show (NatCast.natCast _ : Int) = _ from hy] at h); cbv))
    | ((with_reducible show ∀ _ : List V, _)
       first
        | (refine @all_rd _ _ eI rd ?_ ?_ ?_ _ _ _ (fun _ _ => rfl) ?_ ?_ ?_ ?_ ?_ ?_
           rotate_left 3
           assumption
           assumption
           (first | rfl | assumption)
           (first | assumption | exact lt_ix (by assumption) (by assumption) (by assumption) | exact lt_ix2 (by assumption) (by assumption) (by assumption) (by assumption) | exact lt_y (by assumption) (by assumption) | exact le_y (by assumption) | exact ge_y (by assumption) | exact cut_le (by assumption) (by assumption) | omega)
           (first | assumption | exact lt_ix (by assumption) (by assumption) (by assumption) | exact lt_ix2 (by assumption) (by assumption) (by assumption) (by assumption) | exact lt_y (by assumption) (by assumption) | exact le_y (by assumption) | exact ge_y (by assumption) | exact cut_le (by assumption) (by assumption) | omega)
           intro z hz
           (try rw [hz] at h); cbv))
    | (obtain ⟨hc, h'⟩ := if_none h; clear h; have h := h'; clear h')
    | (simp only [Option.some.injEq, Prod.mk.injEq] at h; subst h)
    | trivial)

def impl_isEnough.l0 : Nat → List Int → List Int → Int → Int → Option (Bool)
  | 0, _, _, _, _ => none
  | k + 1, x0, x7, x8, x9 => if x9 < x8 then (if 0 ≤ x9 then (if x9 < (x7.length : Int) then (if x9 < (x0.length : Int) then (if (rd x0 x9) < (rd x7 x9) then (some false) else (impl_isEnough.l0 k x0 x7 x8 (wrap64 (x9 + 1)))) else (none)) else (none)) else (none)) else (some true)
def impl_isEnough.f (k : Nat) (l0 : List Int) (l1 : List Int) : Option (Bool) := impl_isEnough.l0 k l0 l1 (l1.length : Int) 0

theorem impl_isEnough_ok (k : Nat) (l0 : List Int) (l1 : List Int) (r0 : Bool) (h : impl_isEnough.f k l0 l1 = some r0) (n_l0 : Nat) (hn_l0 : l0.length = n_l0) (g_l0 : Nat → List V) (hg_l0 : encL eI l0 = g_l0) (n_l1 : Nat) (hn_l1 : l1.length = n_l1) (g_l1 : Nat → List V) (hg_l1 : encL eI l1 = g_l1)  : CallOK Try.prog 117 [.fz 1 n_l0 g_l0, .fz 1 n_l1 g_l1] [] (.val (.bool r0)) [] := by
  refine CallOK.of_code tabOK Try.func117 rfl rfl ⟨[(5, []), (6, [0, 7, 8, 9]), (7, [])], []⟩ ?_
  unfold impl_isEnough.f at h
  obtain ⟨P, hP⟩ : ∃ P, Try.prog = P := ⟨_, rfl⟩
  rw [hP]
  (try rw [hn_l0] at h); (try rw [hn_l1] at h); skip
  cbv
  repeat' (first
    | ((with_reducible show ∃ _, _)
       first
        | (refine ⟨trivial, ?_⟩; cbv)
        | (refine side (by first | with_reducible eq_refl | assumption | (intro _ _; with_reducible eq_refl) | exact lt_ix (by assumption) (by assumption) (by assumption) | exact lt_ix2 (by assumption) (by assumption) (by assumption) (by assumption) | exact lt_y (by assumption) (by assumption) | exact le_y (by assumption) | exact ge_y (by assumption) | exact cut_le (by assumption) (by assumption) | omega) ?_; (try cbv)))
    | ((with_reducible show ∃ _ : Nat, _)
       first
        | (refine ⟨_, [0, 7, 8, 9], Nat.lt_succ_self _, ?_⟩; cbv; exact ⟨_, _, _, _, _, _, _, _, h, by first | assumption | rfl, by first | assumption | rfl, by first | assumption | rfl, by first | assumption | rfl, rfl⟩))
    | ((with_reducible show ∃ _ : Nat → St → Prop, _)
       first
        | (refine ⟨fun k1 s => ∃ x0 x7 x8 x9 n_x0 g_x0 n_x7 g_x7, impl_isEnough.l0 k1 x0 x7 x8 x9 = some r0 ∧ x0.length = n_x0 ∧ encL eI x0 = g_x0 ∧ x7.length = n_x7 ∧ encL eI x7 = g_x7 ∧ s = ⟨⟨21, (upd 21 (upd 21 (upd 21 (upd 21 noT 9 (.val (.int .i64 x9))) 8 (.val (.int .i64 x8))) 7 (.fz 1 n_x7 g_x7)) 0 (.fz 1 n_x0 g_x0))⟩, []⟩, ?_, [], ?_⟩
           rotate_left
           · cbv; exact ⟨_, [0, 7, 8, 9], by cbv; exact ⟨_, _, _, _, _, _, _, _, h, by first | assumption | rfl, by first | assumption | rfl, by first | assumption | rfl, by first | assumption | rfl, rfl⟩⟩
           clear h
           rintro (_ | k1) s1 ⟨x0, x7, x8, x9, n_x0, g_x0, n_x7, g_x7, h, hn_x0, hg_x0, hn_x7, hg_x7, rfl⟩
           · cases h
           unfold impl_isEnough.l0 at h
           (try rw [hn_x0] at h); (try rw [hn_x7] at h); skip
           cbv))
    | ((with_reducible show ∀ _ : Bool, _)
       first
        | (refine all_lt ?_ ?_ <;> (intro hd; first | exact absurd rfl hd | ((first | rw [if_pos hd] at h | rw [if_neg hd] at h | rw [if_pos (by omega)] at h | rw [if_neg (by omega)] at h | skip); (first | (rw [decide_eq_true hd] at h; (try simp only [bs, eq_self, if_true, if_false, reduceIte] at h)) | (rw [decide_eq_false hd] at h; (try simp only [bs, eq_self, if_true, if_false, reduceIte] at h)) | skip); cbv))))
    | ((with_reducible show ∀ _ : Int, _)
       first
        | (refine all_wrap ?_; intro y hy; (try rw [hy] at h); cbv)
        | (refine all_len ?_; intro y hy; (try replace hy : ((_ : Nat) : Int) = y := hy); (try rw [hy] at h); (try rw [show (NatCast.natCast _ : Int) = _ from hy] at h); cbv))
    | ((with_reducible show ∀ _ : List V, _)
       first
        | (refine @all_rd _ _ eI rd ?_ ?_ ?_ _ _ _ (fun _ _ => rfl) ?_ ?_ ?_ ?_ ?_ ?_
           rotate_left 3
           assumption
           assumption
           (first | rfl | assumption)
           (first | assumption | exact lt_ix (by assumption) (by assumption) (by assumption) | exact lt_ix2 (by assumption) (by assumption) (by assumption) (by assumption) | exact lt_y (by assumption) (by assumption) | exact le_y (by assumption) | exact ge_y (by assumption) | exact cut_le (by assumption) (by assumption) | omega)
           (first | assumption | exact lt_ix (by assumption) (by assumption) (by assumption) | exact lt_ix2 (by assumption) (by assumption) (by assumption) (by assumption) | exact lt_y (by assumption) (by assumption) | exact le_y (by assumption) | exact ge_y (by assumption) | exact cut_le (by assumption) (by assumption) | omega)
           intro z hz
           (try rw [hz] at h); cbv))
    | (obtain ⟨hc, h'⟩ := if_none h; clear h; have h := h'; clear h')
    | (simp only [Option.some.injEq, Prod.mk.injEq] at h; subst h)
    | trivial)

def impl_IsCell.f (a0_0 : Int) (a0_1 : Int) : Option (Bool) := if a0_0 < 0 then (some false) else (if a0_0 > 7 then (some false) else (if a0_1 < 0 then (some false) else (if a0_1 > 1 then (some false) else (if a0_1 = 0 then (some true) else (if a0_0 = 3 then (some true) else (some (a0_0 == 6)))))))

theorem impl_IsCell_ok  (a0_0 : Int) (a0_1 : Int) (r0 : Bool) (h : impl_IsCell.f a0_0 a0_1 = some r0)   : CallOK Try.prog 218 [.agg [.val (.int .i64 a0_0), .val (.int .i64 a0_1)]] [] (.val (.bool r0)) [] := by
  refine CallOK.of_code tabOK Try.func218 rfl rfl ⟨[(2, []), (3, [1])], []⟩ ?_
  unfold impl_IsCell.f at h
  obtain ⟨P, hP⟩ : ∃ P, Try.prog = P := ⟨_, rfl⟩
  rw [hP]
  skip
  cbv
  repeat' (first
    | ((with_reducible show ∃ _, _)
       first
        | (refine ⟨trivial, ?_⟩; cbv)
        | (refine side (by first | with_reducible eq_refl | assumption | (intro _ _; with_reducible eq_refl) | exact lt_ix (by assumption) (by assumption) (by assumption) | exact lt_ix2 (by assumption) (by assumption) (by assumption) (by assumption) | exact lt_y (by assumption) (by assumption) | exact le_y (by assumption) | exact ge_y (by assumption) | exact cut_le (by assumption) (by assumption) | omega) ?_; (try cbv)))
    | ((with_reducible show ∀ _ : Bool, _)
       first
        | (refine all_lt ?_ ?_ <;> (intro hd; first | exact absurd rfl hd | ((first | rw [if_pos hd] at h | rw [if_neg hd] at h | rw [if_pos (by omega)] at h | rw [if_neg (by omega)] at h | skip); (first | (rw [decide_eq_true hd] at h; (try simp only [bs, eq_self, if_true, if_false, reduceIte] at h)) | (rw [decide_eq_false hd] at h; (try simp only [bs, eq_self, if_true, if_false, reduceIte] at h)) | skip); cbv)))
        | (refine all_beq ?_ ?_ <;> (intro hd; first | exact absurd rfl hd | ((first | rw [if_pos hd] at h | rw [if_neg hd] at h | rw [if_pos (by omega)] at h | rw [if_neg (by omega)] at h | skip); (first | (rw [beq_pos hd] at h; (try simp only [bs, eq_self, if_true, if_false, reduceIte] at h)) | (rw [beq_neg hd] at h; (try simp only [bs, eq_self, if_true, if_false, reduceIte] at h)) | skip); cbv))))
    | (simp only [Option.some.injEq, Prod.mk.injEq] at h; subst h)
    | trivial)

def impl_validCells.l0 : Nat → List (S116) → Int → Int → Option (Bool)
  | 0, _, _, _ => none
  | k + 1, x8, x9, x10 => if x10 < x9 then (if 0 ≤ x10 then (if x10 < (x8.length : Int) then ((impl_IsCell.f ((rd_T116 x8 x10).f0) ((rd_T116 x8 x10).f1)).bind fun t1322 => (if t1322 = true then (impl_validCells.l0 k x8 x9 (wrap64 (x10 + 1))) else (some false))) else (none)) else (none)) else (some true)
def impl_validCells.f (k : Nat) (l0 : List (S116)) : Option (Bool) := if (l0.length : Int) > 90 then (some false) else (impl_validCells.l0 k l0 (l0.length : Int) 0)

theorem impl_validCells_ok (k : Nat) (l0 : List (S116)) (r0 : Bool) (h : impl_validCells.f k l0 = some r0) (n_l0 : Nat) (hn_l0 : l0.length = n_l0) (g_l0 : Nat → List V) (hg_l0 : encL e116 l0 = g_l0)  : CallOK Try.prog 206 [.fz 2 n_l0 g_l0] [] (.val (.bool r0)) [] := by
  refine CallOK.of_code tabOK Try.func206 rfl rfl ⟨[(9, [])], []⟩ ?_
  unfold impl_validCells.f at h
  obtain ⟨P, hP⟩ : ∃ P, Try.prog = P := ⟨_, rfl⟩
  rw [hP]
  (try rw [hn_l0] at h); skip
  cbv
  repeat' (first
    | ((with_reducible show ∃ _, _)
       first
        | (refine ⟨trivial, ?_⟩; cbv)
        | (refine side (by first | with_reducible eq_refl | assumption | (intro _ _; with_reducible eq_refl) | exact lt_ix (by assumption) (by assumption) (by assumption) | exact lt_ix2 (by assumption) (by assumption) (by assumption) (by assumption) | exact lt_y (by assumption) (by assumption) | exact le_y (by assumption) | exact ge_y (by assumption) | exact cut_le (by assumption) (by assumption) | omega) ?_; (try cbv))
        | (refine ⟨Frz.own, ?_⟩; cbv))
    | ((with_reducible show ∃ _ : Nat, _)
       first
        | (refine ⟨_, [8, 9, 10], Nat.lt_succ_self _, ?_⟩; cbv; exact ⟨_, _, _, _, _, h, by first | assumption | rfl, by first | assumption | rfl, rfl⟩))
    | ((with_reducible show ∃ _ : List Nat, _)
       first
        | ((with_reducible (have h0 : Option.bind (impl_IsCell.f _ _) _ = some _ := h; clear h0))
           refine ⟨[], ?_⟩; cbv
           repeat (first | (refine all_show (by first | omega | decide) ?_; cbv) | (refine all_showT (by assumption) (by assumption) (by assumption) (by first | assumption | exact lt_ix (by assumption) (by assumption) (by assumption) | exact lt_ix2 (by assumption) (by assumption) (by assumption) (by assumption) | exact lt_y (by assumption) (by assumption) | exact le_y (by assumption) | exact ge_y (by assumption) | exact cut_le (by assumption) (by assumption) | omega) (by first | assumption | exact cut_hi (by assumption) | exact cut_hi2 (by assumption) (by assumption) | omega) ?_; intro D hD hnD g hgD; (try rw [hD] at h); cbv))
           obtain ⟨t, ht, h'⟩ := bind_some h
           clear h; have h := h'; clear h'; (try dsimp only at h)
           refine ⟨_, _, (hP ▸ impl_IsCell_ok _ _ _ ht   : CallOK P 218 _ _ _ _), ?_⟩
           rcases t with _ | _ <;> (try simp only [bs, eq_self, if_true, if_false, reduceIte] at h) <;> (try (cases h; done)) <;> cbv))
    | ((with_reducible show ∃ _ : Nat → St → Prop, _)
       first
        | (refine ⟨fun k1 s => ∃ x8 x9 x10 n_x8 g_x8, impl_validCells.l0 k1 x8 x9 x10 = some r0 ∧ x8.length = n_x8 ∧ encL e116 x8 = g_x8 ∧ s = ⟨⟨18, (upd 18 (upd 18 (upd 18 noT 10 (.val (.int .i64 x10))) 9 (.val (.int .i64 x9))) 8 (.fz 2 n_x8 g_x8))⟩, []⟩, ?_, [], ?_⟩
           rotate_left
           · cbv; exact ⟨_, [8, 9, 10], by cbv; exact ⟨_, _, _, _, _, h, by first | assumption | rfl, by first | assumption | rfl, rfl⟩⟩
           clear h
           rintro (_ | k1) s1 ⟨x8, x9, x10, n_x8, g_x8, h, hn_x8, hg_x8, rfl⟩
           · cases h
           unfold impl_validCells.l0 at h
           (try rw [hn_x8] at h); skip
           cbv))
    | ((with_reducible show ∀ _ : Bool, _)
       first
        | (refine all_lt ?_ ?_ <;> (intro hd; first | exact absurd rfl hd | ((first | rw [if_pos hd] at h | rw [if_neg hd] at h | rw [if_pos (by omega)] at h | rw [if_neg (by omega)] at h | skip); (first | (rw [decide_eq_true hd] at h; (try simp only [bs, eq_self, if_true, if_false, reduceIte] at h)) | (rw [decide_eq_false hd] at h; (try simp only [bs, eq_self, if_true, if_false, reduceIte] at h)) | skip); cbv))))
    | ((with_reducible show ∀ _ : Int, _)
       first
        | (refine all_wrap ?_; intro y hy; (try rw [hy] at h); cbv)
        | (refine all_len_old (by assumption) ?_; cbv)
        | (refine all_len ?_; intro y hy; (try replace hy : ((_ : Nat) : Int) = y := hy); (try rw [hy] at h); (try rw [show (NatCast.natCast _ : Int) = _ from hy] at h); cbv))
    | ((with_reducible show ∀ _ : List V, _)
       first
        | (refine @all_rd _ _ e116 rd_T116 ?_ ?_ ?_ _ _ _ (fun _ _ => rfl) ?_ ?_ ?_ ?_ ?_ ?_
           rotate_left 3
           assumption
           assumption
           (first | rfl | assumption)
           (first | assumption | exact lt_ix (by assumption) (by assumption) (by assumption) | exact lt_ix2 (by assumption) (by assumption) (by assumption) (by assumption) | exact lt_y (by assumption) (by assumption) | exact le_y (by assumption) | exact ge_y (by assumption) | exact cut_le (by assumption) (by assumption) | omega)
           (first | assumption | exact lt_ix (by assumption) (by assumption) (by assumption) | exact lt_ix2 (by assumption) (by assumption) (by assumption) (by assumption) | exact lt_y (by assumption) (by assumption) | exact le_y (by assumption) | exact ge_y (by assumption) | exact cut_le (by assumption) (by assumption) | omega)
           intro z hz
           (try rw [hz] at h); cbv))
    | (obtain ⟨hc, h'⟩ := if_none h; clear h; have h := h'; clear h')
    | (simp only [Option.some.injEq, Prod.mk.injEq] at h; subst h)
    | trivial)

def impl_IsBoard.f (k : Nat) (a0_0 : Int) (a0_1 : Int) (l0_2 : List (S116)) : Option (Bool) := if a0_0 ≥ 1 then (if a0_0 ≤ 10 then (if a0_1 ≥ 1 then (if a0_1 ≤ 9 then (if (l0_2.length : Int) = (wrap64 (a0_0 * a0_1)) then ((impl_validCells.f k l0_2).bind fun t1324 => (some t1324)) else (some false)) else (some false)) else (some false)) else (some false)) else (some false)

theorem impl_IsBoard_ok (k : Nat) (a0_0 : Int) (a0_1 : Int) (l0_2 : List (S116)) (r0 : Bool) (h : impl_IsBoard.f k a0_0 a0_1 l0_2 = some r0) (n_l0_2 : Nat) (hn_l0_2 : l0_2.length = n_l0_2) (g_l0_2 : Nat → List V) (hg_l0_2 : encL e116 l0_2 = g_l0_2)  : CallOK Try.prog 169 [.agg [.val (.int .i64 a0_0), .val (.int .i64 a0_1), .fz 2 n_l0_2 g_l0_2]] [] (.val (.bool r0)) [] := by
  refine CallOK.of_code tabOK Try.func169 rfl rfl ⟨[], []⟩ ?_
  unfold impl_IsBoard.f at h
  obtain ⟨P, hP⟩ : ∃ P, Try.prog = P := ⟨_, rfl⟩
  rw [hP]
  (try rw [hn_l0_2] at h); skip
  cbv
  repeat' (first
    | ((with_reducible show ∃ _, _)
       first
        | (refine ⟨trivial, ?_⟩; cbv)
        | (refine side (by first | with_reducible eq_refl | assumption | (intro _ _; with_reducible eq_refl) | exact lt_ix (by assumption) (by assumption) (by assumption) | exact lt_ix2 (by assumption) (by assumption) (by assumption) (by assumption) | exact lt_y (by assumption) (by assumption) | exact le_y (by assumption) | exact ge_y (by assumption) | exact cut_le (by assumption) (by assumption) | omega) ?_; (try cbv))
        | (refine ⟨Frz.own, ?_⟩; cbv))
    | ((with_reducible show ∃ _ : List Nat, _)
       first
        | ((with_reducible (have h0 : Option.bind (impl_validCells.f _ _) _ = some _ := h; clear h0))
           refine ⟨[], ?_⟩; cbv
           repeat (first | (refine all_show (by first | omega | decide) ?_; cbv) | (refine all_showT (by assumption) (by assumption) (by assumption) (by first | assumption | exact lt_ix (by assumption) (by assumption) (by assumption) | exact lt_ix2 (by assumption) (by assumption) (by assumption) (by assumption) | exact lt_y (by assumption) (by assumption) | exact le_y (by assumption) | exact ge_y (by assumption) | exact cut_le (by assumption) (by assumption) | omega) (by first | assumption | exact cut_hi (by assumption) | exact cut_hi2 (by assumption) (by assumption) | omega) ?_; intro D hD hnD g hgD; (try rw [hD] at h); cbv))
           obtain ⟨t, ht, h'⟩ := bind_some h
           clear h; have h := h'; clear h'; (try dsimp only at h)
           refine ⟨_, _, (hP ▸ impl_validCells_ok _ _ _ ht _ (by first | assumption | rfl) _ (by assumption)  : CallOK P 206 _ _ _ _), ?_⟩
           rcases t with _ | _ <;> (try simp only [bs, eq_self, if_true, if_false, reduceIte] at h) <;> (try (cases h; done)) <;> cbv))
    | ((with_reducible show ∀ _ : Bool, _)
       first
        | (refine all_le ?_ ?_ <;> (intro hd; first | exact absurd rfl hd | ((first | rw [if_pos hd] at h | rw [if_neg hd] at h | rw [if_pos (by omega)] at h | rw [if_neg (by omega)] at h | skip); (first | (rw [decide_eq_true hd] at h; (try simp only [bs, eq_self, if_true, if_false, reduceIte] at h)) | (rw [decide_eq_false hd] at h; (try simp only [bs, eq_self, if_true, if_false, reduceIte] at h)) | skip); cbv)))
        | (refine all_beq ?_ ?_ <;> (intro hd; first | exact absurd rfl hd | ((first | rw [if_pos hd] at h | rw [if_neg hd] at h | rw [if_pos (by omega)] at h | rw [if_neg (by omega)] at h | skip); (first | (rw [beq_pos hd] at h; (try simp only [bs, eq_self, if_true, if_false, reduceIte] at h)) | (rw [beq_neg hd] at h; (try simp only [bs, eq_self, if_true, if_false, reduceIte] at h)) | skip); cbv))))
    | ((with_reducible show ∀ _ : Int, _)
       first
        | (refine all_wrap ?_; intro y hy; (try rw [hy] at h); cbv)
        | (refine all_len ?_; intro y hy; (try replace hy : ((_ : Nat) : Int) = y := hy); (try rw [hy] at h); (try rw [show (NatCast.natCast _ : Int) = _ from hy] at h); cbv))
    | (simp only [Option.some.injEq, Prod.mk.injEq] at h; subst h)
    | trivial)

def impl_CountKinds.l0 : Nat → List Int → List (S116) → Int → Int → Option (List Int × Bool)
  | 0, _, _, _, _ => none
  | k + 1, x4, x11, x12, x13 => if x13 < x12 then (if 0 ≤ x13 then (if x13 < (x11.length : Int) then (if 0 ≤ ((rd_T116 x11 x13).f0) then (if ((rd_T116 x11 x13).f0) < (x4.length : Int) then (impl_CountKinds.l0 k (x4.set (((rd_T116 x11 x13).f0) : Int).toNat (wrap64 ((rd x4 ((rd_T116 x11 x13).f0)) + 1))) x11 x12 (wrap64 (x13 + 1))) else (none)) else (none)) else (none)) else (none)) else (some (x4, true))
def impl_CountKinds.f (k : Nat) (l0 : List (S116)) : Option (List Int × Bool) := (impl_validCells.f k l0).bind fun t1325 => (if t1325 = true then (if 8 ≤ 35184372088832 then (impl_CountKinds.l0 k (List.replicate 8 0) l0 (l0.length : Int) 0) else (none)) else (some (([] : List Int), false)))

theorem impl_CountKinds_ok (k : Nat) (l0 : List (S116)) (r0 : List Int) (r1 : Bool) (h : impl_CountKinds.f k l0 = some (r0, r1)) (n_l0 : Nat) (hn_l0 : l0.length = n_l0) (g_l0 : Nat → List V) (hg_l0 : encL e116 l0 = g_l0) (n_r0 : Nat) (hn_r0 : r0.length = n_r0) (g_r0 : Nat → List V) (hg_r0 : encL eI r0 = g_r0) : CallOK Try.prog 207 [.fz 2 n_l0 g_l0] [] (.tup [.row 0 0 n_r0, .val (.bool r1)]) [.row 3 1 n_r0 g_r0] := by
  refine CallOK.of_code tabOK Try.func207 rfl rfl ⟨[(8, [4, 11, 12, 13]), (9, [4])], []⟩ ?_
  unfold impl_CountKinds.f at h
  obtain ⟨P, hP⟩ : ∃ P, Try.prog = P := ⟨_, rfl⟩
  rw [hP]
  (try rw [hn_l0] at h); skip
  cbv
  repeat' (first
    | ((with_reducible show ∃ _, _)
       first
        | (refine ⟨trivial, ?_⟩; cbv)
        | (refine side (by first | with_reducible eq_refl | assumption | (intro _ _; with_reducible eq_refl) | exact lt_ix (by assumption) (by assumption) (by assumption) | exact lt_ix2 (by assumption) (by assumption) (by assumption) (by assumption) | exact lt_y (by assumption) (by assumption) | exact le_y (by assumption) | exact ge_y (by assumption) | exact cut_le (by assumption) (by assumption) | omega) ?_; (try cbv))
        | (refine bind_side (Eq.refl _) ?_; (try cbv))
        | (refine ⟨.kept, side (Eq.refl _) (side (by first | trivial | exact ⟨clean_enc (by assumption) (by assumption) (fun _ => rfl), trivial⟩) ?_)⟩; cbv)
        | (refine ⟨Frz.own, ?_⟩; cbv)
        | (refine ⟨.row, ?_⟩; cbv))
    | ((with_reducible show ∃ _ : Nat, _)
       first
        | (refine ⟨_, [4, 11, 12, 13], Nat.lt_succ_self _, ?_⟩; cbv; exact ⟨_, _, _, _, _, _, _, _, h, by first | assumption | rfl, by first | assumption | rfl, by first | assumption | rfl, by first | assumption | rfl, rfl⟩))
    | ((with_reducible show ∃ _ : List Nat, _)
       first
        | ((with_reducible (have h0 : Option.bind (impl_validCells.f _ _) _ = some _ := h; clear h0))
           refine ⟨[], ?_⟩; cbv
           repeat (first | (refine all_show (by first | omega | decide) ?_; cbv) | (refine all_showT (by assumption) (by assumption) (by assumption) (by first | assumption | exact lt_ix (by assumption) (by assumption) (by assumption) | exact lt_ix2 (by assumption) (by assumption) (by assumption) (by assumption) | exact lt_y (by assumption) (by assumption) | exact le_y (by assumption) | exact ge_y (by assumption) | exact cut_le (by assumption) (by assumption) | omega) (by first | assumption | exact cut_hi (by assumption) | exact cut_hi2 (by assumption) (by assumption) | omega) ?_; intro D hD hnD g hgD; (try rw [hD] at h); cbv))
           obtain ⟨t, ht, h'⟩ := bind_some h
           clear h; have h := h'; clear h'; (try dsimp only at h)
           refine ⟨_, _, (hP ▸ impl_validCells_ok _ _ _ ht _ (by first | assumption | rfl) _ (by assumption)  : CallOK P 206 _ _ _ _), ?_⟩
           rcases t with _ | _ <;> (try simp only [bs, eq_self, if_true, if_false, reduceIte] at h) <;> (try (cases h; done)) <;> cbv))
    | ((with_reducible show ∃ _ : Nat → List V, _)
       first
        | (refine all_putS eI (by assumption) (by assumption) (by (first | assumption | exact lt_ix (by assumption) (by assumption) (by assumption) | exact lt_ix2 (by assumption) (by assumption) (by assumption) (by assumption) | exact lt_y (by assumption) (by assumption) | exact le_y (by assumption) | exact ge_y (by assumption) | exact cut_le (by assumption) (by assumption) | omega)) rfl (fun _ => rfl) ?_; intro L hL hnL g hgL; (try rw [hL] at h); (try rw [Option.bind_some] at h); (try rw [hnL] at h); cbv))
    | ((with_reducible show ∃ _ : Nat → St → Prop, _)
       first
        | (refine ⟨fun k1 s => ∃ x4 x11 x12 x13 n_x4 g_x4 n_x11 g_x11, impl_CountKinds.l0 k1 x4 x11 x12 x13 = some (r0, r1) ∧ x4.length = n_x4 ∧ encL eI x4 = g_x4 ∧ x11.length = n_x11 ∧ encL e116 x11 = g_x11 ∧ s = ⟨⟨26, (upd 26 (upd 26 (upd 26 (upd 26 noT 13 (.val (.int .i64 x13))) 12 (.val (.int .i64 x12))) 11 (.fz 2 n_x11 g_x11)) 4 (.row 0 0 n_x4))⟩, [.row 3 1 n_x4 g_x4]⟩, ?_, [], ?_⟩
           rotate_left
           · cbv; exact ⟨_, [4, 11, 12, 13], by cbv; exact ⟨_, _, _, _, _, _, _, _, h, by first | assumption | rfl, by first | assumption | rfl, by first | assumption | rfl, by first | assumption | rfl, rfl⟩⟩
           clear h
           rintro (_ | k1) s1 ⟨x4, x11, x12, x13, n_x4, g_x4, n_x11, g_x11, h, hn_x4, hg_x4, hn_x11, hg_x11, rfl⟩
           · cases h
           unfold impl_CountKinds.l0 at h
           (try rw [hn_x4] at h); (try rw [hn_x11] at h); skip
           cbv))
    | ((with_reducible show ∀ _ : Bool, _)
       first
        | (refine all_lt ?_ ?_ <;> (intro hd; first | exact absurd rfl hd | ((first | rw [if_pos hd] at h | rw [if_neg hd] at h | rw [if_pos (by omega)] at h | rw [if_neg (by omega)] at h | skip); (first | (rw [decide_eq_true hd] at h; (try simp only [bs, eq_self, if_true, if_false, reduceIte] at h)) | (rw [decide_eq_false hd] at h; (try simp only [bs, eq_self, if_true, if_false, reduceIte] at h)) | skip); cbv))))
    | ((with_reducible show ∀ _ : Int, _)
       first
        | (refine all_wrap ?_; intro y hy; (try rw [hy] at h); cbv)
        | (refine all_len ?_; intro y hy; (try replace hy : ((_ : Nat) : Int) = y := hy); (try rw [hy] at h); (try rw [show (NatCast.natCast _ : Int) = _ from hy] at h); cbv))
    | ((with_reducible show ∀ _ : Nat, _)
       first
        | (refine all_ix0_old (by assumption) ?_; cbv)
        | (refine all_ix0 ?_; intro q hq; (try rw [hq] at h); cbv)
        | (refine all_mk eI (0 : Int) 8 rfl rfl ?_; intro L hL hnL g hgL; (try rw [hL] at h); (try rw [Option.bind_some] at h); (try rw [hnL] at h); cbv))
    | ((with_reducible show ∀ _ : List V, _)
       first
        | (refine @all_rd _ _ eI rd ?_ ?_ ?_ _ _ _ (fun _ _ => rfl) ?_ ?_ ?_ ?_ ?_ ?_
           rotate_left 3
           assumption
           assumption
           (first | rfl | assumption)
           (first | assumption | exact lt_ix (by assumption) (by assumption) (by assumption) | exact lt_ix2 (by assumption) (by assumption) (by assumption) (by assumption) | exact lt_y (by assumption) (by assumption) | exact le_y (by assumption) | exact ge_y (by assumption) | exact cut_le (by assumption) (by assumption) | omega)
           (first | assumption | exact lt_ix (by assumption) (by assumption) (by assumption) | exact lt_ix2 (by assumption) (by assumption) (by assumption) (by assumption) | exact lt_y (by assumption) (by assumption) | exact le_y (by assumption) | exact ge_y (by assumption) | exact cut_le (by assumption) (by assumption) | omega)
           intro z hz
           (try rw [hz] at h); cbv)
        | (refine @all_rd _ _ e116 rd_T116 ?_ ?_ ?_ _ _ _ (fun _ _ => rfl) ?_ ?_ ?_ ?_ ?_ ?_
           rotate_left 3
           assumption
           assumption
           (first | rfl | assumption)
           (first | assumption | exact lt_ix (by assumption) (by assumption) (by assumption) | exact lt_ix2 (by assumption) (by assumption) (by assumption) (by assumption) | exact lt_y (by assumption) (by assumption) | exact le_y (by assumption) | exact ge_y (by assumption) | exact cut_le (by assumption) (by assumption) | omega)
           (first | assumption | exact lt_ix (by assumption) (by assumption) (by assumption) | exact lt_ix2 (by assumption) (by assumption) (by assumption) (by assumption) | exact lt_y (by assumption) (by assumption) | exact le_y (by assumption) | exact ge_y (by assumption) | exact cut_le (by assumption) (by assumption) | omega)
           intro z hz
           (try rw [hz] at h); cbv))
    | (obtain ⟨hc, h'⟩ := if_none h; clear h; have h := h'; clear h')
    | (simp only [Option.some.injEq, Prod.mk.injEq] at h; obtain ⟨rfl, rfl⟩ := h)
    | ((with_reducible show ∃ _, _)
       refine side (by first | exact enc_same (by assumption) (by assumption) _ | exact take_s1 (by assumption) (by assumption) (by assumption) | exact take_s2 (by assumption) (by assumption) (by assumption) (by assumption) (by assumption) | exact take_s3 (by assumption) (by assumption) (by assumption) | exact take_s4 (by assumption) (by assumption) (by assumption) | (intro k hk; subst_vars; first | eq_refl | exact enc_drop | exact enc_take hk | exact absurd hk (Nat.not_lt_zero k)) | (subst_vars; first | eq_refl | (simp; done) | (simp; omega)) | (have h1 : Int.toNat 1 = 1 := rfl; have h2 := one_le (by assumption) (by assumption); simp only [List.length_append, List.length_nil, List.length_drop, h1] at *; omega) | (simp only [Nat.cast] at *; omega)) ?_; (try cbv)))

def impl_neededParts.f (k : Nat) (a0_0 : Int) (a0_1 : Int) (l0_2 : List (S116)) : Option (List Int) := (impl_CountKinds.f k l0_2).bind fun bt1334 => ((some (([] : List Int) : List Int)).bind fun y1338 => (if 1 ≤ (bt1334.1.length : Int) then ((some (bt1334.1.drop 1 : List Int)).bind fun y1341 => (if y1338.length + y1341.length < 17592186044416 then (some (y1338 ++ y1341)) else (none))) else (none)))

theorem impl_neededParts_ok (k : Nat) (a0_0 : Int) (a0_1 : Int) (l0_2 : List (S116)) (r0 : List Int) (h : impl_neededParts.f k a0_0 a0_1 l0_2 = some r0) (n_l0_2 : Nat) (hn_l0_2 : l0_2.length = n_l0_2) (g_l0_2 : Nat → List V) (hg_l0_2 : encL e116 l0_2 = g_l0_2) (n_r0 : Nat) (hn_r0 : r0.length = n_r0) (g_r0 : Nat → List V) (hg_r0 : encL eI r0 = g_r0) : CallOK Try.prog 170 [.agg [.val (.int .i64 a0_0), .val (.int .i64 a0_1), .fz 2 n_l0_2 g_l0_2]] [] (.row 0 0 n_r0) [.row 3 1 n_r0 g_r0] := by
  refine CallOK.of_code tabOK Try.func170 rfl rfl ⟨[], []⟩ ?_
  unfold impl_neededParts.f at h
  obtain ⟨P, hP⟩ : ∃ P, Try.prog = P := ⟨_, rfl⟩
  rw [hP]
  (try rw [hn_l0_2] at h); skip
  cbv
  repeat' (first
    | ((with_reducible show ∃ _, _)
       first
        | (refine ⟨trivial, ?_⟩; cbv)
        | (refine side (by first | with_reducible eq_refl | assumption | (intro _ _; with_reducible eq_refl) | exact lt_ix (by assumption) (by assumption) (by assumption) | exact lt_ix2 (by assumption) (by assumption) (by assumption) (by assumption) | exact lt_y (by assumption) (by assumption) | exact le_y (by assumption) | exact ge_y (by assumption) | exact cut_le (by assumption) (by assumption) | omega) ?_; (try cbv))
        | (refine bind_side (Eq.refl _) ?_; (try cbv))
        | (refine ⟨Frz.own, ?_⟩; cbv)
        | (refine ⟨.row, ?_⟩; cbv))
    | ((with_reducible show ∃ _ : List Nat, _)
       first
        | ((with_reducible (have h0 : Option.bind (impl_CountKinds.f _ _) _ = some _ := h; clear h0))
           refine ⟨[], ?_⟩; cbv
           repeat (first | (refine all_show (by first | omega | decide) ?_; cbv) | (refine all_showT (by assumption) (by assumption) (by assumption) (by first | assumption | exact lt_ix (by assumption) (by assumption) (by assumption) | exact lt_ix2 (by assumption) (by assumption) (by assumption) (by assumption) | exact lt_y (by assumption) (by assumption) | exact le_y (by assumption) | exact ge_y (by assumption) | exact cut_le (by assumption) (by assumption) | omega) (by first | assumption | exact cut_hi (by assumption) | exact cut_hi2 (by assumption) (by assumption) | omega) ?_; intro D hD hnD g hgD; (try rw [hD] at h); cbv))
           obtain ⟨⟨t0, t1⟩, ht, h'⟩ := bind_some h
           clear h; have h := h'; clear h'; (try dsimp only at h)
           obtain ⟨n_c207_0, hn_c207_0⟩ : ∃ n, t0.length = n := ⟨_, rfl⟩; obtain ⟨g_t, hg_c207_0⟩ : ∃ g, encL eI t0 = g := ⟨_, rfl⟩; (try rw [hn_c207_0] at h)
           refine ⟨_, _, (hP ▸ impl_CountKinds_ok _ _ _ _ ht _ (by first | assumption | rfl) _ (by assumption) _ hn_c207_0 _ hg_c207_0 : CallOK P 207 _ _ _ _), ?_⟩
           rcases t1 with _ | _ <;> (try simp only [bs, eq_self, if_true, if_false, reduceIte] at h) <;> (try (cases h; done)) <;> cbv))
    | ((with_reducible show ∃ _ : Nat → List V, _)
       first
        | (refine all_build0 eI ?_; intro g_b hg_b; cbv))
    | ((with_reducible show ∀ _ : Int, _)
       first
        | (refine all_len ?_; intro y hy; (try replace hy : ((_ : Nat) : Int) = y := hy); (try rw [hy] at h); (try rw [show (NatCast.natCast _ : Int) = _ from hy] at h); cbv))
    | ((with_reducible show ∀ _ : Nat, _)
       first
        | (refine all_appD (by first | assumption | exact (rfl : encL _ ([] : List _) = _)) (by first | assumption | rfl) (by assumption) (by first | assumption | (simp only [List.length_drop]; omega)) ?_; intro L hL n_L hnL g hgL; (try rw [hL] at h); (try rw [Option.bind_some] at h); (try rw [hnL] at h); cbv)
        | (intro off' n' ho hn'; obtain rfl : off' = _ := ho; (try replace hn' := cut_len hn' (by assumption)); (try replace hn' := cut_len0 hn'); cbv))
    | (obtain ⟨hc, h'⟩ := if_none h; clear h; have h := h'; clear h')
    | (simp only [Option.some.injEq, Prod.mk.injEq] at h; subst h)
    | ((with_reducible show ∃ _, _)
       refine side (by first | exact enc_same (by assumption) (by assumption) _ | exact take_s1 (by assumption) (by assumption) (by assumption) | exact take_s2 (by assumption) (by assumption) (by assumption) (by assumption) (by assumption) | exact take_s3 (by assumption) (by assumption) (by assumption) | exact take_s4 (by assumption) (by assumption) (by assumption) | (intro k hk; subst_vars; first | eq_refl | exact enc_drop | exact enc_take hk | exact absurd hk (Nat.not_lt_zero k)) | (subst_vars; first | eq_refl | (simp; done) | (simp; omega)) | (have h1 : Int.toNat 1 = 1 := rfl; have h2 := one_le (by assumption) (by assumption); simp only [List.length_append, List.length_nil, List.length_drop, h1] at *; omega) | (simp only [Nat.cast] at *; omega)) ?_; (try cbv)))

def impl_CanMake.j0 : Nat → List Int → Bool → Int → Int → List (S116) → Option (Bool × Bool)
  | 0, _, _, _, _, _ => none
  | k + 1, x0, x13, x1349000, x1349001, x1349002 => if x13 = true then (some (false, false)) else ((impl_neededParts.f k x1349000 x1349001 x1349002).bind fun t1351 => ((impl_isEnough.f k x0 t1351).bind fun t1354 => (some (t1354, true))))
def impl_CanMake.f (k : Nat) (l0 : List Int) (a1_0 : Int) (a1_1 : Int) (l1_2 : List (S116)) : Option (Bool × Bool) := (impl_isKit.f k l0).bind fun t1349 => (if t1349 = true then ((impl_IsBoard.f k a1_0 a1_1 l1_2).bind fun t1350 => (impl_CanMake.j0 k l0 (!t1350) a1_0 a1_1 l1_2)) else (impl_CanMake.j0 k l0 true a1_0 a1_1 l1_2))

theorem impl_CanMake_ok (k : Nat) (l0 : List Int) (a1_0 : Int) (a1_1 : Int) (l1_2 : List (S116)) (r0 : Bool) (r1 : Bool) (h : impl_CanMake.f k l0 a1_0 a1_1 l1_2 = some (r0, r1)) (n_l0 : Nat) (hn_l0 : l0.length = n_l0) (g_l0 : Nat → List V) (hg_l0 : encL eI l0 = g_l0) (n_l1_2 : Nat) (hn_l1_2 : l1_2.length = n_l1_2) (g_l1_2 : Nat → List V) (hg_l1_2 : encL e116 l1_2 = g_l1_2)  : CallOK Try.prog 60 [.fz 1 n_l0 g_l0, .agg [.val (.int .i64 a1_0), .val (.int .i64 a1_1), .fz 2 n_l1_2 g_l1_2]] [] (.tup [.val (.bool r0), .val (.bool r1)]) [] := by
  refine CallOK.of_code tabOK Try.func60 rfl rfl ⟨[(3, [0, 3])], []⟩ ?_
  unfold impl_CanMake.f at h
  obtain ⟨P, hP⟩ : ∃ P, Try.prog = P := ⟨_, rfl⟩
  rw [hP]
  (try rw [hn_l0] at h); (try rw [hn_l1_2] at h); skip
  cbv
  repeat' (first
    | ((with_reducible show ∃ _, _)
       first
        | (refine ⟨trivial, ?_⟩; cbv)
        | (refine side (by first | with_reducible eq_refl | assumption | (intro _ _; with_reducible eq_refl) | exact lt_ix (by assumption) (by assumption) (by assumption) | exact lt_ix2 (by assumption) (by assumption) (by assumption) (by assumption) | exact lt_y (by assumption) (by assumption) | exact le_y (by assumption) | exact ge_y (by assumption) | exact cut_le (by assumption) (by assumption) | omega) ?_; (try cbv))
        | (refine ⟨.kept, side (Eq.refl _) (side (by first | trivial | exact ⟨clean_enc (by assumption) (by assumption) (fun _ => rfl), trivial⟩) ?_)⟩; cbv)
        | (refine ⟨Frz.own, ?_⟩; cbv))
    | ((with_reducible show ∃ _ : List Nat, _)
       first
        | ((with_reducible (have h0 : Option.bind (impl_isKit.f _ _) _ = some _ := h; clear h0))
           refine ⟨[], ?_⟩; cbv
           repeat (first | (refine all_show (by first | omega | decide) ?_; cbv) | (refine all_showT (by assumption) (by assumption) (by assumption) (by first | assumption | exact lt_ix (by assumption) (by assumption) (by assumption) | exact lt_ix2 (by assumption) (by assumption) (by assumption) (by assumption) | exact lt_y (by assumption) (by assumption) | exact le_y (by assumption) | exact ge_y (by assumption) | exact cut_le (by assumption) (by assumption) | omega) (by first | assumption | exact cut_hi (by assumption) | exact cut_hi2 (by assumption) (by assumption) | omega) ?_; intro D hD hnD g hgD; (try rw [hD] at h); cbv))
           obtain ⟨t, ht, h'⟩ := bind_some h
           clear h; have h := h'; clear h'; (try dsimp only at h)
           refine ⟨_, _, (hP ▸ impl_isKit_ok _ _ _ ht _ (by first | assumption | rfl) _ (by assumption)  : CallOK P 115 _ _ _ _), ?_⟩
           rcases t with _ | _ <;> (try simp only [bs, eq_self, if_true, if_false, reduceIte] at h) <;> (try (cases h; done)) <;> cbv)
        | ((with_reducible (have h0 : Option.bind (impl_isEnough.f _ _ _) _ = some _ := h; clear h0))
           refine ⟨[], ?_⟩; cbv
           repeat (first | (refine all_show (by first | omega | decide) ?_; cbv) | (refine all_showT (by assumption) (by assumption) (by assumption) (by first | assumption | exact lt_ix (by assumption) (by assumption) (by assumption) | exact lt_ix2 (by assumption) (by assumption) (by assumption) (by assumption) | exact lt_y (by assumption) (by assumption) | exact le_y (by assumption) | exact ge_y (by assumption) | exact cut_le (by assumption) (by assumption) | omega) (by first | assumption | exact cut_hi (by assumption) | exact cut_hi2 (by assumption) (by assumption) | omega) ?_; intro D hD hnD g hgD; (try rw [hD] at h); cbv))
           obtain ⟨t, ht, h'⟩ := bind_some h
           clear h; have h := h'; clear h'; (try dsimp only at h)
           refine ⟨_, _, (hP ▸ impl_isEnough_ok _ _ _ _ ht _ (by first | assumption | rfl) _ (by assumption) _ (by first | assumption | rfl) _ (by assumption)  : CallOK P 117 _ _ _ _), ?_⟩
           rcases t with _ | _ <;> (try simp only [bs, eq_self, if_true, if_false, reduceIte] at h) <;> (try (cases h; done)) <;> cbv)
        | ((with_reducible (have h0 : Option.bind (impl_IsBoard.f _ _ _ _) _ = some _ := h; clear h0))
           refine ⟨[], ?_⟩; cbv
           repeat (first | (refine all_show (by first | omega | decide) ?_; cbv) | (refine all_showT (by assumption) (by assumption) (by assumption) (by first | assumption | exact lt_ix (by assumption) (by assumption) (by assumption) | exact lt_ix2 (by assumption) (by assumption) (by assumption) (by assumption) | exact lt_y (by assumption) (by assumption) | exact le_y (by assumption) | exact ge_y (by assumption) | exact cut_le (by assumption) (by assumption) | omega) (by first | assumption | exact cut_hi (by assumption) | exact cut_hi2 (by assumption) (by assumption) | omega) ?_; intro D hD hnD g hgD; (try rw [hD] at h); cbv))
           obtain ⟨t, ht, h'⟩ := bind_some h
           clear h; have h := h'; clear h'; (try dsimp only at h)
           refine ⟨_, _, (hP ▸ impl_IsBoard_ok _ _ _ _ _ ht _ (by first | assumption | rfl) _ (by assumption)  : CallOK P 169 _ _ _ _), ?_⟩
           rcases t with _ | _ <;> (try simp only [bs, eq_self, if_true, if_false, reduceIte] at h) <;> (try (cases h; done)) <;> cbv)
        | ((with_reducible (have h0 : Option.bind (impl_neededParts.f _ _ _ _) _ = some _ := h; clear h0))
           refine ⟨[], ?_⟩; cbv
           repeat (first | (refine all_show (by first | omega | decide) ?_; cbv) | (refine all_showT (by assumption) (by assumption) (by assumption) (by first | assumption | exact lt_ix (by assumption) (by assumption) (by assumption) | exact lt_ix2 (by assumption) (by assumption) (by assumption) (by assumption) | exact lt_y (by assumption) (by assumption) | exact le_y (by assumption) | exact ge_y (by assumption) | exact cut_le (by assumption) (by assumption) | omega) (by first | assumption | exact cut_hi (by assumption) | exact cut_hi2 (by assumption) (by assumption) | omega) ?_; intro D hD hnD g hgD; (try rw [hD] at h); cbv))
           obtain ⟨t, ht, h'⟩ := bind_some h
           clear h; have h := h'; clear h'; (try dsimp only at h)
           obtain ⟨n_c170_0, hn_c170_0⟩ : ∃ n, t.length = n := ⟨_, rfl⟩; obtain ⟨g_t, hg_c170_0⟩ : ∃ g, encL eI t = g := ⟨_, rfl⟩; (try rw [hn_c170_0] at h)
           refine ⟨_, _, (hP ▸ impl_neededParts_ok _ _ _ _ _ ht _ (by first | assumption | rfl) _ (by assumption) _ hn_c170_0 _ hg_c170_0 : CallOK P 170 _ _ _ _), ?_⟩; cbv))
    | ((with_reducible (have h0 : impl_CanMake.j0 _ _ _ _ _ _ = some _ := h; clear h0))
       first
        | (unfold impl_CanMake.j0 at h
           rcases k with _ | k
           · cases h
           (try dsimp only at h); (try simp only [bs, eq_self, if_true, if_false, reduceIte] at h); (try rw [hn_l0] at h); (try rw [show (Nat.cast n_l0 : Int) = _ from (by assumption)] at h); (try rw [show (NatCast.natCast n_l0 : Int) = _ from (by assumption)] at h); (try (simp only [Nat.cast] at h; rw [show (NatCast.natCast n_l0 : Int) = _ from (by assumption)] at h)); (try rw [hn_l1_2] at h); (try rw [show (Nat.cast n_l1_2 : Int) = _ from (by assumption)] at h); (try rw [show (NatCast.natCast n_l1_2 : Int) = _ from (by assumption)] at h); (try (simp only [Nat.cast] at h; rw [show (NatCast.natCast n_l1_2 : Int) = _ from (by assumption)] at h)); (try rw [hn_c170_0] at h); (try rw [show (Nat.cast n_c170_0 : Int) = _ from (by assumption)] at h); (try rw [show (NatCast.natCast n_c170_0 : Int) = _ from (by assumption)] at h); (try (simp only [Nat.cast] at h; rw [show (NatCast.natCast n_c170_0 : Int) = _ from (by assumption)] at h))))
    | (simp only [Option.some.injEq, Prod.mk.injEq] at h; obtain ⟨rfl, rfl⟩ := h)
    | trivial)

def spec_l1All.l0 : Nat → Int → Int → List Int → Int → Int → Option (Bool)
  | 0, _, _, _, _, _ => none
  | k + 1, x1, x2, x9, x10, x11 => if x11 < x10 then (if 0 ≤ x11 then (if x11 < (x9.length : Int) then ((spec_l1In.f (rd x9 x11) x1 x2).bind fun t289 => (if t289 = true then (spec_l1All.l0 k x1 x2 x9 x10 (wrap64 (x11 + 1))) else (some false))) else (none)) else (none)) else (some true)
def spec_l1All.f (k : Nat) (l0 : List Int) (a1 : Int) (a2 : Int) : Option (Bool) := spec_l1All.l0 k a1 a2 l0 (l0.length : Int) 0

theorem spec_l1All_ok (k : Nat) (l0 : List Int) (a1 : Int) (a2 : Int) (r0 : Bool) (h : spec_l1All.f k l0 a1 a2 = some r0) (n_l0 : Nat) (hn_l0 : l0.length = n_l0) (g_l0 : Nat → List V) (hg_l0 : encL eI l0 = g_l0)  : CallOK Try.prog 119 [.fz 1 n_l0 g_l0, .val (.int .i64 a1), .val (.int .i64 a2)] [] (.val (.bool r0)) [] := by
  refine CallOK.of_code tabOK Try.func119 rfl rfl ⟨[(5, []), (6, [1, 2, 9, 10, 11]), (7, [])], []⟩ ?_
  unfold spec_l1All.f at h
  obtain ⟨P, hP⟩ : ∃ P, Try.prog = P := ⟨_, rfl⟩
  rw [hP]
  (try rw [hn_l0] at h); skip
  cbv
  repeat' (first
    | ((with_reducible show ∃ _, _)
       first
        | (refine ⟨trivial, ?_⟩; cbv)
        | (refine side (by first | with_reducible eq_refl | assumption | (intro _ _; with_reducible eq_refl) | exact lt_ix (by assumption) (by assumption) (by assumption) | exact lt_ix2 (by assumption) (by assumption) (by assumption) (by assumption) | exact lt_y (by assumption) (by assumption) | exact le_y (by assumption) | exact ge_y (by assumption) | exact cut_le (by assumption) (by assumption) | omega) ?_; (try cbv))
        | (refine ⟨Frz.own, ?_⟩; cbv))
    | ((with_reducible show ∃ _ : Nat, _)
       first
        | (refine ⟨_, [1, 2, 9, 10, 11], Nat.lt_succ_self _, ?_⟩; cbv; exact ⟨_, _, _, _, _, _, _, h, by first | assumption | rfl, by first | assumption | rfl, rfl⟩))
    | ((with_reducible show ∃ _ : List Nat, _)
       first
        | ((with_reducible (have h0 : Option.bind (spec_l1In.f _ _ _) _ = some _ := h; clear h0))
           refine ⟨[], ?_⟩; cbv
           repeat (first | (refine all_show (by first | omega | decide) ?_; cbv) | (refine all_showT (by assumption) (by assumption) (by assumption) (by first | assumption | exact lt_ix (by assumption) (by assumption) (by assumption) | exact lt_ix2 (by assumption) (by assumption) (by assumption) (by assumption) | exact lt_y (by assumption) (by assumption) | exact le_y (by assumption) | exact ge_y (by assumption) | exact cut_le (by assumption) (by assumption) | omega) (by first | assumption | exact cut_hi (by assumption) | exact cut_hi2 (by assumption) (by assumption) | omega) ?_; intro D hD hnD g hgD; (try rw [hD] at h); cbv))
           obtain ⟨t, ht, h'⟩ := bind_some h
           clear h; have h := h'; clear h'; (try dsimp only at h)
           refine ⟨_, _, (hP ▸ spec_l1In_ok _ _ _ _ ht   : CallOK P 155 _ _ _ _), ?_⟩
           rcases t with _ | _ <;> (try simp only [bs, eq_self, if_true, if_false, reduceIte] at h) <;> (try (cases h; done)) <;> cbv))
    | ((with_reducible show ∃ _ : Nat → St → Prop, _)
       first
        | (refine ⟨fun k1 s => ∃ x1 x2 x9 x10 x11 n_x9 g_x9, spec_l1All.l0 k1 x1 x2 x9 x10 x11 = some r0 ∧ x9.length = n_x9 ∧ encL eI x9 = g_x9 ∧ s = ⟨⟨21, (upd 21 (upd 21 (upd 21 (upd 21 (upd 21 noT 11 (.val (.int .i64 x11))) 10 (.val (.int .i64 x10))) 9 (.fz 1 n_x9 g_x9)) 2 (.val (.int .i64 x2))) 1 (.val (.int .i64 x1)))⟩, []⟩, ?_, [], ?_⟩
           rotate_left
           · cbv; exact ⟨_, [1, 2, 9, 10, 11], by cbv; exact ⟨_, _, _, _, _, _, _, h, by first | assumption | rfl, by first | assumption | rfl, rfl⟩⟩
           clear h
           rintro (_ | k1) s1 ⟨x1, x2, x9, x10, x11, n_x9, g_x9, h, hn_x9, hg_x9, rfl⟩
           · cases h
           unfold spec_l1All.l0 at h
           (try rw [hn_x9] at h); skip
           cbv))
    | ((with_reducible show ∀ _ : Bool, _)
       first
        | (refine all_lt ?_ ?_ <;> (intro hd; first | exact absurd rfl hd | ((first | rw [if_pos hd] at h | rw [if_neg hd] at h | rw [if_pos (by omega)] at h | rw [if_neg (by omega)] at h | skip); (first | (rw [decide_eq_true hd] at h; (try simp only [bs, eq_self, if_true, if_false, reduceIte] at h)) | (rw [decide_eq_false hd] at h; (try simp only [bs, eq_self, if_true, if_false, reduceIte] at h)) | skip); cbv))))
    | ((with_reducible show ∀ _ : Int, _)
       first
        | (refine all_wrap ?_; intro y hy; (try rw [hy] at h); cbv)
        | (refine all_len ?_; intro y hy; (try replace hy : ((_ : Nat) : Int) = y := hy); (try rw [hy] at h); (try rw [show (NatCast.natCast _ : Int) = _ from hy] at h); cbv))
    | ((with_reducible show ∀ _ : List V, _)
       first
        | (refine @all_rd _ _ eI rd ?_ ?_ ?_ _ _ _ (fun _ _ => rfl) ?_ ?_ ?_ ?_ ?_ ?_
           rotate_left 3
           assumption
           assumption
           (first | rfl | assumption)
           (first | assumption | exact lt_ix (by assumption) (by assumption) (by assumption) | exact lt_ix2 (by assumption) (by assumption) (by assumption) (by assumption) | exact lt_y (by assumption) (by assumption) | exact le_y (by assumption) | exact ge_y (by assumption) | exact cut_le (by assumption) (by assumption) | omega)
           (first | assumption | exact lt_ix (by assumption) (by assumption) (by assumption) | exact lt_ix2 (by assumption) (by assumption) (by assumption) (by assumption) | exact lt_y (by assumption) (by assumption) | exact le_y (by assumption) | exact ge_y (by assumption) | exact cut_le (by assumption) (by assumption) | omega)
           intro z hz
           (try rw [hz] at h); cbv))
    | (obtain ⟨hc, h'⟩ := if_none h; clear h; have h := h'; clear h')
    | (simp only [Option.some.injEq, Prod.mk.injEq] at h; subst h)
    | trivial)

def spec_kiParts.f (k : Nat) (l0 : List Int) : Option (Bool) := if (l0.length : Int) = 7 then ((spec_l1All.f k l0 0 600).bind fun t706 => (some t706)) else (some false)

theorem spec_kiParts_ok (k : Nat) (l0 : List Int) (r0 : Bool) (h : spec_kiParts.f k l0 = some r0) (n_l0 : Nat) (hn_l0 : l0.length = n_l0) (g_l0 : Nat → List V) (hg_l0 : encL eI l0 = g_l0)  : CallOK Try.prog 112 [.fz 1 n_l0 g_l0] [] (.val (.bool r0)) [] := by
  refine CallOK.of_code tabOK Try.func112 rfl rfl ⟨[], []⟩ ?_
  unfold spec_kiParts.f at h
  obtain ⟨P, hP⟩ : ∃ P, Try.prog = P := ⟨_, rfl⟩
  rw [hP]
  (try rw [hn_l0] at h); skip
  cbv
  repeat' (first
    | ((with_reducible show ∃ _, _)
       first
        | (refine ⟨trivial, ?_⟩; cbv)
        | (refine side (by first | with_reducible eq_refl | assumption | (intro _ _; with_reducible eq_refl) | exact lt_ix (by assumption) (by assumption) (by assumption) | exact lt_ix2 (by assumption) (by assumption) (by assumption) (by assumption) | exact lt_y (by assumption) (by assumption) | exact le_y (by assumption) | exact ge_y (by assumption) | exact cut_le (by assumption) (by assumption) | omega) ?_; (try cbv))
        | (refine ⟨Frz.own, ?_⟩; cbv))
    | ((with_reducible show ∃ _ : List Nat, _)
       first
        | ((with_reducible (have h0 : Option.bind (spec_l1All.f _ _ _ _) _ = some _ := h; clear h0))
           refine ⟨[], ?_⟩; cbv
           repeat (first | (refine all_show (by first | omega | decide) ?_; cbv) | (refine all_showT (by assumption) (by assumption) (by assumption) (by first | assumption | exact lt_ix (by assumption) (by assumption) (by assumption) | exact lt_ix2 (by assumption) (by assumption) (by assumption) (by assumption) | exact lt_y (by assumption) (by assumption) | exact le_y (by assumption) | exact ge_y (by assumption) | exact cut_le (by assumption) (by assumption) | omega) (by first | assumption | exact cut_hi (by assumption) | exact cut_hi2 (by assumption) (by assumption) | omega) ?_; intro D hD hnD g hgD; (try rw [hD] at h); cbv))
           obtain ⟨t, ht, h'⟩ := bind_some h
           clear h; have h := h'; clear h'; (try dsimp only at h)
           refine ⟨_, _, (hP ▸ spec_l1All_ok _ _ _ _ _ ht _ (by first | assumption | rfl) _ (by assumption)  : CallOK P 119 _ _ _ _), ?_⟩
           rcases t with _ | _ <;> (try simp only [bs, eq_self, if_true, if_false, reduceIte] at h) <;> (try (cases h; done)) <;> cbv))
    | ((with_reducible show ∀ _ : Bool, _)
       first
        | (refine all_beq ?_ ?_ <;> (intro hd; first | exact absurd rfl hd | ((first | rw [if_pos hd] at h | rw [if_neg hd] at h | rw [if_pos (by omega)] at h | rw [if_neg (by omega)] at h | skip); (first | (rw [beq_pos hd] at h; (try simp only [bs, eq_self, if_true, if_false, reduceIte] at h)) | (rw [beq_neg hd] at h; (try simp only [bs, eq_self, if_true, if_false, reduceIte] at h)) | skip); cbv))))
    | ((with_reducible show ∀ _ : Int, _)
       first
        | (refine all_len ?_; intro y hy; (try replace hy : ((_ : Nat) : Int) = y := hy); (try rw [hy] at h); (try rw [show (NatCast.natCast _ : Int) = _ from hy] at h); cbv))
    | (simp only [Option.some.injEq, Prod.mk.injEq] at h; subst h)
    | trivial)

def spec_kiEnough.l0 : Nat → List Int → List Int → Int → Int → Option (Bool)
  | 0, _, _, _, _ => none
  | k + 1, x0, x7, x8, x9 => if x9 < x8 then (if 0 ≤ x9 then (if x9 < (x7.length : Int) then (if x9 < (x0.length : Int) then (if (rd x0 x9) < (rd x7 x9) then (some false) else (spec_kiEnough.l0 k x0 x7 x8 (wrap64 (x9 + 1)))) else (none)) else (none)) else (none)) else (some true)
def spec_kiEnough.f (k : Nat) (l0 : List Int) (l1 : List Int) : Option (Bool) := spec_kiEnough.l0 k l0 l1 (l1.length : Int) 0

theorem spec_kiEnough_ok (k : Nat) (l0 : List Int) (l1 : List Int) (r0 : Bool) (h : spec_kiEnough.f k l0 l1 = some r0) (n_l0 : Nat) (hn_l0 : l0.length = n_l0) (g_l0 : Nat → List V) (hg_l0 : encL eI l0 = g_l0) (n_l1 : Nat) (hn_l1 : l1.length = n_l1) (g_l1 : Nat → List V) (hg_l1 : encL eI l1 = g_l1)  : CallOK Try.prog 172 [.fz 1 n_l0 g_l0, .fz 1 n_l1 g_l1] [] (.val (.bool r0)) [] := by
  refine CallOK.of_code tabOK Try.func172 rfl rfl ⟨[(5, []), (6, [0, 7, 8, 9]), (7, [])], []⟩ ?_
  unfold spec_kiEnough.f at h
  obtain ⟨P, hP⟩ : ∃ P, Try.prog = P := ⟨_, rfl⟩
  rw [hP]
  (try rw [hn_l0] at h); (try rw [hn_l1] at h); skip
  cbv
  repeat' (first
    | ((with_reducible show ∃ _, _)
       first
        | (refine ⟨trivial, ?_⟩; cbv)
        | (refine side (by first | with_reducible eq_refl | assumption | (intro _ _; with_reducible eq_refl) | exact lt_ix (by assumption) (by assumption) (by assumption) | exact lt_ix2 (by assumption) (by assumption) (by assumption) (by assumption) | exact lt_y (by assumption) (by assumption) | exact le_y (by assumption) | exact ge_y (by assumption) | exact cut_le (by assumption) (by assumption) | omega) ?_; (try cbv)))
    | ((with_reducible show ∃ _ : Nat, _)
       first
        | (refine ⟨_, [0, 7, 8, 9], Nat.lt_succ_self _, ?_⟩; cbv; exact ⟨_, _, _, _, _, _, _, _, h, by first | assumption | rfl, by first | assumption | rfl, by first | assumption | rfl, by first | assumption | rfl, rfl⟩))
    | ((with_reducible show ∃ _ : Nat → St → Prop, _)
       first
        | (refine ⟨fun k1 s => ∃ x0 x7 x8 x9 n_x0 g_x0 n_x7 g_x7, spec_kiEnough.l0 k1 x0 x7 x8 x9 = some r0 ∧ x0.length = n_x0 ∧ encL eI x0 = g_x0 ∧ x7.length = n_x7 ∧ encL eI x7 = g_x7 ∧ s = ⟨⟨21, (upd 21 (upd 21 (upd 21 (upd 21 noT 9 (.val (.int .i64 x9))) 8 (.val (.int .i64 x8))) 7 (.fz 1 n_x7 g_x7)) 0 (.fz 1 n_x0 g_x0))⟩, []⟩, ?_, [], ?_⟩
           rotate_left
           · cbv; exact ⟨_, [0, 7, 8, 9], by cbv; exact ⟨_, _, _, _, _, _, _, _, h, by first | assumption | rfl, by first | assumption | rfl, by first | assumption | rfl, by first | assumption | rfl, rfl⟩⟩
           clear h
           rintro (_ | k1) s1 ⟨x0, x7, x8, x9, n_x0, g_x0, n_x7, g_x7, h, hn_x0, hg_x0, hn_x7, hg_x7, rfl⟩
           · cases h
           unfold spec_kiEnough.l0 at h
           (try rw [hn_x0] at h); (try rw [hn_x7] at h); skip
           cbv))
    | ((with_reducible show ∀ _ : Bool, _)
       first
        | (refine all_lt ?_ ?_ <;> (intro hd; first | exact absurd rfl hd | ((first | rw [if_pos hd] at h | rw [if_neg hd] at h | rw [if_pos (by omega)] at h | rw [if_neg (by omega)] at h | skip); (first | (rw [decide_eq_true hd] at h; (try simp only [bs, eq_self, if_true, if_false, reduceIte] at h)) | (rw [decide_eq_false hd] at h; (try simp only [bs, eq_self, if_true, if_false, reduceIte] at h)) | skip); cbv))))
    | ((with_reducible show ∀ _ : Int, _)
       first
        | (refine all_wrap ?_; intro y hy; (try rw [hy] at h); cbv)
        | (refine all_len ?_; intro y hy; (try replace hy : ((_ : Nat) : Int) = y := hy); (try rw [hy] at h); (try rw [show (NatCast.natCast _ : Int) = _ from hy] at h); cbv))
    | ((with_reducible show ∀ _ : List V, _)
       first
        | (refine @all_rd _ _ eI rd ?_ ?_ ?_ _ _ _ (fun _ _ => rfl) ?_ ?_ ?_ ?_ ?_ ?_
           rotate_left 3
           assumption
           assumption
           (first | rfl | assumption)
           (first | assumption | exact lt_ix (by assumption) (by assumption) (by assumption) | exact lt_ix2 (by assumption) (by assumption) (by assumption) (by assumption) | exact lt_y (by assumption) (by assumption) | exact le_y (by assumption) | exact ge_y (by assumption) | exact cut_le (by assumption) (by assumption) | omega)
           (first | assumption | exact lt_ix (by assumption) (by assumption) (by assumption) | exact lt_ix2 (by assumption) (by assumption) (by assumption) (by assumption) | exact lt_y (by assumption) (by assumption) | exact le_y (by assumption) | exact ge_y (by assumption) | exact cut_le (by assumption) (by assumption) | omega)
           intro z hz
           (try rw [hz] at h); cbv))
    | (obtain ⟨hc, h'⟩ := if_none h; clear h; have h := h'; clear h')
    | (simp only [Option.some.injEq, Prod.mk.injEq] at h; subst h)
    | trivial)

def spec_CanMake.j0 : Nat → List Int → Bool → Int → Int → List (S116) → Option (Bool × Bool)
  | 0, _, _, _, _, _ => none
  | k + 1, x0, x13, x1356000, x1356001, x1356002 => if x13 = true then (some (false, false)) else ((spec_kiOf.f k x1356000 x1356001 x1356002).bind fun t1358 => ((spec_kiEnough.f k x0 t1358).bind fun t1361 => (some (t1361, true))))
def spec_CanMake.f (k : Nat) (l0 : List Int) (a1_0 : Int) (a1_1 : Int) (l1_2 : List (S116)) : Option (Bool × Bool) := (spec_kiParts.f k l0).bind fun t1356 => (if t1356 = true then ((spec_boGood.f k a1_0 a1_1 l1_2).bind fun t1357 => (spec_CanMake.j0 k l0 (!t1357) a1_0 a1_1 l1_2)) else (spec_CanMake.j0 k l0 true a1_0 a1_1 l1_2))

theorem spec_CanMake_ok (k : Nat) (l0 : List Int) (a1_0 : Int) (a1_1 : Int) (l1_2 : List (S116)) (r0 : Bool) (r1 : Bool) (h : spec_CanMake.f k l0 a1_0 a1_1 l1_2 = some (r0, r1)) (n_l0 : Nat) (hn_l0 : l0.length = n_l0) (g_l0 : Nat → List V) (hg_l0 : encL eI l0 = g_l0) (n_l1_2 : Nat) (hn_l1_2 : l1_2.length = n_l1_2) (g_l1_2 : Nat → List V) (hg_l1_2 : encL e116 l1_2 = g_l1_2)  : CallOK Try.prog 61 [.fz 1 n_l0 g_l0, .agg [.val (.int .i64 a1_0), .val (.int .i64 a1_1), .fz 2 n_l1_2 g_l1_2]] [] (.tup [.val (.bool r0), .val (.bool r1)]) [] := by
  refine CallOK.of_code tabOK Try.func61 rfl rfl ⟨[(3, [0, 3])], []⟩ ?_
  unfold spec_CanMake.f at h
  obtain ⟨P, hP⟩ : ∃ P, Try.prog = P := ⟨_, rfl⟩
  rw [hP]
  (try rw [hn_l0] at h); (try rw [hn_l1_2] at h); skip
  cbv
  repeat' (first
    | ((with_reducible show ∃ _, _)
       first
        | (refine ⟨trivial, ?_⟩; cbv)
        | (refine side (by first | with_reducible eq_refl | assumption | (intro _ _; with_reducible eq_refl) | exact lt_ix (by assumption) (by assumption) (by assumption) | exact lt_ix2 (by assumption) (by assumption) (by assumption) (by assumption) | exact lt_y (by assumption) (by assumption) | exact le_y (by assumption) | exact ge_y (by assumption) | exact cut_le (by assumption) (by assumption) | omega) ?_; (try cbv))
        | (refine ⟨.kept, side (Eq.refl _) (side (by first | trivial | exact ⟨clean_enc (by assumption) (by assumption) (fun _ => rfl), trivial⟩) ?_)⟩; cbv)
        | (refine ⟨Frz.own, ?_⟩; cbv))
    | ((with_reducible show ∃ _ : List Nat, _)
       first
        | ((with_reducible (have h0 : Option.bind (spec_kiParts.f _ _) _ = some _ := h; clear h0))
           refine ⟨[], ?_⟩; cbv
           repeat (first | (refine all_show (by first | omega | decide) ?_; cbv) | (refine all_showT (by assumption) (by assumption) (by assumption) (by first | assumption | exact lt_ix (by assumption) (by assumption) (by assumption) | exact lt_ix2 (by assumption) (by assumption) (by assumption) (by assumption) | exact lt_y (by assumption) (by assumption) | exact le_y (by assumption) | exact ge_y (by assumption) | exact cut_le (by assumption) (by assumption) | omega) (by first | assumption | exact cut_hi (by assumption) | exact cut_hi2 (by assumption) (by assumption) | omega) ?_; intro D hD hnD g hgD; (try rw [hD] at h); cbv))
           obtain ⟨t, ht, h'⟩ := bind_some h
           clear h; have h := h'; clear h'; (try dsimp only at h)
           refine ⟨_, _, (hP ▸ spec_kiParts_ok _ _ _ ht _ (by first | assumption | rfl) _ (by assumption)  : CallOK P 112 _ _ _ _), ?_⟩
           rcases t with _ | _ <;> (try simp only [bs, eq_self, if_true, if_false, reduceIte] at h) <;> (try (cases h; done)) <;> cbv)
        | ((with_reducible (have h0 : Option.bind (spec_boGood.f _ _ _ _) _ = some _ := h; clear h0))
           refine ⟨[], ?_⟩; cbv
           repeat (first | (refine all_show (by first | omega | decide) ?_; cbv) | (refine all_showT (by assumption) (by assumption) (by assumption) (by first | assumption | exact lt_ix (by assumption) (by assumption) (by assumption) | exact lt_ix2 (by assumption) (by assumption) (by assumption) (by assumption) | exact lt_y (by assumption) (by assumption) | exact le_y (by assumption) | exact ge_y (by assumption) | exact cut_le (by assumption) (by assumption) | omega) (by first | assumption | exact cut_hi (by assumption) | exact cut_hi2 (by assumption) (by assumption) | omega) ?_; intro D hD hnD g hgD; (try rw [hD] at h); cbv))
           obtain ⟨t, ht, h'⟩ := bind_some h
           clear h; have h := h'; clear h'; (try dsimp only at h)
           refine ⟨_, _, (hP ▸ spec_boGood_ok _ _ _ _ _ ht _ (by first | assumption | rfl) _ (by assumption)  : CallOK P 171 _ _ _ _), ?_⟩
           rcases t with _ | _ <;> (try simp only [bs, eq_self, if_true, if_false, reduceIte] at h) <;> (try (cases h; done)) <;> cbv)
        | ((with_reducible (have h0 : Option.bind (spec_kiEnough.f _ _ _) _ = some _ := h; clear h0))
           refine ⟨[], ?_⟩; cbv
           repeat (first | (refine all_show (by first | omega | decide) ?_; cbv) | (refine all_showT (by assumption) (by assumption) (by assumption) (by first | assumption | exact lt_ix (by assumption) (by assumption) (by assumption) | exact lt_ix2 (by assumption) (by assumption) (by assumption) (by assumption) | exact lt_y (by assumption) (by assumption) | exact le_y (by assumption) | exact ge_y (by assumption) | exact cut_le (by assumption) (by assumption) | omega) (by first | assumption | exact cut_hi (by assumption) | exact cut_hi2 (by assumption) (by assumption) | omega) ?_; intro D hD hnD g hgD; (try rw [hD] at h); cbv))
           obtain ⟨t, ht, h'⟩ := bind_some h
           clear h; have h := h'; clear h'; (try dsimp only at h)
           refine ⟨_, _, (hP ▸ spec_kiEnough_ok _ _ _ _ ht _ (by first | assumption | rfl) _ (by assumption) _ (by first | assumption | rfl) _ (by assumption)  : CallOK P 172 _ _ _ _), ?_⟩
           rcases t with _ | _ <;> (try simp only [bs, eq_self, if_true, if_false, reduceIte] at h) <;> (try (cases h; done)) <;> cbv)
        | ((with_reducible (have h0 : Option.bind (spec_kiOf.f _ _ _ _) _ = some _ := h; clear h0))
           refine ⟨[], ?_⟩; cbv
           repeat (first | (refine all_show (by first | omega | decide) ?_; cbv) | (refine all_showT (by assumption) (by assumption) (by assumption) (by first | assumption | exact lt_ix (by assumption) (by assumption) (by assumption) | exact lt_ix2 (by assumption) (by assumption) (by assumption) (by assumption) | exact lt_y (by assumption) (by assumption) | exact le_y (by assumption) | exact ge_y (by assumption) | exact cut_le (by assumption) (by assumption) | omega) (by first | assumption | exact cut_hi (by assumption) | exact cut_hi2 (by assumption) (by assumption) | omega) ?_; intro D hD hnD g hgD; (try rw [hD] at h); cbv))
           obtain ⟨t, ht, h'⟩ := bind_some h
           clear h; have h := h'; clear h'; (try dsimp only at h)
           obtain ⟨n_c173_0, hn_c173_0⟩ : ∃ n, t.length = n := ⟨_, rfl⟩; obtain ⟨g_t, hg_c173_0⟩ : ∃ g, encL eI t = g := ⟨_, rfl⟩; (try rw [hn_c173_0] at h)
           refine ⟨_, _, (hP ▸ spec_kiOf_ok _ _ _ _ _ ht _ (by first | assumption | rfl) _ (by assumption) _ hn_c173_0 _ hg_c173_0 : CallOK P 173 _ _ _ _), ?_⟩; cbv))
    | ((with_reducible (have h0 : spec_CanMake.j0 _ _ _ _ _ _ = some _ := h; clear h0))
       first
        | (unfold spec_CanMake.j0 at h
           rcases k with _ | k
           · cases h
           (try dsimp only at h); (try simp only [bs, eq_self, if_true, if_false, reduceIte] at h); (try rw [hn_l0] at h); (try rw [show (Nat.cast n_l0 : Int) = _ from (by assumption)] at h); (try rw [show (NatCast.natCast n_l0 : Int) = _ from (by assumption)] at h); (try (simp only [Nat.cast] at h; rw [show (NatCast.natCast n_l0 : Int) = _ from (by assumption)] at h)); (try rw [hn_l1_2] at h); (try rw [show (Nat.cast n_l1_2 : Int) = _ from (by assumption)] at h); (try rw [show (NatCast.natCast n_l1_2 : Int) = _ from (by assumption)] at h); (try (simp only [Nat.cast] at h; rw [show (NatCast.natCast n_l1_2 : Int) = _ from (by assumption)] at h)); (try rw [hn_c173_0] at h); (try rw [show (Nat.cast n_c173_0 : Int) = _ from (by assumption)] at h); (try rw [show (NatCast.natCast n_c173_0 : Int) = _ from (by assumption)] at h); (try (simp only [Nat.cast] at h; rw [show (NatCast.natCast n_c173_0 : Int) = _ from (by assumption)] at h))))
    | (simp only [Option.some.injEq, Prod.mk.injEq] at h; obtain ⟨rfl, rfl⟩ := h)
    | trivial)

end Go.Proofs.Ythhoobpmjgpkkaa.E
