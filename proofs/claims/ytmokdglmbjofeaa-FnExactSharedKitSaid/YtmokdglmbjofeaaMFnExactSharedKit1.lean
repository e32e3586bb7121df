import Derived.Test.YtmokdglmbjofeaaMFnExactSharedKit0
namespace Go.Proofs.Ytmokdglmbjofeaa.Pall
open Go.RowKit Go.Proofs.YtmokdglmbjofeaaW.PrintWords Go.Proofs.YtmokdglmbjofeaaW.PrintLast Go.Proofs.YtmokdglmbjofeaaW.PrintMore
attribute [local go_sem] max2_int min2_int max_two min_two max_three min_three max_four min_four   -- for this text's walks alone
set_option linter.unusedVariables false
set_option linter.unusedSimpArgs false
set_option maxHeartbeats 8000000
set_option maxRecDepth 100000
def impl_CountKinds.l0 : Nat → List Int → List (S71) → Int → Int → Option (List Int × Bool)
 | 0, _, _, _, _ => none
 | k + 1, x4, x11, x12, x13 => if x13 < x12 then (if 0 ≤ x13 then (if x13 < (x11.length : Int) then (if 0 ≤ ((rd_T71 x11 x13).f0) then (if ((rd_T71 x11 x13).f0) < (x4.length : Int) then (impl_CountKinds.l0 k (x4.set (((rd_T71 x11 x13).f0) : Int).toNat (wrap64 ((rd x4 ((rd_T71 x11 x13).f0)) + 1))) x11 x12 (wrap64 (x13 + 1))) else (none)) else (none)) else (none)) else (none)) else (some (x4, true))
def impl_CountKinds.f (k : Nat) (l0 : List (S71)) : Option (List Int × Bool) := (impl_validCells.f k l0).bind fun t181 => (if t181 = true then (if 8 ≤ 35184372088832 then (impl_CountKinds.l0 k (List.replicate 8 0) l0 (l0.length : Int) 0) else (none)) else (some (([] : List Int), false)))
theorem impl_CountKinds.calls (k : Nat) (A0 : Option Addr) (c0 : Nat) (l0 : List (S71)) (r1 : List Int) (r2 : Bool) (w : World) (hr0 : Kd.C k71 w A0 l0.length l0) (hc0 : l0.length ≤ c0) (h : impl_CountKinds.f k l0 = some (r1, r2)) :
  Calls Try.prog 52 #[.slice A0 l0.length c0] w fun e w' => ∃ v0_ : Value, e = .returned (.tuple #[v0_, .bool r2]) ∧ Kd.R (Kd.int .i64) 3 w' w.heap.size (fun _ => True) v0_ r1 ∧ Below w.heap.size w w' := by
 have hu71 := Try.underlying71; have HR0 := am hr0; have HC0 := am hc0; clear hr0 hc0; have HB := am (Below.refl w.heap.size w); have H := h; clear h
 unfold impl_CountKinds.f at H
 obtain ⟨t181, A2, H⟩ := bindq H; try dsimp only at H
 by_cases c3 : t181 = true
 ·subst c3; rw [if_pos rfl] at H; try dsimp only at H
  by_cases c4 : 8 ≤ 35184372088832
  ·rw [if_pos c4] at H; have c4b0 := eq_true c4; have c4b1 : decide (8 ≤ 35184372088832) = true := decide_eq_true c4; clear c4; obtain ⟨y182, hy182⟩ : ∃ y_ : List Int, y_ = (List.replicate 8 0) := ⟨_, rfl⟩; replace H : (impl_CountKinds.l0 k y182 l0 (l0.length : Int) 0) = some (r1, r2) := yq hy182 H; have Ny182 := am hy182; clear hy182; have H' := am H; clear H
   go_enter Try.func52, Try.ntmps52
   go_wp2_with (first | ((with_reducible refine gate_callee (f := 61) rfl ?_); refine goesQ (some 8) Try.func61 #[.slice A0 l0.length c0] ?_; (with_reducible refine (impl_validCells.calls k _ _ l0 true _ ?s1 ?s2 A2.out).mono ?_); (case s1 => exact cq HR0.out); (case s2 => exact HC0.out); rintro e w5 ⟨rfl, hb⟩; refine ⟨_, rfl, ?_⟩; have n0_ := sb hb; clear HB; have HB := n0_; clear n0_; (try clear hb)) | ((with_reducible refine gate_dst (N := 10) rfl ?_); refine Kd.R_make (Kd.int .i64) _ 3 rfl (N := 10) rfl 24 _ _ rfl 8 rfl rfl Try.underlying24 (.int .i64 0) 8 info3 rfl (by decide) (by omega) 0 (ok := fun _ => True) (okp := fun _ => True) rfl (fun _ hk => hk) trivial (by omega) (by omega) (Below.refl _ _) (Nat.le_refl _) ?_; intro v183 w6 ho7 hb hg_ hnew_; clear hg_ hnew_; (first | rw [← Ny182.out] at ho7 | (simp only [Int.reduceToNat] at ho7; rw [← Ny182.out] at ho7)); have HO184 := rl ho7; replace HB := sb hb; clear hb ho7))
   go_loopg [13] k (fun kq v13 w' => ∃ (x4_1 : List Int) (x13_1 : Int), v13 = .int .i64 x13_1 ∧ Aside0 (impl_CountKinds.l0 kq x4_1 l0 (l0.length : Int) x13_1 = some (r1, r2)) ∧ Aside0 (kq ≤ k) ∧ Aside0 (Kd.R (Kd.int .i64) 3 w' w.heap.size (fun _ => True) v183 x4_1) ∧ Aside0 (Below w.heap.size w w'))
   case atStart => exact ⟨(y182), (0), sq, H', ⟨Nat.le_refl _⟩, ⟨rq HO184⟩, ⟨bq⟩⟩
   case round =>
    clear H'; try clear c3
    try clear c4b0
    try clear c4b1
    obtain ⟨x4_1, x13_1, rfl, HA, HK1, HO_4, HB⟩ := hrel
    cases gk with
    | zero => exact absurd HA.out (by simp [impl_CountKinds.l0])
    | succ k1 =>
     have H := HA.out; clear HA; simp only [impl_CountKinds.l0] at H; by_cases c8 : x13_1 < (l0.length : Int)
     ·rw [if_pos c8] at H; have c8b0 : decide (x13_1 < (l0.length : Int)) = true := decide_eq_true c8; clear c8; by_cases c9 : 0 ≤ x13_1
      ·rw [if_pos c9] at H; have c9b0 : decide (0 ≤ x13_1) = true := decide_eq_true c9; clear c9; by_cases c10 : x13_1 < (l0.length : Int)
       ·rw [if_pos c10] at H; have c10b0 : decide (x13_1 < (l0.length : Int)) = true := decide_eq_true c10; clear c10; by_cases c11 : 0 ≤ ((rd_T71 l0 x13_1).f0)
        ·rw [if_pos c11] at H; have c11b0 : decide (0 ≤ ((rd_T71 l0 x13_1).f0)) = true := decide_eq_true c11; clear c11; by_cases c12 : ((rd_T71 l0 x13_1).f0) < (x4_1.length : Int)
         ·rw [if_pos c12] at H; have c12b0 : decide (((rd_T71 l0 x13_1).f0) < (x4_1.length : Int)) = true := decide_eq_true c12; clear c12; obtain ⟨y188, hy188⟩ : ∃ y_ : List Int, y_ = (x4_1.set (((rd_T71 l0 x13_1).f0) : Int).toNat (wrap64 ((rd x4_1 ((rd_T71 l0 x13_1).f0)) + 1))) := ⟨_, rfl⟩; replace H : (impl_CountKinds.l0 k1 y188 l0 (l0.length : Int) (wrap64 (x13_1 + 1))) = some (r1, r2) := yq hy188 H; have Ny188 := am hy188; clear hy188; have H' := am H; clear H; have p185 : 0 ≤ (x13_1 : Int) := of_decide_eq_true aq; have q185 : x13_1 < (l0.length : Int) := of_decide_eq_true aq; obtain ⟨ad185, e185, hx185_0, hx185_1⟩ := at_T71 HR0.out x13_1 p185 q185
          cases e185
          replace hx185_0 := (HB.out.cell (World.block_lt_of_cell? w _ hx185_0)).trans hx185_0; replace hx185_1 := (HB.out.cell (World.block_lt_of_cell? w _ hx185_1)).trans hx185_1; replace p185 := eq_true p185; replace q185 := eq_true q185; go_wp2_with (first | ((with_reducible refine gate_dst (N := 6) rfl ?_); refine box_event ?hg (N := 6) ?hd (cs := #[.int .i64 0, .int .i64 0]) (t := 71) ?hr ?_; (case hd | hg => rfl); (case hr => go_simp; try rfl); intro gb186 hg w14 hbox hb; replace HO_4 := rb HO_4 hb; have BK186 := am (hbox); have GW186 := am (gq hg); have GE186 := am (gq hg); replace HB := sb hb; clear hb hbox hg; have ⟨b150, b151, d150, d151⟩ := bc2 BK186) | ((with_reducible refine gate_store (t := 71) (p := 6) rfl ?_); refine store_event (t := 71) (p := 6) (v := ?vo_w16) (w1 := ((w14.setCell ⟨gb186, 0, none⟩ (.int .i64 ((rd_T71 l0 x13_1).f0))).setCell ⟨gb186, 1, none⟩ (.int .i64 ((rd_T71 l0 x13_1).f1)))) ?hg ?ho ?hn ?hr ?_; (case ho => rfl); (case hg => rfl); (case hn => rfl); (case hr => go_simp; try rfl); intro w16 hw; have n0_ : Aside0 (Kd.R (Kd.int .i64) 3 w16 w.heap.size (fun _ => True) v183 x4_1) := ⟨(by rw [hw]; exact (Kd.R_mono (ff HO_4 BK186) (fun _ hk => trivial)))⟩; have n1_ : Aside0 (w16.heap[gb186]? = some (.cells #[.int .i64 ((rd_T71 l0 x13_1).f0), .int .i64 ((rd_T71 l0 x13_1).f1)] 71 (0, 0))) := ⟨(by rw [hw]; exact (zp BK186))⟩; have n2_ : Aside0 (Below w.heap.size w w16) := ⟨(by rw [hw]; exact bq)⟩; clear hw; clear HO_4; clear BK186; clear HB; have HO_4 := n0_; have BK186 := n1_; have HB := n2_; clear n0_ n1_ n2_; have ⟨b170, b171, d170, d171⟩ := bc2 BK186; obtain ⟨Ao18, co18, eo18⟩ := Kd.R_slice HO_4.out; subst eo18; have p187 : 0 ≤ (((rd_T71 l0 x13_1).f0) : Int) := of_decide_eq_true aq; have q187 : ((rd_T71 l0 x13_1).f0) < (x4_1.length : Int) := of_decide_eq_true aq; obtain ⟨ad187, e187, hx187_0⟩ := Kd.at_int (Kd.R_reads' HO_4.out).2.2 ((rd_T71 l0 x13_1).f0) p187 q187; cases e187; replace p187 := eq_true p187; replace q187 := eq_true q187; have p13 : 0 ≤ (((rd_T71 l0 x13_1).f0) : Int) := of_decide_eq_true aq; have q13 : (((rd_T71 l0 x13_1).f0) : Int) < ((x4_1.length : Int) : Int) := of_decide_eq_true aq; obtain ⟨go13, co13, eo13, gb13, gl13, cl13, HG13⟩ := Kd.R_form HO_4.out (by omega); (first | cases eo13 | (injection eo13 with ea_ en_ ec_; (first | subst ea_ | (injection ea_ with ea_; subst ea_)); subst ec_; clear en_)); have GB13 := am gb13; have GG13 := am HG13; clear gb13 gl13 HG13; (first | simp only [add_plain] at hx187_0 | skip); obtain ⟨hx13_0, hf13_0⟩ := Kd.R_celln 0 HO_4.out (((rd_T71 l0 x13_1).f0) : Int) p13 q13; replace p13 := eq_true p13; replace q13 := eq_true q13; obtain ⟨hy19_, hz19_⟩ := Kd.R_celln 0 HO_4.out (((rd_T71 l0 x13_1).f0) : Int) (of_decide_eq_true aq) (of_decide_eq_true aq); have HP19 := Kd.R_putg HO_4.out (((rd_T71 l0 x13_1).f0) : Int) (wrap64 ((rd x4_1 ((rd_T71 l0 x13_1).f0)) + 1))) | ((with_reducible refine gate_store (t := 3) (p := 23) rfl ?_); refine store_event (t := 3) (p := 23) (v := ?vo_w20) (w1 := (w16.setCell ⟨go13, (((rd_T71 l0 x13_1).f0) : Int).toNat, none⟩ (.int .i64 (wrap64 ((rd x4_1 ((rd_T71 l0 x13_1).f0)) + 1))))) ?hg ?ho ?hn ?hr ?_; (case ho => rfl); (case hg => rfl); (case hn => rfl); (case hr => go_simp; try rfl); intro w20 hw; have hg : w16.grownBy w20 (some go13) := (by rw [hw]; exact HP19.2); have hp_ : Kd.R (Kd.int .i64) 3 w20 w.heap.size (fun _ => True) (.slice (some ⟨go13, 0, none⟩) x4_1.length co18) y188 := (by rw [hw, Ny188.out]; exact HP19.1); clear HP19; replace BK186 := zg BK186 hg (Kd.R_ne HO_4.out BK186.out (by decide)); replace HO_4 := am (hp_); replace HB := am ((by rw [hw]; exact below_set (HB.out) GB13.out : Below w.heap.size w w20)); clear hg hw hp_))
          go_roundg k1
          case measure => have := HK1.out; omega
          case rel => exact ⟨(y188), (wrap64 (x13_1 + 1)), sq, H', ⟨by have := HK1.out; omega⟩, ⟨rq HO_4⟩, ⟨bq⟩⟩
         rw [if_neg c12] at H; exact absurd H (by simp)
        rw [if_neg c11] at H; exact absurd H (by simp)
       rw [if_neg c10] at H; exact absurd H (by simp)
      rw [if_neg c9] at H; exact absurd H (by simp)
     rw [if_neg c8] at H; have c8b0 : decide (x13_1 < (l0.length : Int)) = false := decide_eq_false c8; clear c8; simp only [Option.some.injEq, Prod.mk.injEq] at H; obtain ⟨rfl, rfl⟩ := H
     go_wp2
     go_ret2
     exact ⟨_, eq_, rq HO_4, bq⟩
  rw [if_neg c4] at H; exact absurd H (by simp)
 replace c3 := Bool.eq_false_iff.mpr c3; subst c3; rw [if_neg (show ¬ (false = true) by decide)] at H; try dsimp only at H
 simp only [Option.some.injEq, Prod.mk.injEq] at H; obtain ⟨rfl, rfl⟩ := H
 go_enter Try.func52, Try.ntmps52
 go_wp2_with (first | ((with_reducible refine gate_callee (f := 61) rfl ?_); refine goesQ (some 8) Try.func61 #[.slice A0 l0.length c0] ?_; (with_reducible refine (impl_validCells.calls k _ _ l0 false _ ?s1 ?s2 A2.out).mono ?_); (case s1 => exact cq HR0.out); (case s2 => exact HC0.out); rintro e w21 ⟨rfl, hb⟩; refine ⟨_, rfl, ?_⟩; have n0_ := sb hb; clear HB; have HB := n0_; clear n0_; (try clear hb)))
 go_ret2
 exact ⟨_, eq_, by first | exact Kd.R_nil _ _ _ _ _ | exact Kd.N_nil _ _ _ _ _ | exact Kd.V_nil _ _ _ _ _ | exact Kd.Q_nil _ _ _ _ _ | exact Kd.S_nil _ _ _ _ _, bq⟩


def impl_neededParts.f (k : Nat) (a0_0 : Int) (a0_1 : Int) (l0_2 : List (S71)) : Option (List Int) := (impl_CountKinds.f k l0_2).bind fun bt190 => ((some (([] : List Int) : List Int)).bind fun y194 => (if 1 ≤ (bt190.1.length : Int) then ((some (bt190.1.drop 1 : List Int)).bind fun y197 => (if y194.length + y197.length < 17592186044416 then (some (y194 ++ y197)) else (none))) else (none)))
theorem impl_neededParts.calls (k : Nat) (a0_0 : Int) (a0_1 : Int) (A0_2 : Option Addr) (c0_2 : Nat) (l0_2 : List (S71)) (r : List Int) (w : World) (hr0_2 : Kd.C k71 w A0_2 l0_2.length l0_2) (hc0_2 : l0_2.length ≤ c0_2) (h : impl_neededParts.f k a0_0 a0_1 l0_2 = some r) :
  Calls Try.prog 32 #[.agg #[.int .i64 a0_0, .int .i64 a0_1, .slice A0_2 l0_2.length c0_2]] w fun e w' => ∃ v0_ : Value, e = .returned (v0_) ∧ Kd.R (Kd.int .i64) 3 w' w.heap.size (fun _ => True) v0_ r ∧ Below w.heap.size w w' := by
 have hu51 := Try.underlying51; have HR0_2 := am hr0_2; have HC0_2 := am hc0_2; clear hr0_2 hc0_2; have HB := am (Below.refl w.heap.size w); have H := h; clear h
 unfold impl_neededParts.f at H
 obtain ⟨⟨t190, t191⟩, A2, H⟩ := bindq H; try dsimp only at H
 obtain ⟨y194, hy194⟩ : ∃ y_ : List Int, y_ = (([] : List Int)) := ⟨_, rfl⟩; replace H : (if 1 ≤ (t190.length : Int) then ((some (t190.drop 1 : List Int)).bind fun y197 => (if y194.length + y197.length < 17592186044416 then (some (y194 ++ y197)) else (none))) else (none)) = some r := yq hy194 H; have Ny194 := am hy194; clear hy194; by_cases c3 : 1 ≤ (t190.length : Int)
 ·rw [if_pos c3] at H; have c3b0 := eq_true c3; have c3b1 : decide (1 ≤ (t190.length : Int)) = true := decide_eq_true c3; clear c3; obtain ⟨y197, hy197⟩ : ∃ y_ : List Int, y_ = (t190.drop 1) := ⟨_, rfl⟩; replace H : (if y194.length + y197.length < 17592186044416 then (some (y194 ++ y197)) else (none)) = some r := yq hy197 H; have Ny197 := am hy197; clear hy197; by_cases c4 : y194.length + y197.length < 17592186044416
  ·rw [if_pos c4] at H; have LMc4 := am c4; clear c4; obtain ⟨y201, hy201⟩ : ∃ y_ : List Int, y_ = (y194 ++ y197) := ⟨_, rfl⟩; replace H : (some y201) = some r := yq hy201 H; have Ny201 := am hy201; clear hy201; obtain rfl := Option.some.inj H
   go_enter Try.func32, Try.ntmps32
   go_wp2_with (first | ((with_reducible refine gate_dst (N := 1) rfl ?_); refine box_event ?hg (N := 1) ?hd (cs := #[.int .i64 a0_0, .int .i64 a0_1, .slice A0_2 l0_2.length c0_2]) (t := 51) ?hr ?_; (case hd | hg => rfl); (case hr => go_simp; try rfl); intro gb189 hg w5 hbox hb; have BK189 := am (hbox); have GW189 := am (gq hg); have GE189 := am (gq hg); replace HB := sb hb; clear hb hbox hg; have ⟨b60, b61, b62, d60, d61, d62⟩ := bc3 BK189) | ((with_reducible refine gate_callee (f := 52) rfl ?_); refine goesQ (some 8) Try.func52 #[.slice A0_2 l0_2.length c0_2] ?_; (with_reducible refine (impl_CountKinds.calls k _ _ l0_2 t190 t191 _ ?s1 ?s2 A2.out).mono ?_); (case s1 => exact cq (Kd.C_below HR0_2.out HB.out)); (case s2 => exact HC0_2.out); rintro e w7 ⟨v192, rfl, ho0, hb⟩; refine ⟨_, rfl, ?_⟩; have HO193 := rl ho0; replace BK189 := zb BK189 hb; replace HB := sb hb; (try clear hb ho0)) | ((with_reducible refine gate_dst (N := 11) rfl ?_); refine Kd.R_lit (Kd.int .i64) _ 3 ?hg (N := 11) ?hd (xs := ([] : List Int)) (inner := []) (ok := fun _ => True) (okp := fun _ => True) ?hr ?hp (fun _ hk => hk) trivial (Below.refl _ _) (Nat.le_refl _) (by simp) ?_; (case hd | hg => rfl); (case hr => go_simp; try rfl); (case hp => exact (Reps.none _ _)); intro v195 w8 ho9 hb hg_ hnew_; clear hg_ hnew_; (first | rw [← Ny194.out] at ho9 | (simp only [Int.reduceToNat] at ho9; rw [← Ny194.out] at ho9)); have HO196 := rl (Kd.R_new' ho9 (lw HO193)); replace HO193 := am (Kd.R_elder' (rq HO193) (Kd.R_base ho9) hb); replace BK189 := zb BK189 hb; replace HB := sb hb; clear hb ho9; obtain ⟨Ao11, co11, eo11⟩ := Kd.R_slice HO193.out; subst eo11; have q10 : (1 : Int) ≤ ((t190.length : Int) : Int) := of_decide_eq_true aq; obtain ⟨i010, hi010, _, hsz10, _⟩ := info_parts info3; have hroom10 : t190.length ≤ co11 := (Kd.R_reads' HO193.out).2.1; have hC10 : Kd.C (Kd.int .i64) _ Ao11 t190.length t190 := (Kd.R_reads' HO193.out).2.2; have hcut10 := cut_from (P := Try.prog) 24 3 .i64 Try.underlying24 hi010 1 hsz10 Ao11 t190.length co11 1 (by omega) q10; have hr10 := Kd.C_drop (m := (1 : Int).toNat) (c := co11) hC10 (by omega) hroom10; obtain ⟨A10, hA10⟩ : ∃ A1, A1 = (if co11 = (1 : Int).toNat then Ao11 else (Ao11 : Option Addr).map (·.add ((1 : Int).toNat * 1))) := ⟨_, rfl⟩; obtain ⟨c10, hc10⟩ : ∃ c1, c1 = co11 - (1 : Int).toNat := ⟨_, rfl⟩; have hy10 : y197.length = t190.length - (1 : Int).toNat := (by rw [Ny197.out, List.length_drop] <;> omega); rw [show (t190).drop (1 : Int).toNat = y197 from Ny197.out.symm] at hr10; replace hr10 : Kd.C (Kd.int .i64) _ A10 y197.length y197 := (by rw [hA10]; exact hr10); rw [← hy10, ← hA10, ← hc10] at hcut10; have HR200 := am hr10; have HC200 := am (show y197.length ≤ c10 from by rw [hy10, hc10]; exact Nat.sub_le_sub_right hroom10 _); clear hr10 hC10 hroom10 hi010 hsz10 hc10; have KY10 := am hy10; have KA10 := am hA10; clear hy10 hA10; have KL10 := am (show 1 ≤ t190.length from by omega); replace q10 := eq_true q10) | ((with_reducible refine gate_builtin (b := .append) (xs := #[.tmp 11, .tmp 13]) rfl ?_); at_builtin; refine Kd.R_append_rows (Kd.int .i64) (w0 := w) w.heap.size rfl (.tmp 11) (.tmp 13) 24 3 (.int .i64 0) 8 rfl Try.underlying24 info3 rfl (by decide) (by omega) v195 y194 y197 _ _ _ (fun k_ => some k_ ≠ (.slice Ao11 t190.length co11 : Value).ownBlock) (fun _ => False) rfl rfl ?aO ?aR (fun _ _ h => h) (fun _ h => h.elim) ?aF ?aB ?aS ?aL ?_; (case aR => repeat (first | exact (by repeat (first | (with_reducible exact HR200.out) | (with_reducible refine Kd.C_alloc ?_ _) | (with_reducible refine Kd.C_drewN ?_ _) | (with_reducible refine Kd.C_drew ?_) | exact HR200.out)) | (with_reducible refine Kd.C_alloc ?_ _) | (with_reducible refine Kd.C_drewN ?_ _) | (with_reducible refine Kd.C_drew ?_))); (case aB => exact bq); (case aF => exact (fun k_ hk => Kd.fresh' (lw HO193) k_ hk)); (case aO => exact (rm HO196)); (case aS => exact (below_size bq)); (case aL => have := LMc4.out; omega); intro v202 w12 ho hb hg hat; rw [← Ny201.out] at ho; have n0_ := zg BK189 hg (Kd.R_ne HO196.out BK189.out (by decide)); have n1_ := am (Kd.R_after (ok := (fun _ => True)) (rq HO193) hg hat); have n2_ := am (hb); have n3_ := am ((show Kd.C (Kd.int .i64) w12 A10 y197.length y197 from by rw [Ny197.out, KA10.out]; exact Kd.C_drop (m := 1) (c := co11) ((Kd.R_reads' (Kd.R_after (ok := (fun _ => True)) (rq HO193) hg hat)).2.2) KL10.out ((Kd.R_reads' (Kd.R_after (ok := (fun _ => True)) (rq HO193) hg hat)).2.1))); have n4_ := am (ho); clear BK189; clear HO193; clear HB; clear HR200; clear HO196; have BK189 := n0_; have HB := n2_; have HR200 := n3_; have HO203 := n4_; clear n0_ n1_ n2_ n3_ n4_; clear ho hb hg hat))
   go_ret
   exact ⟨_, eq_, by (with_reducible repeat (first | apply Kd.R_alloc | apply Kd.R_drewN | apply Kd.R_drew)); exact Kd.R_mono HO203.out (fun _ hk => trivial), bq⟩
  rw [if_neg c4] at H; exact absurd H (by simp)
 rw [if_neg c3] at H; exact absurd H (by simp)



mutual
def impl_SharedKit.l0 : Nat → List Int → List (S51) → Int → Int → Option (List Int × Bool)
 | 0, _, _, _, _ => none
 | k + 1, x4, x13, x14, x15 => if x15 < x14 then (if 0 ≤ x15 then (if x15 < (x13.length : Int) then ((impl_neededParts.f k ((rd_T51 x13 x15).f0) ((rd_T51 x13 x15).f1) ((rd_T51 x13 x15).f2)).bind fun t287 => (impl_SharedKit.l1 k x4 x13 x14 x15 t287 (t287.length : Int) 0)) else (none)) else (none)) else (some (x4, true))
def impl_SharedKit.l1 : Nat → List Int → List (S51) → Int → Int → List Int → Int → Int → Option (List Int × Bool)
 | 0, _, _, _, _, _, _, _ => none
 | k + 1, x4, x13, x14, x15, x20, x21, x22 => if x22 < x21 then (if 0 ≤ x22 then (if x22 < (x20.length : Int) then (if x22 < (x4.length : Int) then (impl_SharedKit.l1 k (x4.set (x22 : Int).toNat (mx (rd x4 x22) (rd x20 x22))) x13 x14 x15 x20 x21 (wrap64 (x22 + 1))) else (none)) else (none)) else (none)) else (impl_SharedKit.l0 k x4 x13 x14 (wrap64 (x15 + 1)))
end
def impl_SharedKit.f (k : Nat) (l0 : List (S51)) : Option (List Int × Bool) := (impl_areBoards.f k l0).bind fun t281 => (if t281 = true then (if 7 ≤ 35184372088832 then (impl_SharedKit.l0 k (List.replicate 7 0) l0 (l0.length : Int) 0) else (none)) else (some (([] : List Int), false)))
theorem impl_SharedKit.calls (k : Nat) (A0 : Option Addr) (c0 : Nat) (l0 : List (S51)) (r1 : List Int) (r2 : Bool) (w : World) (hr0 : Kd.C k51 w A0 l0.length l0) (hc0 : l0.length ≤ c0) (h : impl_SharedKit.f k l0 = some (r1, r2)) :
  Calls Try.prog 17 #[.slice A0 l0.length c0] w fun e w' => ∃ v0_ : Value, e = .returned (.tuple #[v0_, .bool r2]) ∧ Kd.R (Kd.int .i64) 3 w' w.heap.size (fun _ => True) v0_ r1 ∧ Below w.heap.size w w' := by
 have hu51 := Try.underlying51; have HR0 := am hr0; have HC0 := am hc0; clear hr0 hc0; have HB := am (Below.refl w.heap.size w); have H := h; clear h
 unfold impl_SharedKit.f at H
 obtain ⟨t281, A2, H⟩ := bindq H; try dsimp only at H
 by_cases c3 : t281 = true
 ·subst c3; rw [if_pos rfl] at H; try dsimp only at H
  by_cases c4 : 7 ≤ 35184372088832
  ·rw [if_pos c4] at H; have c4b0 := eq_true c4; have c4b1 : decide (7 ≤ 35184372088832) = true := decide_eq_true c4; clear c4; obtain ⟨y282, hy282⟩ : ∃ y_ : List Int, y_ = (List.replicate 7 0) := ⟨_, rfl⟩; replace H : (impl_SharedKit.l0 k y282 l0 (l0.length : Int) 0) = some (r1, r2) := yq hy282 H; have Ny282 := am hy282; clear hy282; have H' := am H; clear H
   go_enter Try.func17, Try.ntmps17
   go_wp2_with (first | ((with_reducible refine gate_callee (f := 31) rfl ?_); refine goesQ (some 10) Try.func31 #[.slice A0 l0.length c0] ?_; (with_reducible refine (impl_areBoards.calls k _ _ l0 true _ ?s1 ?s2 A2.out).mono ?_); (case s1 => exact cq HR0.out); (case s2 => exact HC0.out); rintro e w5 ⟨rfl, hb⟩; refine ⟨_, rfl, ?_⟩; have n0_ := sb hb; clear HB; have HB := n0_; clear n0_; (try clear hb)) | ((with_reducible refine gate_dst (N := 12) rfl ?_); refine Kd.R_make (Kd.int .i64) _ 3 rfl (N := 12) rfl 24 _ _ rfl 7 rfl rfl Try.underlying24 (.int .i64 0) 8 info3 rfl (by decide) (by omega) 0 (ok := fun _ => True) (okp := fun _ => True) rfl (fun _ hk => hk) trivial (by omega) (by omega) (Below.refl _ _) (Nat.le_refl _) ?_; intro v283 w6 ho7 hb hg_ hnew_; clear hg_ hnew_; (first | rw [← Ny282.out] at ho7 | (simp only [Int.reduceToNat] at ho7; rw [← Ny282.out] at ho7)); have HO284 := rl ho7; replace HB := sb hb; clear hb ho7))
   go_loopg [15] k (fun kq v15 w' => ∃ (x4_1 : List Int) (x15_1 : Int), v15 = .int .i64 x15_1 ∧ Aside0 (impl_SharedKit.l0 kq x4_1 l0 (l0.length : Int) x15_1 = some (r1, r2)) ∧ Aside0 (kq ≤ k) ∧ Aside0 (Kd.R (Kd.int .i64) 3 w' w.heap.size (fun _ => True) v283 x4_1) ∧ Aside0 (Below w.heap.size w w'))
   case atStart => exact ⟨(y282), (0), sq, H', ⟨Nat.le_refl _⟩, ⟨rq HO284⟩, ⟨bq⟩⟩
   case round =>
    clear H'; try clear c3
    try clear c4b0
    try clear c4b1
    obtain ⟨x4_1, x15_1, rfl, HA, HK1, HO_4, HB⟩ := hrel
    cases gk with
    | zero => exact absurd HA.out (by simp [impl_SharedKit.l0])
    | succ k1 =>
     have H := HA.out; clear HA; simp only [impl_SharedKit.l0] at H; by_cases c8 : x15_1 < (l0.length : Int)
     ·rw [if_pos c8] at H; have c8b0 : decide (x15_1 < (l0.length : Int)) = true := decide_eq_true c8; clear c8; by_cases c9 : 0 ≤ x15_1
      ·rw [if_pos c9] at H; have c9b0 : decide (0 ≤ x15_1) = true := decide_eq_true c9; clear c9; by_cases c10 : x15_1 < (l0.length : Int)
       ·rw [if_pos c10] at H; have c10b0 : decide (x15_1 < (l0.length : Int)) = true := decide_eq_true c10; clear c10; obtain ⟨t287, A11, H⟩ := bindq H; try dsimp only at H
        have H' := am H; clear H; have p285 : 0 ≤ (x15_1 : Int) := of_decide_eq_true aq; have q285 : x15_1 < (l0.length : Int) := of_decide_eq_true aq; obtain ⟨ad285, A285_2, c285_2, e285, hx285_0, hx285_1, hx285_2, hl285_2, hi285_2⟩ := at_T51 HR0.out x15_1 p285 q285
        cases e285
        replace hx285_0 := (HB.out.cell (World.block_lt_of_cell? w _ hx285_0)).trans hx285_0; replace hx285_1 := (HB.out.cell (World.block_lt_of_cell? w _ hx285_1)).trans hx285_1; replace hx285_2 := (HB.out.cell (World.block_lt_of_cell? w _ hx285_2)).trans hx285_2; have HR285_2 := am hi285_2; have HC285_2 := am hl285_2; clear hi285_2 hl285_2; replace p285 := eq_true p285; replace q285 := eq_true q285; go_wp2_with (first | ((with_reducible refine gate_dst (N := 6) rfl ?_); refine box_event ?hg (N := 6) ?hd (cs := #[.int .i64 0, .int .i64 0, .slice none 0 0]) (t := 51) ?hr ?_; (case hd | hg => rfl); (case hr => go_simp; try rfl); intro gb286 hg w12 hbox hb; replace HO_4 := rb HO_4 hb; have BK286 := am (hbox); have GW286 := am (gq hg); have GE286 := am (gq hg); replace HB := sb hb; clear hb hbox hg; have ⟨b130, b131, b132, d130, d131, d132⟩ := bc3 BK286) | ((with_reducible refine gate_callee (f := 32) rfl ?_); refine goesQ (some 20) Try.func32 #[.agg #[.int .i64 ((rd_T51 l0 x15_1).f0), .int .i64 ((rd_T51 l0 x15_1).f1), .slice A285_2 ((rd_T51 l0 x15_1).f2).length c285_2]] ?_; (with_reducible refine (impl_neededParts.calls k1 ((rd_T51 l0 x15_1).f0) ((rd_T51 l0 x15_1).f1) _ _ ((rd_T51 l0 x15_1).f2) t287 _ ?s1 ?s2 A11.out).mono ?_); (case s1 => exact Kd.C_below HR285_2.out bq); (case s2 => exact HC285_2.out); rintro e w14 ⟨v288, rfl, ho0, hb⟩; refine ⟨_, rfl, ?_⟩; have HO289 := rl (Kd.R_new' ho0 (Kd.R_lt (fq HO_4 BK286))); replace HO_4 := am (Kd.R_elder' (fq HO_4 BK286) (Kd.R_base ho0) hb); replace BK286 := zw (.cells #[.int .i64 ((rd_T51 l0 x15_1).f0), .int .i64 ((rd_T51 l0 x15_1).f1), .slice A285_2 ((rd_T51 l0 x15_1).f2).length c285_2] 51 (0, 0)) BK286 hb; replace HB := sb hb; (try clear hb ho0); obtain ⟨Ao15, co15, eo15⟩ := Kd.R_slice HO289.out; subst eo15))
        go_loopg [22] k1 (fun kq v22 w' => ∃ (x4_2 : List Int) (x22_2 : Int), v22 = .int .i64 x22_2 ∧ Aside0 (impl_SharedKit.l1 kq x4_2 l0 (l0.length : Int) x15_1 t287 (t287.length : Int) x22_2 = some (r1, r2)) ∧ Aside0 (kq ≤ k1) ∧ Aside0 (Kd.R (Kd.int .i64) 3 w' w.heap.size (fun k_ => some k_ ≠ ((.slice Ao15 t287.length co15) : Value).ownBlock) v283 x4_2) ∧ Aside0 (Kd.R (Kd.int .i64) 3 w' w.heap.size (fun k_ => some k_ ≠ (v283 : Value).ownBlock) (.slice Ao15 t287.length co15) t287) ∧ Aside0 (w'.heap[gb286]? = some (.cells #[.int .i64 ((rd_T51 l0 x15_1).f0), .int .i64 ((rd_T51 l0 x15_1).f1), (.slice A285_2 ((rd_T51 l0 x15_1).f2).length c285_2)] 51 (0, 0))) ∧ Aside0 (Below w.heap.size w w'))
        case atStart => exact ⟨(x4_1), (0), sq, H', ⟨Nat.le_refl _⟩, ⟨rm HO_4⟩, ⟨rm HO289⟩, ⟨zq BK286⟩, ⟨bq⟩⟩
        case round =>
         clear H'; try clear c3
         try clear c4b0
         try clear c4b1
         try clear c8b0
         try clear c9b0
         try clear c10b0
         try clear b130 b131 b132 d130 d131 d132
         try clear hx285_0
         try clear hx285_1
         try clear hx285_2
         try clear p285
         try clear q285
         obtain ⟨x4_2, x22_2, rfl, HA, HK2, HO_4, HO_20, BK286, HB⟩ := hrel
         cases gk with
         | zero => exact absurd HA.out (by simp [impl_SharedKit.l1])
         | succ k2 =>
          have H := HA.out; clear HA; simp only [impl_SharedKit.l1] at H; by_cases c16 : x22_2 < (t287.length : Int)
          ·rw [if_pos c16] at H; have c16b0 : decide (x22_2 < (t287.length : Int)) = true := decide_eq_true c16; clear c16; by_cases c17 : 0 ≤ x22_2
           ·rw [if_pos c17] at H; have c17b0 : decide (0 ≤ x22_2) = true := decide_eq_true c17; clear c17; by_cases c18 : x22_2 < (t287.length : Int)
            ·rw [if_pos c18] at H; have c18b0 : decide (x22_2 < (t287.length : Int)) = true := decide_eq_true c18; clear c18; by_cases c19 : x22_2 < (x4_2.length : Int)
             ·rw [if_pos c19] at H; have c19b0 : decide (x22_2 < (x4_2.length : Int)) = true := decide_eq_true c19; clear c19; obtain ⟨ji20, hji20⟩ : ∃ j_ : Int, (mx (rd x4_2 x22_2) (rd t287 x22_2)) = j_ := ⟨_, rfl⟩; replace H : (impl_SharedKit.l1 k2 (x4_2.set (x22_2 : Int).toNat (ji20)) l0 (l0.length : Int) x15_1 t287 (t287.length : Int) (wrap64 (x22_2 + 1))) = some (r1, r2) := by first | (rw [hji20] at H; exact H) | (simp only [hji20] at H ⊢; exact H)
              have hji20_ : (if (rd x4_2 x22_2) < (rd t287 x22_2) then (rd t287 x22_2) else (rd x4_2 x22_2)) = ji20 := hji20; obtain ⟨y292, hy292⟩ : ∃ y_ : List Int, y_ = (x4_2.set (x22_2 : Int).toNat (ji20)) := ⟨_, rfl⟩; replace H : (impl_SharedKit.l1 k2 y292 l0 (l0.length : Int) x15_1 t287 (t287.length : Int) (wrap64 (x22_2 + 1))) = some (r1, r2) := yq hy292 H; have Ny292 := am hy292; clear hy292; have H' := am H; clear H; have p290 : 0 ≤ (x22_2 : Int) := of_decide_eq_true aq; have q290 : x22_2 < (t287.length : Int) := of_decide_eq_true aq; obtain ⟨ad290, e290, hx290_0⟩ := Kd.at_int (Kd.R_reads' HO_20.out).2.2 x22_2 p290 q290
              cases e290
              replace p290 := eq_true p290; replace q290 := eq_true q290; obtain ⟨Ao22, co22, eo22⟩ := Kd.R_slice HO_4.out; subst eo22; have p291 : 0 ≤ (x22_2 : Int) := of_decide_eq_true aq; have q291 : x22_2 < (x4_2.length : Int) := of_decide_eq_true aq; obtain ⟨ad291, e291, hx291_0⟩ := Kd.at_int (Kd.R_reads' HO_4.out).2.2 x22_2 p291 q291
              cases e291
              replace p291 := eq_true p291; replace q291 := eq_true q291; have p21 : 0 ≤ (x22_2 : Int) := of_decide_eq_true aq; have q21 : (x22_2 : Int) < ((x4_2.length : Int) : Int) := of_decide_eq_true aq; obtain ⟨go21, co21, eo21, gb21, gl21, cl21, HG21⟩ := Kd.R_form HO_4.out (by omega); (first | cases eo21 | (injection eo21 with ea_ en_ ec_; (first | subst ea_ | (injection ea_ with ea_; subst ea_)); subst ec_; clear en_)); have GB21 := am gb21; have GG21 := am HG21; clear gb21 gl21 HG21; (first | simp only [add_plain] at hx291_0 | skip); obtain ⟨hx21_0, hf21_0⟩ := Kd.R_celln 0 HO_4.out (x22_2 : Int) p21 q21; replace p21 := eq_true p21; replace q21 := eq_true q21; have HP23 := Kd.R_putg HO_4.out (x22_2 : Int) ji20; go_wp2_with (first | ((with_reducible refine gate_store (t := 3) (p := 35) rfl ?_); refine store_event (t := 3) (p := 35) (v := ?vo_w24) (w1 := (wr.setCell ⟨go21, (x22_2 : Int).toNat, none⟩ (.int .i64 ji20))) ?hg ?ho ?hn ?hr ?_; (case ho => rfl); (case hg => rfl); (case hn => rfl); (case hr => go_simp; try rfl); intro w24 hw; have hg : wr.grownBy w24 (some go21) := (by rw [hw]; exact HP23.2); have hp_ : Kd.R (Kd.int .i64) 3 w24 w.heap.size (fun k_ => some k_ ≠ (.slice (some ad290) t287.length co15 : Value).ownBlock) (.slice (some ⟨go21, 0, none⟩) x4_2.length co22) y292 := (by rw [hw, Ny292.out]; exact HP23.1); clear HP23; replace HO_20 := am (Kd.R_after (v := (.slice (some ⟨go21, 0, none⟩) x4_2.length co22)) (v1 := (.slice (some ⟨go21, 0, none⟩) x4_2.length co22)) (ok := (fun _ => True)) (rm HO_20) hg (.inl rfl)); replace BK286 := zg BK286 hg (Kd.R_ne HO_4.out BK286.out (by decide)); replace HO_4 := am (hp_); replace HB := am ((by rw [hw]; exact below_set (HB.out) GB21.out : Below w.heap.size w w24)); clear hg hw hp_))
              go_roundg k2
              case measure => have := HK1.out; have := HK2.out; omega
              case rel => exact ⟨(y292), (wrap64 (x22_2 + 1)), sq, H', ⟨by have := HK1.out; have := HK2.out; omega⟩, ⟨rq HO_4⟩, ⟨rm HO_20⟩, ⟨zq BK286⟩, ⟨bq⟩⟩
             rw [if_neg c19] at H; exact absurd H (by simp)
            rw [if_neg c18] at H; exact absurd H (by simp)
           rw [if_neg c17] at H; exact absurd H (by simp)
          rw [if_neg c16] at H; have c16b0 : decide (x22_2 < (t287.length : Int)) = false := decide_eq_false c16; clear c16; have H' := am H; clear H
          go_wp2
          go_roundg k2
          case measure => have := HK1.out; have := HK2.out; omega
          case rel => exact ⟨(x4_2), (wrap64 (x15_1 + 1)), sq, H', ⟨by have := HK1.out; have := HK2.out; omega⟩, ⟨rm HO_4⟩, ⟨bq⟩⟩
       rw [if_neg c10] at H; exact absurd H (by simp)
      rw [if_neg c9] at H; exact absurd H (by simp)
     rw [if_neg c8] at H; have c8b0 : decide (x15_1 < (l0.length : Int)) = false := decide_eq_false c8; clear c8; simp only [Option.some.injEq, Prod.mk.injEq] at H; obtain ⟨rfl, rfl⟩ := H
     go_wp2
     go_ret2
     exact ⟨_, eq_, rq HO_4, bq⟩
  rw [if_neg c4] at H; exact absurd H (by simp)
 replace c3 := Bool.eq_false_iff.mpr c3; subst c3; rw [if_neg (show ¬ (false = true) by decide)] at H; try dsimp only at H
 simp only [Option.some.injEq, Prod.mk.injEq] at H; obtain ⟨rfl, rfl⟩ := H
 go_enter Try.func17, Try.ntmps17
 go_wp2_with (first | ((with_reducible refine gate_callee (f := 31) rfl ?_); refine goesQ (some 10) Try.func31 #[.slice A0 l0.length c0] ?_; (with_reducible refine (impl_areBoards.calls k _ _ l0 false _ ?s1 ?s2 A2.out).mono ?_); (case s1 => exact cq HR0.out); (case s2 => exact HC0.out); rintro e w25 ⟨rfl, hb⟩; refine ⟨_, rfl, ?_⟩; have n0_ := sb hb; clear HB; have HB := n0_; clear n0_; (try clear hb)))
 go_ret2
 exact ⟨_, eq_, by first | exact Kd.R_nil _ _ _ _ _ | exact Kd.N_nil _ _ _ _ _ | exact Kd.V_nil _ _ _ _ _ | exact Kd.Q_nil _ _ _ _ _ | exact Kd.S_nil _ _ _ _ _, bq⟩



mutual
def laws_FnExactSharedKit.j0 : Nat → List (S47) → List Int → Bool → List (S51) → List Int → Bool → Bool → Option (Bool)
 | 0, _, _, _, _, _, _, _ => none
 | k + 1, x0, x4, x5, x6, x7, x8, x40 => if x40 = true then (some false) else ((laws_toBoardS.f k x0).bind fun t309 => ((laws_eqBoardS.f k x6 t309).bind fun t312 => (if t312 = true then ((laws_markBoardS.f k x6 1).bind fun t313 => (if t313 < 0 then (laws_FnExactSharedKit.j1 k x0 x4 x5 x7 true) else ((laws_eqIntS.f k x7 x4).bind fun t314 => (if t314 = true then (laws_FnExactSharedKit.j1 k x0 x4 x5 x7 (x8 != x5)) else (laws_FnExactSharedKit.j1 k x0 x4 x5 x7 true))))) else (some false))))
def laws_FnExactSharedKit.j1 : Nat → List (S47) → List Int → Bool → List Int → Bool → Option (Bool)
 | 0, _, _, _, _, _ => none
 | k + 1, x0, x4, x5, x7, x61 => if x61 = true then (some false) else ((laws_markIntS.f k x7 1).bind fun bt315 => ((laws_heldIntS.f k bt315.2 1).bind fun t317 => (if t317 < 0 then (some false) else (if t317 = bt315.1 then ((laws_toBoardS.f k x0).bind fun t318 => ((impl_SharedKit.f k t318).bind fun bt321 => ((laws_eqIntS.f k bt321.1 x4).bind fun t325 => (if t325 = true then (laws_FnExactSharedKit.j2 k bt315.2 bt315.1 (bt321.2 != x5)) else (laws_FnExactSharedKit.j2 k bt315.2 bt315.1 true))))) else (some false)))))
def laws_FnExactSharedKit.j2 : Nat → List Int → Int → Bool → Option (Bool)
 | 0, _, _, _ => none
 | k + 1, x7, x10, x87 => if x87 = true then (some false) else ((laws_heldIntS.f k x7 1).bind fun t326 => (if t326 < 0 then (some false) else (if t326 = x10 then (some true) else (some false))))
end
def laws_FnExactSharedKit.f (k : Nat) (l0 : List (S47)) : Option (Bool) := (laws_szBoardS.f k l0 1048576).bind fun t293 => (if t293 < 0 then (some true) else ((laws_toBoardS.f k l0).bind fun t294 => ((spec_SharedKit.f k t294).bind fun bt297 => ((laws_toBoardS.f k l0).bind fun t301 => ((impl_SharedKit.f k t301).bind fun bt304 => ((laws_eqIntS.f k bt304.1 bt297.1).bind fun t308 => (if t308 = true then (laws_FnExactSharedKit.j0 k l0 bt297.1 bt297.2 t301 bt304.1 bt304.2 (bt304.2 != bt297.2)) else (laws_FnExactSharedKit.j0 k l0 bt297.1 bt297.2 t301 bt304.1 bt304.2 true))))))))
theorem laws_FnExactSharedKit.calls (k : Nat) (A0 : Option Addr) (c0 : Nat) (l0 : List (S47)) (r : Bool) (w : World) (hr0 : Kd.C k47 w A0 l0.length l0) (hc0 : l0.length ≤ c0) (h : laws_FnExactSharedKit.f k l0 = some r) :
  Calls Try.prog 4 #[.slice A0 l0.length c0] w fun e w' => e = .returned (.bool r) ∧ Below w.heap.size w w' := by
 have HR0 := am hr0; have HC0 := am hc0; clear hr0 hc0; have HB := am (Below.refl w.heap.size w); have H := h; clear h
 unfold laws_FnExactSharedKit.f at H
 obtain ⟨t293, A2, H⟩ := bindq H; try dsimp only at H
 by_cases c3 : t293 < 0
 ·rw [if_pos c3] at H; have c3b0 : decide (t293 < 0) = true := decide_eq_true c3; clear c3; obtain rfl := Option.some.inj H
  go_enter Try.func4, Try.ntmps4
  go_wp2_with (first | ((with_reducible refine gate_callee (f := 7) rfl ?_); refine goesQ (some 16) Try.func7 #[.slice A0 l0.length c0, .int .i64 1048576] ?_; (with_reducible refine (laws_szBoardS.calls k _ _ l0 1048576 t293 _ ?s1 ?s2 A2.out).mono ?_); (case s1 => exact cq HR0.out); (case s2 => exact HC0.out); rintro e w4 ⟨rfl, hb⟩; refine ⟨_, rfl, ?_⟩; have n0_ := sb hb; clear HB; have HB := n0_; clear n0_; (try clear hb)))
  go_ret
  exact ⟨eq_, bq⟩
 rw [if_neg c3] at H; have c3b0 : decide (t293 < 0) = false := decide_eq_false c3; clear c3; obtain ⟨t294, A5, H⟩ := bindq H; try dsimp only at H
 obtain ⟨⟨t297, t298⟩, A6, H⟩ := bindq H; try dsimp only at H
 obtain ⟨t301, A7, H⟩ := bindq H; try dsimp only at H
 obtain ⟨⟨t304, t305⟩, A8, H⟩ := bindq H; try dsimp only at H
 have HC9 := am H; clear H
 go_enter Try.func4, Try.ntmps4
 go_upto_region 8 with (first | ((with_reducible refine gate_callee (f := 7) rfl ?_); refine goesQ (some 16) Try.func7 #[.slice A0 l0.length c0, .int .i64 1048576] ?_; (with_reducible refine (laws_szBoardS.calls k _ _ l0 1048576 t293 _ ?s1 ?s2 A2.out).mono ?_); (case s1 => exact cq HR0.out); (case s2 => exact HC0.out); rintro e w10 ⟨rfl, hb⟩; refine ⟨_, rfl, ?_⟩; have n0_ := sb hb; clear HB; have HB := n0_; clear n0_; (try clear hb)) | ((with_reducible refine gate_callee (f := 9) rfl ?_); refine goesQ (some 21) Try.func9 #[.slice A0 l0.length c0] ?_; (with_reducible refine (laws_toBoardS.calls k _ _ l0 t294 _ ?s1 ?s2 A5.out).mono ?_); (case s1 => exact cq (Kd.C_below HR0.out HB.out)); (case s2 => exact HC0.out); rintro e w11 ⟨v295, rfl, ho0, hb⟩; refine ⟨_, rfl, ?_⟩; have HO296 := am (Kd.S_lower ho0 (below_size bq)); replace HB := sb hb; (try clear hb ho0); obtain ⟨Ao12, co12, eo12⟩ := Kd.S_slice HO296.out; subst eo12) | ((with_reducible refine gate_callee (f := 16) rfl ?_); refine goesQ (some 22) Try.func16 #[.slice Ao12 t294.length co12] ?_; (with_reducible refine (spec_SharedKit.calls k _ _ t294 t297 t298 _ ?s1 ?s2 A6.out).mono ?_); (case s1 => exact cq (Kd.S_reads' HO296.out).2.2); (case s2 => exact (Kd.S_reads' HO296.out).2.1); rintro e w13 ⟨v299, rfl, ho0, hb⟩; refine ⟨_, rfl, ?_⟩; replace HO296 := am (Kd.S_below (by (with_reducible repeat (first | apply Kd.S_alloc | apply Kd.S_drewN | apply Kd.S_drew)); exact HO296.out) hb); have HO300 := rl ho0; replace HB := sb hb; (try clear hb ho0)) | ((with_reducible refine gate_callee (f := 9) rfl ?_); refine goesQ (some 26) Try.func9 #[.slice A0 l0.length c0] ?_; (with_reducible refine (laws_toBoardS.calls k _ _ l0 t301 _ ?s1 ?s2 A7.out).mono ?_); (case s1 => exact cq (Kd.C_below HR0.out HB.out)); (case s2 => exact HC0.out); rintro e w14 ⟨v302, rfl, ho0, hb⟩; refine ⟨_, rfl, ?_⟩; replace HO300 := rb HO300 hb; have HO303 := am (Kd.S_lower (Kd.S_new' ho0 (Kd.S_lt (by (with_reducible repeat (first | apply Kd.S_alloc | apply Kd.S_drewN | apply Kd.S_drew)); exact HO296.out))) (below_size bq)); replace HB := sb hb; (try clear hb ho0); obtain ⟨Ao15, co15, eo15⟩ := Kd.S_slice HO303.out; subst eo15) | ((with_reducible refine gate_callee (f := 17) rfl ?_); refine goesQ (some 29) Try.func17 #[.slice Ao15 t301.length co15] ?_; (with_reducible refine (impl_SharedKit.calls k _ _ t301 t304 t305 _ ?s1 ?s2 A8.out).mono ?_); (case s1 => exact cq (Kd.S_reads' HO303.out).2.2); (case s2 => exact (Kd.S_reads' HO303.out).2.1); rintro e w16 ⟨v306, rfl, ho0, hb⟩; refine ⟨_, rfl, ?_⟩; replace HO303 := am (Kd.S_below (by (with_reducible repeat (first | apply Kd.S_alloc | apply Kd.S_drewN | apply Kd.S_drew)); exact HO303.out) hb); have HO307 := rl (Kd.R_new' ho0 (lw HO300)); replace HO300 := am (Kd.R_elder' (rq HO300) (Kd.R_base ho0) hb); replace HB := sb hb; (try clear hb ho0)))
 (try simp only [Act.put, List.setIfInBounds_toArray, List.set_cons_zero, List.set_cons_succ])
 go_cut [40] (fun v40 wc => ∃ (kq : Nat) (x40_8 : Bool), v40 = .bool x40_8 ∧ Aside0 (laws_FnExactSharedKit.j0 kq l0 t297 t298 t301 t304 t305 x40_8 = some r) ∧ Aside0 (kq ≤ k) ∧ Aside0 (Kd.R (Kd.int .i64) 3 wc w.heap.size (fun k_ => some k_ ≠ (v306 : Value).ownBlock) v299 t297) ∧ Aside0 (Kd.S k51 51 wc w.heap.size (fun _ => True) (.slice Ao15 t301.length co15) t301) ∧ Aside0 (Kd.R (Kd.int .i64) 3 wc w.heap.size (fun k_ => some k_ ≠ (v299 : Value).ownBlock) v306 t304) ∧ Aside0 (Below w.heap.size w wc))
 case first =>
  have H := HC9.out; clear HC9; obtain ⟨t308, A17, H⟩ := bindq H; try dsimp only at H
  by_cases c18 : t308 = true
  ·subst c18; rw [if_pos rfl] at H; try dsimp only at H
   have H' := am H; clear H; obtain ⟨Ao19, co19, eo19⟩ := Kd.R_slice HO307.out; subst eo19; obtain ⟨Ao20, co20, eo20⟩ := Kd.R_slice HO300.out; subst eo20; go_wp2_with (first | ((with_reducible refine gate_callee (f := 11) rfl ?_); refine goesQ (some 34) Try.func11 #[.slice Ao19 t304.length co19, .slice Ao20 t297.length co20] ?_; (with_reducible refine (laws_eqIntS.calls k _ _ t304 _ _ t297 true _ ?s1 ?s2 ?s3 ?s4 A17.out).mono ?_); (case s1 => exact cr HO307); (case s2 => exact rq1 HO307); (case s3 => exact cr HO300); (case s4 => exact rq1 HO300); rintro e w' ⟨rfl, ⟨nd, rfl⟩⟩; refine ⟨_, rfl, ?_⟩))
   go_meet
   case rel => exact ⟨_, ((t305 != t298)), sq, H', ⟨by first | omega | exact Nat.le_refl _⟩, ⟨rm HO300⟩, ⟨by (with_reducible repeat (first | apply Kd.S_alloc | apply Kd.S_drewN | apply Kd.S_drew)); exact Kd.S_mono HO303.out (fun _ hk => trivial)⟩, ⟨rm HO307⟩, ⟨bq⟩⟩
  replace c18 := Bool.eq_false_iff.mpr c18; subst c18; rw [if_neg (show ¬ (false = true) by decide)] at H; try dsimp only at H
  have H' := am H; clear H; obtain ⟨Ao21, co21, eo21⟩ := Kd.R_slice HO307.out; subst eo21; obtain ⟨Ao22, co22, eo22⟩ := Kd.R_slice HO300.out; subst eo22; go_wp2_with (first | ((with_reducible refine gate_callee (f := 11) rfl ?_); refine goesQ (some 34) Try.func11 #[.slice Ao21 t304.length co21, .slice Ao22 t297.length co22] ?_; (with_reducible refine (laws_eqIntS.calls k _ _ t304 _ _ t297 false _ ?s1 ?s2 ?s3 ?s4 A17.out).mono ?_); (case s1 => exact cr HO307); (case s2 => exact rq1 HO307); (case s3 => exact cr HO300); (case s4 => exact rq1 HO300); rintro e w' ⟨rfl, ⟨nd, rfl⟩⟩; refine ⟨_, rfl, ?_⟩))
  go_meet
  case rel => exact ⟨_, (true), sq, H', ⟨by first | omega | exact Nat.le_refl _⟩, ⟨rm HO300⟩, ⟨by (with_reducible repeat (first | apply Kd.S_alloc | apply Kd.S_drewN | apply Kd.S_drew)); exact Kd.S_mono HO303.out (fun _ hk => trivial)⟩, ⟨rm HO307⟩, ⟨bq⟩⟩
 case rest =>
  clear HC9; try clear c3b0
  try clear c18
  obtain ⟨kq, x40_8, rfl, HA, HJ8, HO_4, HO_6, HO_7, HB⟩ := hcut
  cases kq with
  | zero => exact absurd HA.out (by simp [laws_FnExactSharedKit.j0])
  | succ kj8 =>
   have H := HA.out; clear HA; simp only [laws_FnExactSharedKit.j0] at H; by_cases c23 : x40_8 = true
   ·subst c23; rw [if_pos rfl] at H; try dsimp only at H
    obtain rfl := Option.some.inj H
    go_wp2
    go_ret
    exact ⟨eq_, bq⟩
   replace c23 := Bool.eq_false_iff.mpr c23; subst c23; rw [if_neg (show ¬ (false = true) by decide)] at H; try dsimp only at H
   obtain ⟨t309, A24, H⟩ := bindq H; try dsimp only at H
   obtain ⟨t312, A25, H⟩ := bindq H; try dsimp only at H
   by_cases c26 : t312 = true
   ·subst c26; rw [if_pos rfl] at H; try dsimp only at H
    obtain ⟨t313, A27, H⟩ := bindq H; try dsimp only at H
    have HC28 := am H; clear H
    go_upto_region 14 with (first | ((with_reducible refine gate_callee (f := 9) rfl ?_); refine goesQ (some 43) Try.func9 #[.slice A0 l0.length c0] ?_; (with_reducible refine (laws_toBoardS.calls kj8 _ _ l0 t309 _ ?s1 ?s2 A24.out).mono ?_); (case s1 => exact cq (Kd.C_below HR0.out HB.out)); (case s2 => exact HC0.out); rintro e w29 ⟨v310, rfl, ho0, hb⟩; refine ⟨_, rfl, ?_⟩; replace HO_4 := rb HO_4 hb; replace HO_7 := rb HO_7 hb; have HO311 := am (Kd.S_lower (Kd.S_new' ho0 (Kd.S_lt (by (with_reducible repeat (first | apply Kd.S_alloc | apply Kd.S_drewN | apply Kd.S_drew)); exact HO_6.out))) (below_size bq)); replace HO_6 := am (Kd.S_elder' (by (with_reducible repeat (first | apply Kd.S_alloc | apply Kd.S_drewN | apply Kd.S_drew)); exact HO_6.out) (Kd.S_base ho0) hb); replace HB := sb hb; (try clear hb ho0); obtain ⟨Ao30, co30, eo30⟩ := Kd.S_slice HO311.out; subst eo30) | ((with_reducible refine gate_callee (f := 12) rfl ?_); refine goesQ (some 44) Try.func12 #[.slice Ao15 t301.length co15, .slice Ao30 t309.length co30] ?_; (with_reducible refine (laws_eqBoardS.calls kj8 _ _ t301 _ _ t309 true _ ?s1 ?s2 ?s3 ?s4 A25.out).mono ?_); (case s1 => exact cq (Kd.S_reads' HO_6.out).2.2); (case s2 => exact (Kd.S_reads' HO_6.out).2.1); (case s3 => exact cq (Kd.S_reads' HO311.out).2.2); (case s4 => exact (Kd.S_reads' HO311.out).2.1); rintro e w31 ⟨rfl, hb⟩; refine ⟨_, rfl, ?_⟩; replace HO_4 := rb HO_4 hb; replace HO_6 := am (Kd.S_below (by (with_reducible repeat (first | apply Kd.S_alloc | apply Kd.S_drewN | apply Kd.S_drew)); exact HO_6.out) hb); replace HO_7 := rb HO_7 hb; replace HO311 := am (Kd.S_below (by (with_reducible repeat (first | apply Kd.S_alloc | apply Kd.S_drewN | apply Kd.S_drew)); exact HO311.out) hb); replace HB := sb hb; (try clear hb)) | ((with_reducible refine gate_callee (f := 13) rfl ?_); refine goesQ (some 48) Try.func13 #[.slice Ao15 t301.length co15, .int .i64 1] ?_; (with_reducible refine (laws_markBoardS.callsT (ok := ?okm) kj8 _ t301 1 t313 w _ ?s1 ?s2 A27.out).mono ?_); (case s1 => exact bq); (case s2 => (with_reducible repeat (first | apply Kd.S_alloc | apply Kd.S_drewN | apply Kd.S_drew)); exact HO_6.out); rintro e w99 ⟨rfl, hb, hR⟩; refine ⟨_, rfl, ?_⟩; replace HO_4 := am (hR (d := Kd.int .i64) (e := 3) (by decide) (rq HO_4)); replace HO_7 := am (hR (d := Kd.int .i64) (e := 3) (by decide) (rq HO_7)); replace HB := am hb; clear HO_6 hb hR))
    (try simp only [Act.put, List.setIfInBounds_toArray, List.set_cons_zero, List.set_cons_succ])
    go_cut [61] (fun v61 wc => ∃ (kq : Nat) (x61_27 : Bool), v61 = .bool x61_27 ∧ Aside0 (laws_FnExactSharedKit.j1 kq l0 t297 t298 t304 x61_27 = some r) ∧ Aside0 (kq ≤ kj8) ∧ Aside0 (Kd.R (Kd.int .i64) 3 wc w.heap.size (fun k_ => some k_ ≠ (v306 : Value).ownBlock) v299 t297) ∧ Aside0 (Kd.R (Kd.int .i64) 3 wc w.heap.size (fun k_ => some k_ ≠ (v299 : Value).ownBlock) v306 t304) ∧ Aside0 (Below w.heap.size w wc))
    case first =>
     have H := HC28.out; clear HC28; by_cases c32 : t313 < 0
     ·rw [if_pos c32] at H; have c32b0 : decide (t313 < 0) = true := decide_eq_true c32; clear c32; (first | rw [c32b0] | (simp only [i64_w, i32_w]; rw [c32b0]) | skip); have H' := am H; clear H
      go_wp2
      go_meet
      case rel => exact ⟨_, (true), sq, H', ⟨by have := HJ8.out; first | omega | exact Nat.le_refl _⟩, ⟨rq HO_4⟩, ⟨rq HO_7⟩, ⟨bq⟩⟩
     rw [if_neg c32] at H; have c32b0 : decide (t313 < 0) = false := decide_eq_false c32; clear c32; (first | rw [c32b0] | (simp only [i64_w, i32_w]; rw [c32b0]) | skip); obtain ⟨t314, A33, H⟩ := bindq H; try dsimp only at H
     by_cases c34 : t314 = true
     ·subst c34; rw [if_pos rfl] at H; try dsimp only at H
      have H' := am H; clear H; obtain ⟨Ao35, co35, eo35⟩ := Kd.R_slice HO_7.out; subst eo35; obtain ⟨Ao36, co36, eo36⟩ := Kd.R_slice HO_4.out; subst eo36; go_wp2_with (first | (go_at_call 11; (with_reducible refine (laws_eqIntS.calls kj8 _ _ t304 _ _ t297 true _ ?s1 ?s2 ?s3 ?s4 A33.out).mono ?_); (case s1 => exact cr HO_7); (case s2 => exact rq1 HO_7); (case s3 => exact cr HO_4); (case s4 => exact rq1 HO_4); rintro e w' ⟨rfl, ⟨nd, rfl⟩⟩))
      go_meet
      case rel => exact ⟨_, ((t305 != t298)), sq, H', ⟨by have := HJ8.out; first | omega | exact Nat.le_refl _⟩, ⟨rq HO_4⟩, ⟨rq HO_7⟩, ⟨bq⟩⟩
     replace c34 := Bool.eq_false_iff.mpr c34; subst c34; rw [if_neg (show ¬ (false = true) by decide)] at H; try dsimp only at H
     have H' := am H; clear H; obtain ⟨Ao37, co37, eo37⟩ := Kd.R_slice HO_7.out; subst eo37; obtain ⟨Ao38, co38, eo38⟩ := Kd.R_slice HO_4.out; subst eo38; go_wp2_with (first | (go_at_call 11; (with_reducible refine (laws_eqIntS.calls kj8 _ _ t304 _ _ t297 false _ ?s1 ?s2 ?s3 ?s4 A33.out).mono ?_); (case s1 => exact cr HO_7); (case s2 => exact rq1 HO_7); (case s3 => exact cr HO_4); (case s4 => exact rq1 HO_4); rintro e w' ⟨rfl, ⟨nd, rfl⟩⟩))
     go_meet
     case rel => exact ⟨_, (true), sq, H', ⟨by have := HJ8.out; first | omega | exact Nat.le_refl _⟩, ⟨rq HO_4⟩, ⟨rq HO_7⟩, ⟨bq⟩⟩
    case rest =>
     clear HC28; try clear c3b0
     try clear c18
     try clear c23
     try clear c26
     try clear c32b0
     try clear c34
     obtain ⟨kq, x61_27, rfl, HA, HJ27, HO_4, HO_7, HB⟩ := hcut
     cases kq with
     | zero => exact absurd HA.out (by simp [laws_FnExactSharedKit.j1])
     | succ kj27 =>
      have H := HA.out; clear HA; simp only [laws_FnExactSharedKit.j1] at H; by_cases c39 : x61_27 = true
      ·subst c39; rw [if_pos rfl] at H; try dsimp only at H
       obtain rfl := Option.some.inj H
       go_wp2
       go_ret
       exact ⟨eq_, bq⟩
      replace c39 := Bool.eq_false_iff.mpr c39; subst c39; rw [if_neg (show ¬ (false = true) by decide)] at H; try dsimp only at H
      obtain ⟨⟨t315, t316⟩, A40, H⟩ := bindq H; try dsimp only at H
      obtain ⟨t317, A41, H⟩ := bindq H; try dsimp only at H
      by_cases c42 : t317 < 0
      ·rw [if_pos c42] at H; have c42b0 : decide (t317 < 0) = true := decide_eq_true c42; clear c42; obtain rfl := Option.some.inj H; obtain ⟨Ao43, co43, eo43⟩ := Kd.R_slice HO_7.out; subst eo43; go_wp2_with (first | ((with_reducible refine gate_callee (f := 14) rfl ?_); refine goesQ (some 64) Try.func14 #[.slice Ao43 t304.length co43, .int .i64 1] ?_; (with_reducible refine (laws_markIntS.calls kj27 (fun k_ => some k_ = (.slice Ao43 t304.length co43 : Value).ownBlock) (.slice Ao43 t304.length co43) t304 1 t315 t316 w _ ?s1 ?s2 A40.out).mono ?_); (case s1 => repeat (first | (with_reducible first | exact HB.out | apply below_alloc | apply pw_below_drewN | apply below_drew1) | exact HB.out)); (case s2 => exact Kd.R_tight rfl HO_7.out); rintro e w44 ⟨rfl, hy0, hb, hkp⟩; refine ⟨_, rfl, ?_⟩; replace HO_4 := am (Kd.R_mono (ok' := fun k_ => some k_ ≠ (.slice Ao43 t304.length co43 : Value).ownBlock) (Kd.R_keptB (HO_4.out) hkp (fun k_ hk_ hs_ => (hk_) hs_)) (fun k_ hk_ => hk_.1)); replace HO_7 := am (Kd.R_reok rfl hy0 (fun k_ e_ => HO_7.out.1 k_ e_)); replace HB := am (hb); (try clear hb hkp hy0)) | ((with_reducible refine gate_callee (f := 15) rfl ?_); refine goesL_ (some 67) rfl rfl Try.func15 (by kernel_rfl) rfl #[.slice Ao43 t316.length co43, .int .i64 1] rfl (by (try simp only [List.map_toArray, List.map_cons, List.map_nil]); first | done | (rw [show t316.length = t304.length from (Kd.R_reads' HO_7.out).1.symm] <;> rfl) | rfl | (simp only [List.length_drop, List.length_take]; rfl)) ?_; (with_reducible refine (laws_heldIntS.calls kj27 _ _ t316 1 t317 _ ?s1 ?s2 A41.out).mono ?_); (case s1 => exact cr HO_7); (case s2 => rw [show t316.length = t304.length from (Kd.R_reads' HO_7.out).1.symm]; exact rq1 HO_7); rintro e w' ⟨rfl, ⟨nd, rfl⟩⟩; refine ⟨_, rfl, ?_⟩))
       go_ret
       exact ⟨eq_, bq⟩
      rw [if_neg c42] at H; have c42b0 : decide (t317 < 0) = false := decide_eq_false c42; clear c42; by_cases c45 : t317 = t315
      ·rw [if_pos c45] at H; have c45b0 : (t317 == t315) = true := beq_iff_eq.mpr c45; have c45b1 : (t317 != t315) = false := bne_eq_false_iff_eq.mpr c45; clear c45; obtain ⟨t318, A46, H⟩ := bindq H; try dsimp only at H
       obtain ⟨⟨t321, t322⟩, A47, H⟩ := bindq H; try dsimp only at H
       have HC48 := am H; clear H; obtain ⟨Ao49, co49, eo49⟩ := Kd.R_slice HO_7.out; subst eo49
       go_upto_region 25 with (first | ((with_reducible refine gate_callee (f := 14) rfl ?_); refine goesQ (some 64) Try.func14 #[.slice Ao49 t304.length co49, .int .i64 1] ?_; (with_reducible refine (laws_markIntS.calls kj27 (fun k_ => some k_ = (.slice Ao49 t304.length co49 : Value).ownBlock) (.slice Ao49 t304.length co49) t304 1 t315 t316 w _ ?s1 ?s2 A40.out).mono ?_); (case s1 => repeat (first | (with_reducible first | exact HB.out | apply below_alloc | apply pw_below_drewN | apply below_drew1) | exact HB.out)); (case s2 => exact Kd.R_tight rfl HO_7.out); rintro e w50 ⟨rfl, hy0, hb, hkp⟩; refine ⟨_, rfl, ?_⟩; replace HO_4 := am (Kd.R_mono (ok' := fun k_ => some k_ ≠ (.slice Ao49 t304.length co49 : Value).ownBlock) (Kd.R_keptB (HO_4.out) hkp (fun k_ hk_ hs_ => (hk_) hs_)) (fun k_ hk_ => hk_.1)); replace HO_7 := am (Kd.R_reok rfl hy0 (fun k_ e_ => HO_7.out.1 k_ e_)); replace HB := am (hb); (try clear hb hkp hy0)) | ((with_reducible refine gate_callee (f := 15) rfl ?_); refine goesL_ (some 67) rfl rfl Try.func15 (by kernel_rfl) rfl #[.slice Ao49 t316.length co49, .int .i64 1] rfl (by (try simp only [List.map_toArray, List.map_cons, List.map_nil]); first | done | (rw [show t316.length = t304.length from (Kd.R_reads' HO_7.out).1.symm] <;> rfl) | rfl | (simp only [List.length_drop, List.length_take]; rfl)) ?_; (with_reducible refine (laws_heldIntS.calls kj27 _ _ t316 1 t317 _ ?s1 ?s2 A41.out).mono ?_); (case s1 => exact cr HO_7); (case s2 => rw [show t316.length = t304.length from (Kd.R_reads' HO_7.out).1.symm]; exact rq1 HO_7); rintro e w' ⟨rfl, ⟨nd, rfl⟩⟩; refine ⟨_, rfl, ?_⟩) | ((with_reducible refine gate_callee (f := 9) rfl ?_); refine goesQ (some 75) Try.func9 #[.slice A0 l0.length c0] ?_; (with_reducible refine (laws_toBoardS.calls kj27 _ _ l0 t318 _ ?s1 ?s2 A46.out).mono ?_); (case s1 => exact cq (Kd.C_below HR0.out bq)); (case s2 => exact HC0.out); rintro e w51 ⟨v319, rfl, ho0, hb⟩; refine ⟨_, rfl, ?_⟩; replace HO_4 := rb HO_4 hb; replace HO_7 := rb HO_7 hb; have HO320 := am (Kd.S_lower ho0 (below_size bq)); replace HB := sb hb; (try clear hb ho0); obtain ⟨Ao52, co52, eo52⟩ := Kd.S_slice HO320.out; subst eo52) | ((with_reducible refine gate_callee (f := 17) rfl ?_); refine goesQ (some 76) Try.func17 #[.slice Ao52 t318.length co52] ?_; (with_reducible refine (impl_SharedKit.calls kj27 _ _ t318 t321 t322 _ ?s1 ?s2 A47.out).mono ?_); (case s1 => exact cq (Kd.S_reads' HO320.out).2.2); (case s2 => exact (Kd.S_reads' HO320.out).2.1); rintro e w53 ⟨v323, rfl, ho0, hb⟩; refine ⟨_, rfl, ?_⟩; have HO324 := rl (Kd.R_new' (Kd.R_new' ho0 (lw HO_4)) (lw HO_7)); replace HO_4 := am (Kd.R_elder' (rq HO_4) (Kd.R_base ho0) hb); replace HO_7 := am (Kd.R_elder' (rq HO_7) (Kd.R_base ho0) hb); replace HB := sb hb; (try clear hb ho0)))
       (try simp only [Act.put, List.setIfInBounds_toArray, List.set_cons_zero, List.set_cons_succ])
       go_cut [87] (fun v87 wc => ∃ (kq : Nat) (x87_47 : Bool), v87 = .bool x87_47 ∧ Aside0 (laws_FnExactSharedKit.j2 kq t316 t315 x87_47 = some r) ∧ Aside0 (kq ≤ kj27) ∧ Aside0 (Kd.R (Kd.int .i64) 3 wc w.heap.size (fun _ => True) (.slice Ao49 t304.length co49) t316) ∧ Aside0 (Below w.heap.size w wc))
       case first =>
        have H := HC48.out; clear HC48; obtain ⟨t325, A54, H⟩ := bindq H; try dsimp only at H
        by_cases c55 : t325 = true
        ·subst c55; rw [if_pos rfl] at H; try dsimp only at H
         have H' := am H; clear H; obtain ⟨Ao56, co56, eo56⟩ := Kd.R_slice HO324.out; subst eo56; obtain ⟨Ao57, co57, eo57⟩ := Kd.R_slice HO_4.out; subst eo57; go_wp2_with (first | ((with_reducible refine gate_callee (f := 11) rfl ?_); refine goesQ (some 81) Try.func11 #[.slice Ao56 t321.length co56, .slice Ao57 t297.length co57] ?_; (with_reducible refine (laws_eqIntS.calls kj27 _ _ t321 _ _ t297 true _ ?s1 ?s2 ?s3 ?s4 A54.out).mono ?_); (case s1 => exact cr HO324); (case s2 => exact rq1 HO324); (case s3 => exact cr HO_4); (case s4 => exact rq1 HO_4); rintro e w' ⟨rfl, ⟨nd, rfl⟩⟩; refine ⟨_, rfl, ?_⟩))
         go_meet
         case rel => exact ⟨_, ((t322 != t298)), sq, H', ⟨by have := HJ8.out; have := HJ27.out; first | omega | exact Nat.le_refl _⟩, ⟨rm HO_7⟩, ⟨bq⟩⟩
        replace c55 := Bool.eq_false_iff.mpr c55; subst c55; rw [if_neg (show ¬ (false = true) by decide)] at H; try dsimp only at H
        have H' := am H; clear H; obtain ⟨Ao58, co58, eo58⟩ := Kd.R_slice HO324.out; subst eo58; obtain ⟨Ao59, co59, eo59⟩ := Kd.R_slice HO_4.out; subst eo59; go_wp2_with (first | ((with_reducible refine gate_callee (f := 11) rfl ?_); refine goesQ (some 81) Try.func11 #[.slice Ao58 t321.length co58, .slice Ao59 t297.length co59] ?_; (with_reducible refine (laws_eqIntS.calls kj27 _ _ t321 _ _ t297 false _ ?s1 ?s2 ?s3 ?s4 A54.out).mono ?_); (case s1 => exact cr HO324); (case s2 => exact rq1 HO324); (case s3 => exact cr HO_4); (case s4 => exact rq1 HO_4); rintro e w' ⟨rfl, ⟨nd, rfl⟩⟩; refine ⟨_, rfl, ?_⟩))
        go_meet
        case rel => exact ⟨_, (true), sq, H', ⟨by have := HJ8.out; have := HJ27.out; first | omega | exact Nat.le_refl _⟩, ⟨rm HO_7⟩, ⟨bq⟩⟩
       case rest =>
        clear HC48; try clear c3b0
        try clear c18
        try clear c23
        try clear c26
        try clear c32b0
        try clear c34
        try clear c39
        try clear c42b0
        try clear c45b0
        try clear c45b1
        try clear c55
        obtain ⟨kq, x87_47, rfl, HA, HJ47, HO_7, HB⟩ := hcut; have hl7_47 := (Kd.R_reads' HO_7.out).1; rw [hl7_47] at HO_7; (try simp only [hl7_47])
        cases kq with
        | zero => exact absurd HA.out (by simp [laws_FnExactSharedKit.j2])
        | succ kj47 =>
         have H := HA.out; clear HA; simp only [laws_FnExactSharedKit.j2] at H; by_cases c60 : x87_47 = true
         ·subst c60; rw [if_pos rfl] at H; try dsimp only at H
          obtain rfl := Option.some.inj H
          go_wp2
          go_ret
          exact ⟨eq_, bq⟩
         replace c60 := Bool.eq_false_iff.mpr c60; subst c60; rw [if_neg (show ¬ (false = true) by decide)] at H; try dsimp only at H
         obtain ⟨t326, A61, H⟩ := bindq H; try dsimp only at H
         by_cases c62 : t326 < 0
         ·rw [if_pos c62] at H; have c62b0 : decide (t326 < 0) = true := decide_eq_true c62; clear c62; obtain rfl := Option.some.inj H; go_wp2_with (first | ((with_reducible refine gate_callee (f := 15) rfl ?_); refine goesQ (some 90) Try.func15 #[.slice Ao49 t316.length co49, .int .i64 1] ?_; (with_reducible refine (laws_heldIntS.calls kj47 _ _ t316 1 t326 _ ?s1 ?s2 A61.out).mono ?_); (case s1 => exact cr HO_7); (case s2 => exact rq1 HO_7); rintro e w' ⟨rfl, ⟨nd, rfl⟩⟩; refine ⟨_, rfl, ?_⟩))
          go_ret
          exact ⟨eq_, bq⟩
         rw [if_neg c62] at H; have c62b0 : decide (t326 < 0) = false := decide_eq_false c62; clear c62; by_cases c63 : t326 = t315
         ·rw [if_pos c63] at H; have c63b0 : (t326 == t315) = true := beq_iff_eq.mpr c63; have c63b1 : (t326 != t315) = false := bne_eq_false_iff_eq.mpr c63; clear c63; obtain rfl := Option.some.inj H; go_wp2_with (first | ((with_reducible refine gate_callee (f := 15) rfl ?_); refine goesQ (some 90) Try.func15 #[.slice Ao49 t316.length co49, .int .i64 1] ?_; (with_reducible refine (laws_heldIntS.calls kj47 _ _ t316 1 t326 _ ?s1 ?s2 A61.out).mono ?_); (case s1 => exact cr HO_7); (case s2 => exact rq1 HO_7); rintro e w' ⟨rfl, ⟨nd, rfl⟩⟩; refine ⟨_, rfl, ?_⟩))
          go_ret
          exact ⟨eq_, bq⟩
         rw [if_neg c63] at H; have c63b0 : (t326 == t315) = false := beq_eq_false_iff_ne.mpr c63; have c63b1 : (t326 != t315) = true := bne_iff_ne.mpr c63; obtain rfl := Option.some.inj H; go_wp2_with (first | ((with_reducible refine gate_callee (f := 15) rfl ?_); refine goesQ (some 90) Try.func15 #[.slice Ao49 t316.length co49, .int .i64 1] ?_; (with_reducible refine (laws_heldIntS.calls kj47 _ _ t316 1 t326 _ ?s1 ?s2 A61.out).mono ?_); (case s1 => exact cr HO_7); (case s2 => exact rq1 HO_7); rintro e w' ⟨rfl, ⟨nd, rfl⟩⟩; refine ⟨_, rfl, ?_⟩))
         go_ret
         exact ⟨eq_, bq⟩
      rw [if_neg c45] at H; have c45b0 : (t317 == t315) = false := beq_eq_false_iff_ne.mpr c45; have c45b1 : (t317 != t315) = true := bne_iff_ne.mpr c45; obtain rfl := Option.some.inj H; obtain ⟨Ao64, co64, eo64⟩ := Kd.R_slice HO_7.out; subst eo64; go_wp2_with (first | ((with_reducible refine gate_callee (f := 14) rfl ?_); refine goesQ (some 64) Try.func14 #[.slice Ao64 t304.length co64, .int .i64 1] ?_; (with_reducible refine (laws_markIntS.calls kj27 (fun k_ => some k_ = (.slice Ao64 t304.length co64 : Value).ownBlock) (.slice Ao64 t304.length co64) t304 1 t315 t316 w _ ?s1 ?s2 A40.out).mono ?_); (case s1 => repeat (first | (with_reducible first | exact HB.out | apply below_alloc | apply pw_below_drewN | apply below_drew1) | exact HB.out)); (case s2 => exact Kd.R_tight rfl HO_7.out); rintro e w65 ⟨rfl, hy0, hb, hkp⟩; refine ⟨_, rfl, ?_⟩; replace HO_7 := am (Kd.R_reok rfl hy0 (fun k_ e_ => HO_7.out.1 k_ e_)); replace HB := am (hb); (try clear hb hkp hy0)) | ((with_reducible refine gate_callee (f := 15) rfl ?_); refine goesL_ (some 67) rfl rfl Try.func15 (by kernel_rfl) rfl #[.slice Ao64 t316.length co64, .int .i64 1] rfl (by (try simp only [List.map_toArray, List.map_cons, List.map_nil]); first | done | (rw [show t316.length = t304.length from (Kd.R_reads' HO_7.out).1.symm] <;> rfl) | rfl | (simp only [List.length_drop, List.length_take]; rfl)) ?_; (with_reducible refine (laws_heldIntS.calls kj27 _ _ t316 1 t317 _ ?s1 ?s2 A41.out).mono ?_); (case s1 => exact cr HO_7); (case s2 => rw [show t316.length = t304.length from (Kd.R_reads' HO_7.out).1.symm]; exact rq1 HO_7); rintro e w' ⟨rfl, ⟨nd, rfl⟩⟩; refine ⟨_, rfl, ?_⟩))
      go_ret
      exact ⟨eq_, bq⟩
   replace c26 := Bool.eq_false_iff.mpr c26; subst c26; rw [if_neg (show ¬ (false = true) by decide)] at H; try dsimp only at H
   obtain rfl := Option.some.inj H; go_wp2_with (first | ((with_reducible refine gate_callee (f := 9) rfl ?_); refine goesQ (some 43) Try.func9 #[.slice A0 l0.length c0] ?_; (with_reducible refine (laws_toBoardS.calls kj8 _ _ l0 t309 _ ?s1 ?s2 A24.out).mono ?_); (case s1 => exact cq (Kd.C_below HR0.out HB.out)); (case s2 => exact HC0.out); rintro e w66 ⟨v310, rfl, ho0, hb⟩; refine ⟨_, rfl, ?_⟩; have HO311 := am (Kd.S_lower (Kd.S_new' ho0 (Kd.S_lt (by (with_reducible repeat (first | apply Kd.S_alloc | apply Kd.S_drewN | apply Kd.S_drew)); exact HO_6.out))) (below_size bq)); replace HO_6 := am (Kd.S_elder' (by (with_reducible repeat (first | apply Kd.S_alloc | apply Kd.S_drewN | apply Kd.S_drew)); exact HO_6.out) (Kd.S_base ho0) hb); replace HB := sb hb; (try clear hb ho0); obtain ⟨Ao67, co67, eo67⟩ := Kd.S_slice HO311.out; subst eo67) | ((with_reducible refine gate_callee (f := 12) rfl ?_); refine goesQ (some 44) Try.func12 #[.slice Ao15 t301.length co15, .slice Ao67 t309.length co67] ?_; (with_reducible refine (laws_eqBoardS.calls kj8 _ _ t301 _ _ t309 false _ ?s1 ?s2 ?s3 ?s4 A25.out).mono ?_); (case s1 => exact cq (Kd.S_reads' HO_6.out).2.2); (case s2 => exact (Kd.S_reads' HO_6.out).2.1); (case s3 => exact cq (Kd.S_reads' HO311.out).2.2); (case s4 => exact (Kd.S_reads' HO311.out).2.1); rintro e w68 ⟨rfl, hb⟩; refine ⟨_, rfl, ?_⟩; replace HB := sb hb; (try clear hb)))
   go_ret
   exact ⟨eq_, bq⟩



end Go.Proofs.Ytmokdglmbjofeaa.Pall
