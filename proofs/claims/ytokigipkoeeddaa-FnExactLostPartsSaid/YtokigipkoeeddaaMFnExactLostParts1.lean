-- written by the kit's print program, put together by a program
import Derived.Test.YtokigipkoeeddaaMFnExactLostParts0
namespace Go.Proofs.Ytokigipkoeeddaa.Pall
open Go.RowKit Go.Proofs.YtokigipkoeeddaaW.PrintWords Go.Proofs.YtokigipkoeeddaaW.PrintLast Go.Proofs.YtokigipkoeeddaaW.PrintMore
attribute [local go_sem] max2_int min2_int max_two min_two max_three min_three max_four min_four   -- for this text's walks alone
set_option linter.unusedVariables false
set_option linter.unusedSimpArgs false
/-! ### impl_LostParts: function 10 -/
def impl_LostParts.f (k : Nat) (l0_0 : List Int) (l0_1 : List (S41)) (a1 : Int) : Option (List Int × (List (S41)) × Bool) := (impl_IsShop.f k l0_0 l0_1).bind fun t221 => (if t221 = true then (if a1 < 0 then (some (([] : List Int), ([] : List (S41)), false)) else (if a1 ≥ (l0_1.length : Int) then (some (([] : List Int), ([] : List (S41)), false)) else ((impl_copyShop.f l0_0 l0_1).bind fun bt222 => (if 0 ≤ a1 then (if a1 ≤ (bt222.2.length : Int) then (if 0 ≤ (wrap64 (a1 + 1)) then (if (wrap64 (a1 + 1)) ≤ (bt222.2.length : Int) then (some (bt222.1, (bt222.2.eraseIdx (a1 : Int).toNat), true)) else (none)) else (none)) else (none)) else (none))))) else (some (([] : List Int), ([] : List (S41)), false)))
theorem impl_LostParts.mono : ∀ a0 a1 a2 k, LeO (impl_LostParts.f k a0 a1 a2) (impl_LostParts.f (k + 1) a0 a1 a2) := by
 intro a0 a1 a2 k
 unfold impl_LostParts.f
 repeat' first
   | (with_reducible exact impl_IsShop.mono _ _ _)
   | (with_reducible exact LeO.refl _)
   | (with_reducible exact LeO.none _)
   | (with_reducible refine LeO.ite ?_ ?_)
   | (with_reducible refine LeO.bind ?_ (fun _ => ?_))
   | exact impl_IsShop.mono _ _ _
   | exact LeO.none _
   | refine LeO.ite ?_ ?_
   | refine LeO.bind ?_ (fun _ => ?_)
def impl_LostParts.T4 : Bool × List (List Nat × List Nat) := (true, [([], []), ([0], [0]), ([], []), ([1, 2], [1, 2]), ([], []), ([4], [4]), ([], []), ([6], [6]), ([5, 7], [5, 7]), ([3, 8], [3, 8]), ([0, 1, 2, 3, 4, 5, 6, 7, 8, 9], []), ([10, 9, 9, 0, 1, 2, 3, 4, 5, 6, 7, 8, 9], [9, 10])])
def impl_LostParts.B4 : List Nat := [0, 1, 0, 7, 0, 16, 0, 64, 240, 511, 1023, 2047]
theorem impl_LostParts.tab4 : rtab .any (opsOf Try.f10 4) = impl_LostParts.T4 := by kernel_rfl
theorem impl_LostParts.bits4 : waitsOk impl_LostParts.T4.2 impl_LostParts.B4 = true := by kernel_rfl
set_option maxHeartbeats 8000000 in
set_option maxRecDepth 100000 in
theorem impl_LostParts.calls (k : Nat) (A0_0 : Option Addr) (c0_0 : Nat) (l0_0 : List Int) (A0_1 : Option Addr) (c0_1 : Nat) (l0_1 : List (S41)) (a1 : Int) (r1 : List Int) (r2 : List (S41)) (r3 : Bool) (w : World) (hr0_0 : Kd.C (Kd.int .i64) w A0_0 l0_0.length l0_0) (hc0_0 : l0_0.length ≤ c0_0) (hr0_1 : Kd.C k41 w A0_1 l0_1.length l0_1) (hc0_1 : l0_1.length ≤ c0_1) (h : impl_LostParts.f k l0_0 l0_1 a1 = some (r1, r2, r3)) :
  Calls Try.prog 10 #[.agg #[.slice A0_0 l0_0.length c0_0, .slice A0_1 l0_1.length c0_1], .int .i64 a1] w fun e w' => ∃ v0_ v1_ : Value, e = .returned (.tuple #[.agg #[v0_, v1_], .bool r3]) ∧ Kd.R (Kd.int .i64) 3 w' w.heap.size (fun _ => True) v0_ r1 ∧ Kd.R k41 41 w' w.heap.size (fun _ => True) v1_ r2 ∧ Below w.heap.size w w' := by
 have hu29 := Try.underlying29
 have HR0_0 := am hr0_0
 have HC0_0 := am hc0_0
 clear hr0_0 hc0_0
 have HR0_1 := am hr0_1
 have HC0_1 := am hc0_1
 clear hr0_1 hc0_1
 have HB := am (Below.refl w.heap.size w)
 have H : ((impl_IsShop.f k l0_0 l0_1).bind fun t221 => (if t221 = true then (if a1 < 0 then (some (([] : List Int), ([] : List (S41)), false)) else (if a1 ≥ (l0_1.length : Int) then (some (([] : List Int), ([] : List (S41)), false)) else ((impl_copyShop.f l0_0 l0_1).bind fun bt222 => (if 0 ≤ a1 then (if a1 ≤ (bt222.2.length : Int) then (if 0 ≤ (wrap64 (a1 + 1)) then (if (wrap64 (a1 + 1)) ≤ (bt222.2.length : Int) then (some (bt222.1, (bt222.2.eraseIdx (a1 : Int).toNat), true)) else (none)) else (none)) else (none)) else (none))))) else (some (([] : List Int), ([] : List (S41)), false)))) = some (r1, r2, r3) := h
 clear h
 obtain ⟨t221, A3, H⟩ := bindq H
 try dsimp only at H
 by_cases c4 : t221 = true
 ·subst c4
  rw [if_pos rfl] at H
  try dsimp only at H
  by_cases c5 : a1 < 0
  ·rw [if_pos c5] at H
   have c5b0 : decide (a1 < 0) = true := decide_eq_true c5
   clear c5
   simp only [Option.some.injEq, Prod.mk.injEq] at H
   obtain ⟨rfl, rfl, rfl⟩ := H
   go_enter Try.func10, Try.ntmps10
   go_wp2_with (first | ((with_reducible refine gate_dst (N := 2) rfl ?_); (try (refine gate_guard (by rfl) ?_; dsimp only)); refine box_event ?hg (N := 2) ?hd (cs := #[.slice A0_0 l0_0.length c0_0, .slice A0_1 l0_1.length c0_1]) (t := 29) ?hr ?_; (case hd => rfl); (case hg => rfl); (case hr => first | (go_simp; done) | (go_simp; rfl)); intro gb219 hg w6 hbox hb; have BK219 := am (hbox); have GW219 := am (gq hg); have GE219 := am (gq hg); replace HB := sb hb; clear hb hbox hg) | ((with_reducible refine gate_dst (N := 4) rfl ?_); (try (refine gate_guard (by rfl) ?_; dsimp only)); refine box_event ?hg (N := 4) ?hd (cs := #[.slice none 0 0, .slice none 0 0]) (t := 29) ?hr ?_; (case hd => rfl); (case hg => rfl); (case hr => first | (go_simp; done) | (go_simp; rfl)); intro gb220 hg w7 hbox hb; have BK220 := am (hbox); have GW220 := am (gq hg); have GE220 := am (gq hg); replace HB := sb hb; have NB219_220 := nl hg BK219; have NB220_219 := ng hg BK219; replace BK219 := zb BK219 hb; clear hb hbox hg; have hnb8 := NB219_220.out; have hnc8 := NB220_219.out; have ⟨hcz9_0, hcz9_1, hfz9_0, hfz9_1⟩ := bc2 BK219) | ((with_reducible refine gate_callee (f := 27) rfl ?_); refine goesQ (some 8) Try.func27 #[.agg #[.slice A0_0 l0_0.length c0_0, .slice A0_1 l0_1.length c0_1]] ?_; (with_reducible refine (impl_IsShop.calls k _ _ l0_0 _ _ l0_1 true _ ?s1 ?s2 ?s3 ?s4 A3.out).mono ?_); (case s1 => exact cq (Kd.C_below HR0_0.out HB.out)); (case s2 => exact HC0_0.out); (case s3 => exact cq (Kd.C_below HR0_1.out HB.out)); (case s4 => exact HC0_1.out); rintro e w10 ⟨rfl, hb⟩; refine ⟨_, rfl, ?_⟩; replace BK219 := zb BK219 hb; replace BK220 := zb BK220 hb; replace HB := sb hb; (try clear hb); have ⟨hcz11_0, hcz11_1, hfz11_0, hfz11_1⟩ := bc2 BK220))
   refine bodyPost_ret (results_ct rfl _ _ gb220 29 #[.slice none 0 0, .slice none 0 0] (0, 0) _ rfl (zp BK220) Try.underlying29 rfl (by kernel_rfl)) rfl ?_
   exact ⟨_, _, eq_, by first | exact Kd.R_nil _ _ _ _ _ | exact Kd.N_nil _ _ _ _ _ | exact Kd.V_nil _ _ _ _ _ | exact Kd.Q_nil _ _ _ _ _ | exact Kd.S_nil _ _ _ _ _, by first | exact Kd.R_nil _ _ _ _ _ | exact Kd.N_nil _ _ _ _ _ | exact Kd.V_nil _ _ _ _ _ | exact Kd.Q_nil _ _ _ _ _ | exact Kd.S_nil _ _ _ _ _, bq⟩
  ·rw [if_neg c5] at H
   have c5b0 : decide (a1 < 0) = false := decide_eq_false c5
   clear c5
   by_cases c12 : a1 ≥ (l0_1.length : Int)
   ·rw [if_pos c12] at H
    have c12b0 : decide ((l0_1.length : Int) ≤ a1) = true := decide_eq_true c12
    clear c12
    simp only [Option.some.injEq, Prod.mk.injEq] at H
    obtain ⟨rfl, rfl, rfl⟩ := H
    go_enter Try.func10, Try.ntmps10
    go_wp2_with (first | ((with_reducible refine gate_dst (N := 2) rfl ?_); (try (refine gate_guard (by rfl) ?_; dsimp only)); refine box_event ?hg (N := 2) ?hd (cs := #[.slice A0_0 l0_0.length c0_0, .slice A0_1 l0_1.length c0_1]) (t := 29) ?hr ?_; (case hd => rfl); (case hg => rfl); (case hr => first | (go_simp; done) | (go_simp; rfl)); intro gb219 hg w13 hbox hb; have BK219 := am (hbox); have GW219 := am (gq hg); have GE219 := am (gq hg); replace HB := sb hb; clear hb hbox hg) | ((with_reducible refine gate_dst (N := 4) rfl ?_); (try (refine gate_guard (by rfl) ?_; dsimp only)); refine box_event ?hg (N := 4) ?hd (cs := #[.slice none 0 0, .slice none 0 0]) (t := 29) ?hr ?_; (case hd => rfl); (case hg => rfl); (case hr => first | (go_simp; done) | (go_simp; rfl)); intro gb220 hg w14 hbox hb; have BK220 := am (hbox); have GW220 := am (gq hg); have GE220 := am (gq hg); replace HB := sb hb; have NB219_220 := nl hg BK219; have NB220_219 := ng hg BK219; replace BK219 := zb BK219 hb; clear hb hbox hg; have hnb15 := NB219_220.out; have hnc15 := NB220_219.out; have ⟨hcz16_0, hcz16_1, hfz16_0, hfz16_1⟩ := bc2 BK219) | ((with_reducible refine gate_callee (f := 27) rfl ?_); refine goesQ (some 8) Try.func27 #[.agg #[.slice A0_0 l0_0.length c0_0, .slice A0_1 l0_1.length c0_1]] ?_; (with_reducible refine (impl_IsShop.calls k _ _ l0_0 _ _ l0_1 true _ ?s1 ?s2 ?s3 ?s4 A3.out).mono ?_); (case s1 => exact cq (Kd.C_below HR0_0.out HB.out)); (case s2 => exact HC0_0.out); (case s3 => exact cq (Kd.C_below HR0_1.out HB.out)); (case s4 => exact HC0_1.out); rintro e w17 ⟨rfl, hb⟩; refine ⟨_, rfl, ?_⟩; replace BK219 := zb BK219 hb; replace BK220 := zb BK220 hb; replace HB := sb hb; (try clear hb); have ⟨hcz18_0, hcz18_1, hfz18_0, hfz18_1⟩ := bc2 BK219; have ⟨hcz19_0, hcz19_1, hfz19_0, hfz19_1⟩ := bc2 BK220))
    refine bodyPost_ret (results_ct rfl _ _ gb220 29 #[.slice none 0 0, .slice none 0 0] (0, 0) _ rfl (zp BK220) Try.underlying29 rfl (by kernel_rfl)) rfl ?_
    exact ⟨_, _, eq_, by first | exact Kd.R_nil _ _ _ _ _ | exact Kd.N_nil _ _ _ _ _ | exact Kd.V_nil _ _ _ _ _ | exact Kd.Q_nil _ _ _ _ _ | exact Kd.S_nil _ _ _ _ _, by first | exact Kd.R_nil _ _ _ _ _ | exact Kd.N_nil _ _ _ _ _ | exact Kd.V_nil _ _ _ _ _ | exact Kd.Q_nil _ _ _ _ _ | exact Kd.S_nil _ _ _ _ _, bq⟩
   ·rw [if_neg c12] at H
    have c12b0 : decide ((l0_1.length : Int) ≤ a1) = false := decide_eq_false c12
    clear c12
    obtain ⟨⟨t222, t225⟩, A20, H⟩ := bindq H
    try dsimp only at H
    by_cases c21 : 0 ≤ a1
    ·rw [if_pos c21] at H
     have c21b0 := eq_true c21
     have c21b1 : decide (0 ≤ a1) = true := decide_eq_true c21
     clear c21
     by_cases c22 : a1 ≤ (t225.length : Int)
     ·rw [if_pos c22] at H
      have c22b0 := eq_true c22
      have c22b1 : decide (a1 ≤ (t225.length : Int)) = true := decide_eq_true c22
      clear c22
      obtain ⟨y229, hy229⟩ : ∃ y_ : List (S41), y_ = (t225.take (a1 : Int).toNat) := ⟨_, rfl⟩
      replace H : (if 0 ≤ (wrap64 (a1 + 1)) then (if (wrap64 (a1 + 1)) ≤ (t225.length : Int) then (some (t222, (t225.eraseIdx (a1 : Int).toNat), true)) else (none)) else (none)) = some (r1, r2, r3) := by first | (rw [hy229]; with_reducible exact H) | (have H2_ := (Option.bind_some _ _).symm.trans H; rw [hy229]; with_reducible exact H2_) | (have H2_ := (Option.bind_some _ _).symm.trans H; with_reducible exact H2_) | with_reducible exact H | (rw [hy229]; exact H) | exact H
      have Ny229 := am hy229
      clear hy229
      obtain ⟨ji23, hji23⟩ : ∃ j_ : Int, (wrap64 (a1 + 1)) = j_ := ⟨_, rfl⟩
      replace H : (if 0 ≤ (ji23) then (if (ji23) ≤ (t225.length : Int) then (some (t222, (t225.eraseIdx (a1 : Int).toNat), true)) else (none)) else (none)) = some (r1, r2, r3) := by first | (rw [hji23] at H; exact H) | (simp only [hji23] at H ⊢; exact H)
      (try rw [hji23] at A3)
      (try rw [hji23] at A20)
      have hji23w : (IntKind.i64.wrap (a1 + 1)) = ji23 := (i64_w _).trans hji23
      by_cases c24 : 0 ≤ (ji23)
      ·rw [if_pos c24] at H
       have c24b0 := eq_true c24
       have c24b1 : decide (0 ≤ (ji23)) = true := decide_eq_true c24
       clear c24
       by_cases c25 : (ji23) ≤ (t225.length : Int)
       ·rw [if_pos c25] at H
        have c25b0 := eq_true c25
        have c25b1 : decide ((ji23) ≤ (t225.length : Int)) = true := decide_eq_true c25
        clear c25
        obtain ⟨y233, hy233⟩ : ∃ y_ : List (S41), y_ = (t225.drop ((ji23) : Int).toNat) := ⟨_, rfl⟩
        replace H : (some (t222, (t225.eraseIdx (a1 : Int).toNat), true)) = some (r1, r2, r3) := by first | (rw [hy233]; with_reducible exact H) | (have H2_ := (Option.bind_some _ _).symm.trans H; rw [hy233]; with_reducible exact H2_) | (have H2_ := (Option.bind_some _ _).symm.trans H; with_reducible exact H2_) | with_reducible exact H | (rw [hy233]; exact H) | exact H
        have Ny233 := am hy233
        clear hy233
        obtain ⟨y237, hy237⟩ : ∃ y_ : List (S41), y_ = (t225.eraseIdx (a1 : Int).toNat) := ⟨_, rfl⟩
        replace H : (some (t222, y237, true)) = some (r1, r2, r3) := by first | (rw [hy237]; with_reducible exact H) | (have H2_ := (Option.bind_some _ _).symm.trans H; rw [hy237]; with_reducible exact H2_) | (have H2_ := (Option.bind_some _ _).symm.trans H; with_reducible exact H2_) | with_reducible exact H | (rw [hy237]; exact H) | exact H
        have Ny237 := am hy237
        clear hy237
        simp only [Option.some.injEq, Prod.mk.injEq] at H
        obtain ⟨rfl, rfl, rfl⟩ := H
        go_enter Try.func10, Try.ntmps10
        try go_wp2_with (first | ((with_reducible refine gate_dst (N := 2) rfl ?_); (try (refine gate_guard (by rfl) ?_; dsimp only)); refine box_event ?hg (N := 2) ?hd (cs := #[.slice A0_0 l0_0.length c0_0, .slice A0_1 l0_1.length c0_1]) (t := 29) ?hr ?_; (case hd => rfl); (case hg => rfl); (case hr => first | (go_simp; done) | (go_simp; rfl)); intro gb219 hg w26 hbox hb; have BK219 := am (hbox); have GW219 := am (gq hg); have GE219 := am (gq hg); replace HB := sb hb; clear hb hbox hg) | ((with_reducible refine gate_dst (N := 4) rfl ?_); (try (refine gate_guard (by rfl) ?_; dsimp only)); refine box_event ?hg (N := 4) ?hd (cs := #[.slice none 0 0, .slice none 0 0]) (t := 29) ?hr ?_; (case hd => rfl); (case hg => rfl); (case hr => first | (go_simp; done) | (go_simp; rfl)); intro gb220 hg w27 hbox hb; have BK220 := am (hbox); have GW220 := am (gq hg); have GE220 := am (gq hg); replace HB := sb hb; have NB219_220 := nl hg BK219; have NB220_219 := ng hg BK219; replace BK219 := zb BK219 hb; clear hb hbox hg; have hnb28 := NB219_220.out; have hnc28 := NB220_219.out; have ⟨hcz29_0, hcz29_1, hfz29_0, hfz29_1⟩ := bc2 BK219) | ((with_reducible refine gate_callee (f := 27) rfl ?_); refine goesQ (some 8) Try.func27 #[.agg #[.slice A0_0 l0_0.length c0_0, .slice A0_1 l0_1.length c0_1]] ?_; (with_reducible refine (impl_IsShop.calls k _ _ l0_0 _ _ l0_1 true _ ?s1 ?s2 ?s3 ?s4 A3.out).mono ?_); (case s1 => exact cq (Kd.C_below HR0_0.out HB.out)); (case s2 => exact HC0_0.out); (case s3 => exact cq (Kd.C_below HR0_1.out HB.out)); (case s4 => exact HC0_1.out); rintro e w30 ⟨rfl, hb⟩; refine ⟨_, rfl, ?_⟩; replace BK219 := zb BK219 hb; replace BK220 := zb BK220 hb; replace HB := sb hb; (try clear hb); have ⟨hcz31_0, hcz31_1, hfz31_0, hfz31_1⟩ := bc2 BK219) | ((with_reducible refine gate_callee (f := 28) rfl ?_); refine goesQ (some 23) Try.func28 #[.agg #[.slice A0_0 l0_0.length c0_0, .slice A0_1 l0_1.length c0_1]] ?_; (with_reducible refine (impl_copyShop.calls _ _ l0_0 _ _ l0_1 t222 t225 _ ?s1 ?s2 ?s3 ?s4 A20.out).mono ?_); (case s1 => exact cq (Kd.C_below HR0_0.out HB.out)); (case s2 => exact HC0_0.out); (case s3 => exact cq (Kd.C_below HR0_1.out HB.out)); (case s4 => exact HC0_1.out); rintro e w32 ⟨v223, v226, rfl, ho0, ho1, hb⟩; refine ⟨_, rfl, ?_⟩; have HO224 := rl ho0; have HO227 := rl ho1; replace BK219 := zb BK219 hb; replace BK220 := zb BK220 hb; replace HB := sb hb; (try clear hb ho0 ho1)) | ((with_reducible refine gate_dst (N := 6) rfl ?_); (try (refine gate_guard (by rfl) ?_; dsimp only)); refine box_event ?hg (N := 6) ?hd (cs := #[.slice none 0 0, .slice none 0 0]) (t := 29) ?hr ?_; (case hd => rfl); (case hg => rfl); (case hr => first | (go_simp; done) | (go_simp; rfl)); intro gb228 hg w33 hbox hb; replace HO224 := rb HO224 hb; replace HO227 := rb HO227 hb; have BK228 := am (hbox); have GW228 := am (gq hg); have GE228 := am (gq hg); replace HB := sb hb; have NB219_228 := nl hg BK219; have NB228_219 := ng hg BK219; replace BK219 := zb BK219 hb; have NB220_228 := nl hg BK220; have NB228_220 := ng hg BK220; replace BK220 := zb BK220 hb; clear hb hbox hg; obtain ⟨Ao34, co34, eo34⟩ := Kd.R_slice HO224.out; subst eo34; have hnb35 := NB228_219.out; have hnc35 := NB219_228.out; have hnb36 := NB228_220.out; have hnc36 := NB220_228.out; have ⟨hcz37_0, hcz37_1, hfz37_0, hfz37_1⟩ := bc2 BK228; obtain ⟨Ao38, co38, eo38⟩ := Kd.R_slice HO227.out; subst eo38))
        have n0_ : Aside0 (Kd.R (Kd.int .i64) 3 ((w33.setCell ⟨gb228, 0, none⟩ (.slice Ao34 t222.length co34)).setCell ⟨gb228, 1, none⟩ (.slice Ao38 t225.length co38)) w.heap.size (fun _ => True) (.slice Ao34 t222.length co34) t222) := ⟨Kd.R_mono (ff HO224 BK228) (fun _ hk => trivial)⟩
        have n1_ : Aside0 (Kd.R k41 41 ((w33.setCell ⟨gb228, 0, none⟩ (.slice Ao34 t222.length co34)).setCell ⟨gb228, 1, none⟩ (.slice Ao38 t225.length co38)) w.heap.size (fun _ => True) (.slice Ao38 t225.length co38) t225) := ⟨Kd.R_mono (ff HO227 BK228) (fun _ hk => trivial)⟩
        have n2_ : Aside0 (((w33.setCell ⟨gb228, 0, none⟩ (.slice Ao34 t222.length co34)).setCell ⟨gb228, 1, none⟩ (.slice Ao38 t225.length co38)).heap[gb219]? = some (.cells #[.slice A0_0 l0_0.length c0_0, .slice A0_1 l0_1.length c0_1] 29 (0, 0))) := ⟨zp BK219⟩
        have n3_ : Aside0 (((w33.setCell ⟨gb228, 0, none⟩ (.slice Ao34 t222.length co34)).setCell ⟨gb228, 1, none⟩ (.slice Ao38 t225.length co38)).heap[gb220]? = some (.cells #[.slice none 0 0, .slice none 0 0] 29 (0, 0))) := ⟨zp BK220⟩
        have n4_ : Aside0 (((w33.setCell ⟨gb228, 0, none⟩ (.slice Ao34 t222.length co34)).setCell ⟨gb228, 1, none⟩ (.slice Ao38 t225.length co38)).heap[gb228]? = some (.cells #[.slice Ao34 t222.length co34, .slice Ao38 t225.length co38] 29 (0, 0))) := ⟨zp BK228⟩
        have n5_ : Aside0 (Below w.heap.size w ((w33.setCell ⟨gb228, 0, none⟩ (.slice Ao34 t222.length co34)).setCell ⟨gb228, 1, none⟩ (.slice Ao38 t225.length co38))) := ⟨bq⟩
        (try clear HO224)
        (try clear HO227)
        (try clear BK219)
        (try clear BK220)
        (try clear BK228)
        (try clear HB)
        generalize ((w33.setCell ⟨gb228, 0, none⟩ (.slice Ao34 t222.length co34)).setCell ⟨gb228, 1, none⟩ (.slice Ao38 t225.length co38)) = w39 at n0_ n1_ n2_ n3_ n4_ n5_ ⊢
        have HO224 := n0_
        have HO227 := n1_
        have BK219 := n2_
        have BK220 := n3_
        have BK228 := n4_
        have HB := n5_
        clear n0_ n1_ n2_ n3_ n4_ n5_
        replace HO224 := am (Kd.R_drew HO224.out)
        replace HO227 := am (Kd.R_drew HO227.out)
        replace BK219 := am (blk_drew BK219.out)
        replace BK220 := am (blk_drew BK220.out)
        replace BK228 := am (blk_drew BK228.out)
        replace HB := am (below_drew1 HB.out)
        have q41 : (a1 : Int) ≤ ((t225.length : Int) : Int) := of_decide_eq_true aq
        obtain ⟨i041, hi041, _, hsz41, _⟩ := info_parts info41
        have hroom41 : t225.length ≤ co38 := (Kd.R_reads' HO227.out).2.1
        have hC41 : Kd.C k41 _ Ao38 t225.length t225 := (Kd.R_reads' HO227.out).2.2
        have hcut41 := cut_to (P := Try.prog) 27 41 .i64 Try.underlying27 hi041 Ao38 t225.length co38 a1 (of_decide_eq_true aq) q41 hroom41
        have hr41 := Kd.C_take (m := (a1 : Int).toNat) hC41 (by omega)
        have hy41 : y229.length = (a1 : Int).toNat := (by rw [Ny229.out, List.length_take]; omega)
        rw [← Ny229.out] at hr41
        rw [← hy41] at hcut41
        have HR232 := am hr41
        have HC232 := am (show y229.length ≤ co38 from by omega)
        clear hr41 hC41 hroom41 hi041 hsz41
        have KY41 := am hy41
        clear hy41
        have KL41 := am (show (a1 : Int).toNat ≤ t225.length from by omega)
        replace q41 := eq_true q41
        have q42 : ((ji23) : Int) ≤ ((t225.length : Int) : Int) := of_decide_eq_true aq
        obtain ⟨i042, hi042, _, hsz42, _⟩ := info_parts info41
        have hroom42 : t225.length ≤ co38 := (Kd.R_reads' HO227.out).2.1
        have hC42 : Kd.C k41 _ Ao38 t225.length t225 := (Kd.R_reads' HO227.out).2.2
        have q042 : (0 : Int) ≤ ((ji23) : Int) := of_decide_eq_true aq
        have hcut42 := cut_from (P := Try.prog) 27 41 .i64 Try.underlying27 hi042 4 hsz42 Ao38 t225.length co38 (ji23) q042 q42
        have hr42 := Kd.C_drop (m := ((ji23) : Int).toNat) (c := co38) hC42 (by omega) hroom42
        obtain ⟨A42, hA42⟩ : ∃ A1, A1 = (if co38 = ((ji23) : Int).toNat then Ao38 else (Ao38 : Option Addr).map (·.add (((ji23) : Int).toNat * 4))) := ⟨_, rfl⟩
        obtain ⟨c42, hc42⟩ : ∃ c1, c1 = co38 - ((ji23) : Int).toNat := ⟨_, rfl⟩
        have hy42 : y233.length = t225.length - ((ji23) : Int).toNat := (by rw [Ny233.out, List.length_drop] <;> omega)
        rw [show (t225).drop ((ji23) : Int).toNat = y233 from Ny233.out.symm] at hr42
        replace hr42 : Kd.C k41 _ A42 y233.length y233 := (by rw [hA42]; exact hr42)
        rw [← hy42, ← hA42, ← hc42] at hcut42
        have HR236 := am hr42
        have HC236 := am (show y233.length ≤ c42 from by rw [hy42, hc42]; exact Nat.sub_le_sub_right hroom42 _)
        clear hr42 hC42 hroom42 hi042 hsz42 hc42
        have KY42 := am hy42
        have KA42 := am hA42
        clear hy42 hA42
        have KL42 := am (show ((ji23) : Int).toNat ≤ t225.length from by omega)
        replace q42 := eq_true q42
        obtain ⟨go44, co44, eo44, gb44, gl44, cl44, HG44⟩ := Kd.R_form HO227.out (by have hj_ : 0 ≤ (a1 : Int) := of_decide_eq_true aq; have hl_ : (ji23 : Int) ≤ (t225.length : Int) := of_decide_eq_true aq; have hh_ : (a1 : Int) ≤ (t225.length : Int) := of_decide_eq_true aq; rw [← hji23] at hl_; unfold wrap64 at hl_; omega)
        (first | cases eo44 | (injection eo44 with ea_ en_ ec_; (first | subst ea_ | (injection ea_ with ea_; subst ea_)); subst ec_; clear en_))
        have GB44 := am gb44
        have GG44 := am HG44
        clear gb44 gl44 HG44
        refine start_ (n := 12) (S := fun w' => w'.cell? ⟨gb228, 0, none⟩ = some (.slice Ao34 t222.length co34) ∧ w'.cell? ⟨gb228, 1, none⟩ = some (.slice (some ⟨go44, 0, none⟩) t225.length co38)) (ds := [11]) #[false, false, false, false, false, false, false, false, false, false, false, false] (by kernel_rfl) rfl rfl cl (fun hHeld => ?_); refine with_tabW impl_LostParts.tab4 impl_LostParts.bits4 (fun HT_ HW_ => ?_)
        generalize w39.drew = w40 at HO224 HO227 BK219 BK220 BK228 HB GG44 HR232 HR236 hHeld ⊢
        refine pure_ (i := 0) (N := some 24) (v := ?_) (a' := ?_) #[true, false, false, false, false, false, false, false, false, false, false, false] rfl rfl (any_of HT_.out (by kernel_rfl)) (fun _ _ _ h => h) (Or.inl ⟨by rfl, ?_⟩) ?_ ?_
        rotate_left
        ·intro w'
         go_simp
         with_reducible rfl
        rotate_left
        ·simp only [Act.put, List.setIfInBounds_toArray, List.set_cons_zero, List.set_cons_succ, i64_w, i32_w]
         rfl
        refine pure_ (i := 2) (N := some 26) (v := ?_) (a' := ?_) #[true, false, true, false, false, false, false, false, false, false, false, false] rfl rfl (any_of HT_.out (by kernel_rfl)) (fun _ _ _ h => h) (Or.inl ⟨by rfl, ?_⟩) ?_ ?_
        rotate_left
        ·intro w'
         go_simp
         with_reducible rfl
        rotate_left
        ·simp only [Act.put, List.setIfInBounds_toArray, List.set_cons_zero, List.set_cons_succ, i64_w, i32_w]
         rfl
        refine pure_ (i := 4) (N := some 28) (v := ?_) (a' := ?_) #[true, false, true, false, true, false, false, false, false, false, false, false] rfl rfl (any_of HT_.out (by kernel_rfl)) (fun _ _ _ h => h) (Or.inl ⟨by rfl, ?_⟩) ?_ ?_
        rotate_left
        ·intro w'
         go_simp
         with_reducible rfl
        rotate_left
        ·simp only [Act.put, List.setIfInBounds_toArray, List.set_cons_zero, List.set_cons_succ, i64_w, i32_w]
         rfl
        refine pure_ (i := 6) (N := some 30) (v := ?_) (a' := ?_) #[true, false, true, false, true, false, true, false, false, false, false, false] rfl rfl (any_of HT_.out (by kernel_rfl)) (fun _ _ _ h => h) (Or.inl ⟨by rfl, ?_⟩) ?_ ?_
        rotate_left
        ·intro w'
         go_simp
         with_reducible rfl
        rotate_left
        ·simp only [Act.put, List.setIfInBounds_toArray, List.set_cons_zero, List.set_cons_succ, i64_w, i32_w]
         rfl
        refine pure_ (i := 7) (N := some 31) (v := ?_) (a' := ?_) #[true, false, true, false, true, false, true, true, false, false, false, false] rfl rfl (any_of HT_.out (by kernel_rfl)) (fun _ _ _ h => h) (Or.inl ⟨by rfl, ?_⟩) ?_ ?_
        rotate_left
        ·intro w'
         go_simp
         with_reducible rfl
        rotate_left
        ·simp only [Act.put, List.setIfInBounds_toArray, List.set_cons_zero, List.set_cons_succ, i64_w, i32_w]
         rfl
        refine take_ (i := 1) (N := some 25) (v := ?_) (a' := ?_) #[true, true, true, false, true, false, true, true, false, false, false, false] rfl rfl (take_ofW HT_.out HW_.out (by kernel_rfl)) (fun _ _ _ h => h) (Or.inl ⟨by rfl, ?_⟩) hHeld ?_ ?_
        rotate_left
        ·rintro w' ⟨s0, s1⟩
         go_simp
         with_reducible rfl
        rotate_left
        ·simp only [Act.put, List.setIfInBounds_toArray, List.set_cons_zero, List.set_cons_succ, i64_w, i32_w]
         rfl
        refine pure_ (i := 3) (N := some 27) (v := ?_) (a' := ?_) #[true, true, true, true, true, false, true, true, false, false, false, false] rfl rfl (any_of HT_.out (by kernel_rfl)) (fun _ _ _ h => h) (Or.inl ⟨by rfl, ?_⟩) ?_ ?_
        rotate_left
        ·intro w'
         go_simp
         with_reducible rfl
        rotate_left
        ·simp only [Act.put, List.setIfInBounds_toArray, List.set_cons_zero, List.set_cons_succ, i64_w, i32_w]
         rfl
        refine take_ (i := 5) (N := some 29) (v := ?_) (a' := ?_) #[true, true, true, true, true, true, true, true, false, false, false, false] rfl rfl (take_ofW HT_.out HW_.out (by kernel_rfl)) (fun _ _ _ h => h) (Or.inl ⟨by rfl, ?_⟩) hHeld ?_ ?_
        rotate_left
        ·rintro w' ⟨s0, s1⟩
         go_simp
         with_reducible rfl
        rotate_left
        ·simp only [Act.put, List.setIfInBounds_toArray, List.set_cons_zero, List.set_cons_succ, i64_w, i32_w]
         rfl
        refine pure_ (i := 8) (N := some 32) (v := ?_) (a' := ?_) #[true, true, true, true, true, true, true, true, true, false, false, false] rfl rfl (any_of HT_.out (by kernel_rfl)) (fun _ _ _ h => h) (Or.inl ⟨by rfl, ?_⟩) ?_ ?_
        rotate_left
        ·intro w'
         go_simp
         with_reducible rfl
        rotate_left
        ·simp only [Act.put, List.setIfInBounds_toArray, List.set_cons_zero, List.set_cons_succ, i64_w, i32_w]
         rfl
        refine one_ (i := 9) (N := some 33) #[true, true, true, true, true, true, true, true, true, true, false, false] rfl rfl (one_of HT_.out (by kernel_rfl)) (by decide) (fun K hK => ?_)
        have hj_ : 0 ≤ (a1 : Int) := of_decide_eq_true aq
        have hl_ : (ji23 : Int) ≤ (t225.length : Int) := of_decide_eq_true aq
        have hh_ : (a1 : Int) ≤ (t225.length : Int) := of_decide_eq_true aq
        have hb_ := (Kd.R_reads' HO227.out).2.2.2.1
        have h0_ : (0 : Int) ≤ (ji23 : Int) := of_decide_eq_true aq
        have hy1_ := KY41.out
        have hk_ : (ji23 : Int).toNat = y229.length + 1 := (by have hw_ : (ji23 : Int) = a1 + 1 := (by have h00_ := h0_; rw [← hji23] at h00_ ⊢; unfold wrap64 at h00_ ⊢; omega); rw [hw_]; omega)
        refine Kd.R_delete_step k41 (w0 := w) w.heap.size (by rfl) (.tmp 27) (.tmp 32) 27 41 rfl Try.underlying27 (by kernel_rfl) (g := go44) (n := t225.length) (c := co38) (k := y229.length) rfl rfl ?hA ?hm (rq HO227) ?hk bq (below_size bq) ?_
        (case hA => have ha_ := KA42.out; rw [hk_] at ha_; exact ha_)
        (case hm => have ha_ := KY42.out; omega)
        (case hk => omega)
        intro w43 ho hb hg
        clear hj_ hl_ hh_ hb_ hk_ h0_
        rw [hy1_, ← Ny237.out] at ho
        clear hy1_
        have hn_ : t225.length - 1 = y237.length := (by have := (Kd.R_reads' ho).1; omega)
        rw [hn_] at ho ⊢
        clear hn_
        replace BK219 := am (blk_grown (g := gb219) (o := .cells #[.slice A0_0 l0_0.length c0_0, .slice A0_1 l0_1.length c0_1] 29 (0, 0)) (zq BK219) hg (Kd.R_ne HO227.out BK219.out (by decide)))
        replace BK220 := am (blk_grown (g := gb220) (o := .cells #[.slice none 0 0, .slice none 0 0] 29 (0, 0)) (zq BK220) hg (Kd.R_ne HO227.out BK220.out (by decide)))
        replace HO224 := am (Kd.R_over' (v := (.slice (some ⟨go44, 0, none⟩) t225.length co38)) (rq HO224) (Kd.R_typed HO227.out) (by decide) hg)
        replace BK228 := am (blk_grown (g := gb228) (o := .cells #[.slice Ao34 t222.length co34, .slice (some ⟨go44, 0, none⟩) t225.length co38] 29 (0, 0)) (zq BK228) hg (Kd.R_ne HO227.out BK228.out (by decide)))
        replace HO227 := am (ho)
        replace HB := am (hb)
        clear ho hb hg
        refine hK.out _ _ cl (fun hHeld => ?_)
        clear hK K
        refine norm_ (a' := ?_) ?_ ?_
        rotate_left
        ·show Act.put _ (some 33) _ = _
         simp only [Act.put, List.setIfInBounds_toArray, List.set_cons_zero, List.set_cons_succ, i64_w, i32_w]
         rfl
        refine pure_ (i := 10) (N := some 34) (v := ?_) (a' := ?_) #[true, true, true, true, true, true, true, true, true, true, true, false] rfl rfl (any_of HT_.out (by kernel_rfl)) (fun _ _ _ h => h) (Or.inl ⟨by rfl, ?_⟩) ?_ ?_
        rotate_left
        ·intro w'
         go_simp
         with_reducible rfl
        rotate_left
        ·simp only [Act.put, List.setIfInBounds_toArray, List.set_cons_zero, List.set_cons_succ, i64_w, i32_w]
         rfl
        refine last_ (i := 11) (N := none) #[true, true, true, true, true, true, true, true, true, true, true, true] rfl rfl (one_of HT_.out (by kernel_rfl)) (by decide) (fun K hK => ?_)
        have hs45 : w43.cell? ⟨gb228, 1, none⟩ = some (.slice (some ⟨go44, 0, none⟩) t225.length co38) := (blk_cell BK228.out 1).trans rfl
        have hfs45 := blk_frozen BK228.out 1
        have hns45_0 := NB219_228.out
        have hns45_1 := NB220_228.out
        have hms45_0 := NB228_219.out
        have hms45_1 := NB228_220.out
        refine skip_ (w1 := ?_) (by rfl) rfl ?_ ?_
        rotate_left
        ·go_simp
         rfl
        refine hK.out _ _ ?_
        clear hK K
        refine done_ (done_of HT_.out (by kernel_rfl)) ?_
        have ⟨hcz46_0, hcz46_1, hfz46_0, hfz46_1⟩ := bc2 BK228
        have ⟨hcz47_0, hcz47_1, hfz47_0, hfz47_1⟩ := bc2 BK220
        try go_wp2
        refine bodyPost_ret (results_ct rfl _ _ gb220 29 #[.slice Ao34 t222.length co34, .slice (some ⟨go44, 0, none⟩) y237.length co38] (0, 0) _ rfl (zp BK220) Try.underlying29 rfl (by kernel_rfl)) rfl ?_
        exact ⟨_, _, by first | rfl | (simp [errW_none, errW_some] <;> rfl) | (simp only [← hji23]; first | rfl | (simp [errW_none, errW_some] <;> rfl)) | (simp [*, errW_none, errW_some] <;> rfl), by (with_reducible repeat (first | apply Kd.R_alloc | apply Kd.R_drewN | apply Kd.R_drew)); exact Kd.R_mono (Kd.R_far (p := ⟨gb220, 1, none⟩) (Kd.R_far (p := ⟨gb220, 0, none⟩) (Kd.R_far (p := ⟨gb228, 1, none⟩) (Kd.R_types (Kd.R_types HO224.out BK228.out (by decide)) BK220.out (by decide)) (fun _ hk => hk.1.2) (.slice (some ⟨go44, 0, none⟩) y237.length co38)) (fun _ hk => hk.2) (.slice Ao34 t222.length co34)) (fun _ hk => hk.2) (.slice (some ⟨go44, 0, none⟩) y237.length co38)) (fun _ hk => trivial), by (with_reducible repeat (first | apply Kd.R_alloc | apply Kd.R_drewN | apply Kd.R_drew)); exact Kd.R_mono (Kd.R_far (p := ⟨gb220, 1, none⟩) (Kd.R_far (p := ⟨gb220, 0, none⟩) (Kd.R_far (p := ⟨gb228, 1, none⟩) (Kd.R_types (Kd.R_types HO227.out BK228.out (by decide)) BK220.out (by decide)) (fun _ hk => hk.1.2) (.slice (some ⟨go44, 0, none⟩) y237.length co38)) (fun _ hk => hk.2) (.slice Ao34 t222.length co34)) (fun _ hk => hk.2) (.slice (some ⟨go44, 0, none⟩) y237.length co38)) (fun _ hk => trivial), bq⟩
       ·rw [if_neg c25] at H
        exact absurd H (by simp)
      ·rw [if_neg c24] at H
       exact absurd H (by simp)
     ·rw [if_neg c22] at H
      exact absurd H (by simp)
    ·rw [if_neg c21] at H
     exact absurd H (by simp)
 ·replace c4 := Bool.eq_false_iff.mpr c4
  subst c4
  rw [if_neg (show ¬ (false = true) by decide)] at H
  try dsimp only at H
  simp only [Option.some.injEq, Prod.mk.injEq] at H
  obtain ⟨rfl, rfl, rfl⟩ := H
  go_enter Try.func10, Try.ntmps10
  go_wp2_with (first | ((with_reducible refine gate_dst (N := 2) rfl ?_); (try (refine gate_guard (by rfl) ?_; dsimp only)); refine box_event ?hg (N := 2) ?hd (cs := #[.slice A0_0 l0_0.length c0_0, .slice A0_1 l0_1.length c0_1]) (t := 29) ?hr ?_; (case hd => rfl); (case hg => rfl); (case hr => first | (go_simp; done) | (go_simp; rfl)); intro gb219 hg w48 hbox hb; have BK219 := am (hbox); have GW219 := am (gq hg); have GE219 := am (gq hg); replace HB := sb hb; clear hb hbox hg) | ((with_reducible refine gate_dst (N := 4) rfl ?_); (try (refine gate_guard (by rfl) ?_; dsimp only)); refine box_event ?hg (N := 4) ?hd (cs := #[.slice none 0 0, .slice none 0 0]) (t := 29) ?hr ?_; (case hd => rfl); (case hg => rfl); (case hr => first | (go_simp; done) | (go_simp; rfl)); intro gb220 hg w49 hbox hb; have BK220 := am (hbox); have GW220 := am (gq hg); have GE220 := am (gq hg); replace HB := sb hb; have NB219_220 := nl hg BK219; have NB220_219 := ng hg BK219; replace BK219 := zb BK219 hb; clear hb hbox hg; have hnb50 := NB219_220.out; have hnc50 := NB220_219.out; have ⟨hcz51_0, hcz51_1, hfz51_0, hfz51_1⟩ := bc2 BK219) | ((with_reducible refine gate_callee (f := 27) rfl ?_); refine goesQ (some 8) Try.func27 #[.agg #[.slice A0_0 l0_0.length c0_0, .slice A0_1 l0_1.length c0_1]] ?_; (with_reducible refine (impl_IsShop.calls k _ _ l0_0 _ _ l0_1 false _ ?s1 ?s2 ?s3 ?s4 A3.out).mono ?_); (case s1 => exact cq (Kd.C_below HR0_0.out HB.out)); (case s2 => exact HC0_0.out); (case s3 => exact cq (Kd.C_below HR0_1.out HB.out)); (case s4 => exact HC0_1.out); rintro e w52 ⟨rfl, hb⟩; refine ⟨_, rfl, ?_⟩; replace BK219 := zb BK219 hb; replace BK220 := zb BK220 hb; replace HB := sb hb; (try clear hb); have ⟨hcz53_0, hcz53_1, hfz53_0, hfz53_1⟩ := bc2 BK220))
  refine bodyPost_ret (results_ct rfl _ _ gb220 29 #[.slice none 0 0, .slice none 0 0] (0, 0) _ rfl (zp BK220) Try.underlying29 rfl (by kernel_rfl)) rfl ?_
  exact ⟨_, _, eq_, by first | exact Kd.R_nil _ _ _ _ _ | exact Kd.N_nil _ _ _ _ _ | exact Kd.V_nil _ _ _ _ _ | exact Kd.Q_nil _ _ _ _ _ | exact Kd.S_nil _ _ _ _ _, by first | exact Kd.R_nil _ _ _ _ _ | exact Kd.N_nil _ _ _ _ _ | exact Kd.V_nil _ _ _ _ _ | exact Kd.Q_nil _ _ _ _ _ | exact Kd.S_nil _ _ _ _ _, bq⟩



/-! ### laws_eqIntS: function 29 -/
def laws_eqIntS.l0 : Nat → List Int → List Int → Int → Option (Bool)
 | 0, _, _, _ => none
 | k + 1, x0, x1, x5 => if x5 < (x0.length : Int) then (if 0 ≤ x5 then (if x5 < (x1.length : Int) then (if (rd x0 x5) = (rd x1 x5) then (laws_eqIntS.l0 k x0 x1 (wrap64 (x5 + 1))) else (some false)) else (none)) else (none)) else (some true)
def laws_eqIntS.f (k : Nat) (l0 : List Int) (l1 : List Int) : Option (Bool) := if (l0.length : Int) = (l1.length : Int) then (laws_eqIntS.l0 k l0 l1 0) else (some false)
theorem laws_eqIntS.mono_l : ∀ k, (∀ y0 y1 y2, LeO (laws_eqIntS.l0 k y0 y1 y2) (laws_eqIntS.l0 (k + 1) y0 y1 y2))
 | 0 => fun _ _ _ r h => by simp [laws_eqIntS.l0] at h
 | k + 1 => by
  have ih0 := laws_eqIntS.mono_l k
  ·intro y0 y1 y2
   unfold laws_eqIntS.l0
   repeat' first
   | (with_reducible exact ih0 _ _ _)
   | (with_reducible exact LeO.refl _)
   | (with_reducible exact LeO.none _)
   | (with_reducible refine LeO.ite ?_ ?_)
   | (with_reducible refine LeO.bind ?_ (fun _ => ?_))
   | exact ih0 _ _ _
   | exact LeO.none _
   | refine LeO.ite ?_ ?_
   | refine LeO.bind ?_ (fun _ => ?_)
theorem laws_eqIntS.mono : ∀ a0 a1 k, LeO (laws_eqIntS.f k a0 a1) (laws_eqIntS.f (k + 1) a0 a1) := by
 intro a0 a1 k
 have ih0 := laws_eqIntS.mono_l k
 unfold laws_eqIntS.f
 repeat' first
   | (with_reducible exact ih0 _ _ _)
   | (with_reducible exact LeO.refl _)
   | (with_reducible exact LeO.none _)
   | (with_reducible refine LeO.ite ?_ ?_)
   | (with_reducible refine LeO.bind ?_ (fun _ => ?_))
   | exact ih0 _ _ _
   | exact LeO.none _
   | refine LeO.ite ?_ ?_
   | refine LeO.bind ?_ (fun _ => ?_)
set_option maxHeartbeats 8000000 in
set_option maxRecDepth 100000 in
theorem laws_eqIntS.calls (k : Nat) (A0 : Option Addr) (c0 : Nat) (l0 : List Int) (A1 : Option Addr) (c1 : Nat) (l1 : List Int) (r : Bool) (w : World) (hr0 : Kd.C (Kd.int .i64) w A0 l0.length l0) (hc0 : l0.length ≤ c0) (hr1 : Kd.C (Kd.int .i64) w A1 l1.length l1) (hc1 : l1.length ≤ c1) (h : laws_eqIntS.f k l0 l1 = some r) :
  Calls Try.prog 29 #[.slice A0 l0.length c0, .slice A1 l1.length c1] w fun e w' => e = .returned (.bool r) ∧ Drawn0 w w' := by
 have HR0 := am hr0
 have HC0 := am hc0
 clear hr0 hc0
 have HR1 := am hr1
 have HC1 := am hc1
 clear hr1 hc1
 have H : (if (l0.length : Int) = (l1.length : Int) then (laws_eqIntS.l0 k l0 l1 0) else (some false)) = some r := h
 clear h
 by_cases c3 : (l0.length : Int) = (l1.length : Int)
 ·rw [if_pos c3] at H
  have c3b0 : ((l0.length : Int) == (l1.length : Int)) = true := beq_iff_eq.mpr c3
  have c3b1 : ((l0.length : Int) != (l1.length : Int)) = false := bne_eq_false_iff_eq.mpr c3
  have c3b2 : (l0.length == l1.length) = true := by first | simpa using c3 | (simp at c3 ⊢; omega)
  clear c3
  have H' := am H
  clear H
  go_enter Try.func29, Try.ntmps29
  go_wp2
  repeat (go_quiet (fail); try go_wp2)
  go_loopg [5] k (fun kq v5 w' => ∃ (x5_1 : Int), v5 = .int .i64 x5_1 ∧ Aside0 (laws_eqIntS.l0 kq l0 l1 x5_1 = some r) ∧ Aside0 (kq ≤ k) ∧ Drawn0 w w')
  case atStart => exact ⟨(0), sq, H', ⟨Nat.le_refl _⟩, by repeat (first | exact Drawn0.refl _ | apply Drawn0.step)⟩
  case round =>
   clear H'
   try clear c3b0
   try clear c3b1
   try clear c3b2
   obtain ⟨x5_1, rfl, HA, HK1, ⟨m1, rfl⟩⟩ := hrel
   cases gk with
   | zero => exact absurd HA.out (by simp [laws_eqIntS.l0])
   | succ k1 =>
    have H := HA.out
    clear HA
    simp only [laws_eqIntS.l0] at H
    by_cases c4 : x5_1 < (l0.length : Int)
    ·rw [if_pos c4] at H
     have c4b0 : decide (x5_1 < (l0.length : Int)) = true := decide_eq_true c4
     clear c4
     by_cases c5 : 0 ≤ x5_1
     ·rw [if_pos c5] at H
      have c5b0 : decide (0 ≤ x5_1) = true := decide_eq_true c5
      clear c5
      by_cases c6 : x5_1 < (l1.length : Int)
      ·rw [if_pos c6] at H
       have c6b0 : decide (x5_1 < (l1.length : Int)) = true := decide_eq_true c6
       clear c6
       by_cases c7 : (rd l0 x5_1) = (rd l1 x5_1)
       ·rw [if_pos c7] at H
        have c7b0 : ((rd l0 x5_1) == (rd l1 x5_1)) = true := beq_iff_eq.mpr c7
        have c7b1 : ((rd l0 x5_1) != (rd l1 x5_1)) = false := bne_eq_false_iff_eq.mpr c7
        clear c7
        have H' := am H
        clear H
        have p240 : 0 ≤ (x5_1 : Int) := of_decide_eq_true aq
        have q240 : x5_1 < (l0.length : Int) := of_decide_eq_true aq
        obtain ⟨ad240, e240, hx240_0⟩ := Kd.at_int HR0.out x5_1 p240 q240
        cases e240
        replace p240 := eq_true p240
        replace q240 := eq_true q240
        have p241 : 0 ≤ (x5_1 : Int) := of_decide_eq_true aq
        have q241 : x5_1 < (l1.length : Int) := of_decide_eq_true aq
        obtain ⟨ad241, e241, hx241_0⟩ := Kd.at_int HR1.out x5_1 p241 q241
        cases e241
        replace p241 := eq_true p241
        replace q241 := eq_true q241
        go_wp2
        repeat (go_quiet (fail); try go_wp2)
        go_roundg k1
        case measure => have := HK1.out; omega
        case rel => exact ⟨(wrap64 (x5_1 + 1)), sq, H', ⟨by have := HK1.out; omega⟩, by repeat (first | exact Drawn0.refl _ | apply Drawn0.step)⟩
       ·rw [if_neg c7] at H
        have c7b0 : ((rd l0 x5_1) == (rd l1 x5_1)) = false := beq_eq_false_iff_ne.mpr c7
        have c7b1 : ((rd l0 x5_1) != (rd l1 x5_1)) = true := bne_iff_ne.mpr c7
        obtain rfl := Option.some.inj H
        have p240 : 0 ≤ (x5_1 : Int) := of_decide_eq_true aq
        have q240 : x5_1 < (l0.length : Int) := of_decide_eq_true aq
        obtain ⟨ad240, e240, hx240_0⟩ := Kd.at_int HR0.out x5_1 p240 q240
        cases e240
        replace p240 := eq_true p240
        replace q240 := eq_true q240
        have p241 : 0 ≤ (x5_1 : Int) := of_decide_eq_true aq
        have q241 : x5_1 < (l1.length : Int) := of_decide_eq_true aq
        obtain ⟨ad241, e241, hx241_0⟩ := Kd.at_int HR1.out x5_1 p241 q241
        cases e241
        replace p241 := eq_true p241
        replace q241 := eq_true q241
        go_wp2
        repeat (go_quiet (fail); try go_wp2)
        go_ret
        exact ⟨sq, by repeat (first | exact Drawn0.refl _ | apply Drawn0.step)⟩
      ·rw [if_neg c6] at H
       exact absurd H (by simp)
     ·rw [if_neg c5] at H
      exact absurd H (by simp)
    ·rw [if_neg c4] at H
     have c4b0 : decide (x5_1 < (l0.length : Int)) = false := decide_eq_false c4
     clear c4
     obtain rfl := Option.some.inj H
     go_wp2
     repeat (go_quiet (fail); try go_wp2)
     go_ret
     exact ⟨sq, by repeat (first | exact Drawn0.refl _ | apply Drawn0.step)⟩
 ·rw [if_neg c3] at H
  have c3b0 : ((l0.length : Int) == (l1.length : Int)) = false := beq_eq_false_iff_ne.mpr c3
  have c3b1 : ((l0.length : Int) != (l1.length : Int)) = true := bne_iff_ne.mpr c3
  have c3b2 : (l0.length == l1.length) = false := by first | simpa using c3 | (simp at c3 ⊢; omega)
  obtain rfl := Option.some.inj H
  go_enter Try.func29, Try.ntmps29
  go_wp2
  repeat (go_quiet (fail); try go_wp2)
  go_ret
  exact ⟨sq, by repeat (first | exact Drawn0.refl _ | apply Drawn0.step)⟩


/-! ### laws_eqLoan: function 52 -/
def laws_eqLoan.f (a0_0 : Int) (a0_1 : Int) (a0_2 : Int) (a0_3 : Int) (a1_0 : Int) (a1_1 : Int) (a1_2 : Int) (a1_3 : Int) : Option (Bool) := if a0_0 = a1_0 then (if a0_1 = a1_1 then (if a0_2 = a1_2 then (if a0_3 = a1_3 then (some true) else (some false)) else (some false)) else (some false)) else (some false)
set_option maxHeartbeats 8000000 in
set_option maxRecDepth 100000 in
theorem laws_eqLoan.calls (a0_0 : Int) (a0_1 : Int) (a0_2 : Int) (a0_3 : Int) (a1_0 : Int) (a1_1 : Int) (a1_2 : Int) (a1_3 : Int) (r : Bool) (w : World) (h : laws_eqLoan.f a0_0 a0_1 a0_2 a0_3 a1_0 a1_1 a1_2 a1_3 = some r) :
  Calls Try.prog 52 #[.agg #[.int .i64 a0_0, .int .i64 a0_1, .int .i64 a0_2, .int .i64 a0_3], .agg #[.int .i64 a1_0, .int .i64 a1_1, .int .i64 a1_2, .int .i64 a1_3]] w fun e w' => e = .returned (.bool r) ∧ Below w.heap.size w w' := by
 have hu41 := Try.underlying41
 have HB := am (Below.refl w.heap.size w)
 have H : (if a0_0 = a1_0 then (if a0_1 = a1_1 then (if a0_2 = a1_2 then (if a0_3 = a1_3 then (some true) else (some false)) else (some false)) else (some false)) else (some false)) = some r := h
 clear h
 by_cases c3 : a0_0 = a1_0
 ·rw [if_pos c3] at H
  have c3b0 : (a0_0 == a1_0) = true := beq_iff_eq.mpr c3
  have c3b1 : (a0_0 != a1_0) = false := bne_eq_false_iff_eq.mpr c3
  clear c3
  by_cases c4 : a0_1 = a1_1
  ·rw [if_pos c4] at H
   have c4b0 : (a0_1 == a1_1) = true := beq_iff_eq.mpr c4
   have c4b1 : (a0_1 != a1_1) = false := bne_eq_false_iff_eq.mpr c4
   clear c4
   by_cases c5 : a0_2 = a1_2
   ·rw [if_pos c5] at H
    have c5b0 : (a0_2 == a1_2) = true := beq_iff_eq.mpr c5
    have c5b1 : (a0_2 != a1_2) = false := bne_eq_false_iff_eq.mpr c5
    clear c5
    by_cases c6 : a0_3 = a1_3
    ·rw [if_pos c6] at H
     have c6b0 : (a0_3 == a1_3) = true := beq_iff_eq.mpr c6
     have c6b1 : (a0_3 != a1_3) = false := bne_eq_false_iff_eq.mpr c6
     clear c6
     obtain rfl := Option.some.inj H
     go_enter Try.func52, Try.ntmps52
     go_wp2_with (first | ((with_reducible refine gate_dst (N := 2) rfl ?_); refine box_event ?hg (N := 2) ?hd (cs := #[.int .i64 a0_0, .int .i64 a0_1, .int .i64 a0_2, .int .i64 a0_3]) (t := 41) ?hr ?_; (case hd => rfl); (case hg => rfl); (case hr => first | (go_simp; done) | (go_simp; rfl)); intro gb242 hg w7 hbox hb; have BK242 := am (hbox); have GW242 := am (gq hg); have GE242 := am (gq hg); replace HB := sb hb; clear hb hbox hg) | ((with_reducible refine gate_dst (N := 3) rfl ?_); refine box_event ?hg (N := 3) ?hd (cs := #[.int .i64 a1_0, .int .i64 a1_1, .int .i64 a1_2, .int .i64 a1_3]) (t := 41) ?hr ?_; (case hd => rfl); (case hg => rfl); (case hr => first | (go_simp; done) | (go_simp; rfl)); intro gb243 hg w8 hbox hb; have BK243 := am (hbox); have GW243 := am (gq hg); have GE243 := am (gq hg); replace HB := sb hb; have NB242_243 := nl hg BK242; have NB243_242 := ng hg BK242; replace BK242 := zb BK242 hb; clear hb hbox hg; have hnb9 := NB242_243.out; have hnc9 := NB243_242.out; have ⟨hcz10_0, hcz10_1, hcz10_2, hcz10_3, hfz10_0, hfz10_1, hfz10_2, hfz10_3⟩ := bc4 BK242; have ⟨hcz11_0, hcz11_1, hcz11_2, hcz11_3, hfz11_0, hfz11_1, hfz11_2, hfz11_3⟩ := bc4 BK243))
     go_ret
     exact ⟨eq_, bq⟩
    ·rw [if_neg c6] at H
     have c6b0 : (a0_3 == a1_3) = false := beq_eq_false_iff_ne.mpr c6
     have c6b1 : (a0_3 != a1_3) = true := bne_iff_ne.mpr c6
     obtain rfl := Option.some.inj H
     go_enter Try.func52, Try.ntmps52
     go_wp2_with (first | ((with_reducible refine gate_dst (N := 2) rfl ?_); refine box_event ?hg (N := 2) ?hd (cs := #[.int .i64 a0_0, .int .i64 a0_1, .int .i64 a0_2, .int .i64 a0_3]) (t := 41) ?hr ?_; (case hd => rfl); (case hg => rfl); (case hr => first | (go_simp; done) | (go_simp; rfl)); intro gb242 hg w12 hbox hb; have BK242 := am (hbox); have GW242 := am (gq hg); have GE242 := am (gq hg); replace HB := sb hb; clear hb hbox hg) | ((with_reducible refine gate_dst (N := 3) rfl ?_); refine box_event ?hg (N := 3) ?hd (cs := #[.int .i64 a1_0, .int .i64 a1_1, .int .i64 a1_2, .int .i64 a1_3]) (t := 41) ?hr ?_; (case hd => rfl); (case hg => rfl); (case hr => first | (go_simp; done) | (go_simp; rfl)); intro gb243 hg w13 hbox hb; have BK243 := am (hbox); have GW243 := am (gq hg); have GE243 := am (gq hg); replace HB := sb hb; have NB242_243 := nl hg BK242; have NB243_242 := ng hg BK242; replace BK242 := zb BK242 hb; clear hb hbox hg; have hnb14 := NB242_243.out; have hnc14 := NB243_242.out; have ⟨hcz15_0, hcz15_1, hcz15_2, hcz15_3, hfz15_0, hfz15_1, hfz15_2, hfz15_3⟩ := bc4 BK242; have ⟨hcz16_0, hcz16_1, hcz16_2, hcz16_3, hfz16_0, hfz16_1, hfz16_2, hfz16_3⟩ := bc4 BK243))
     go_ret
     exact ⟨eq_, bq⟩
   ·rw [if_neg c5] at H
    have c5b0 : (a0_2 == a1_2) = false := beq_eq_false_iff_ne.mpr c5
    have c5b1 : (a0_2 != a1_2) = true := bne_iff_ne.mpr c5
    obtain rfl := Option.some.inj H
    go_enter Try.func52, Try.ntmps52
    go_wp2_with (first | ((with_reducible refine gate_dst (N := 2) rfl ?_); refine box_event ?hg (N := 2) ?hd (cs := #[.int .i64 a0_0, .int .i64 a0_1, .int .i64 a0_2, .int .i64 a0_3]) (t := 41) ?hr ?_; (case hd => rfl); (case hg => rfl); (case hr => first | (go_simp; done) | (go_simp; rfl)); intro gb242 hg w17 hbox hb; have BK242 := am (hbox); have GW242 := am (gq hg); have GE242 := am (gq hg); replace HB := sb hb; clear hb hbox hg) | ((with_reducible refine gate_dst (N := 3) rfl ?_); refine box_event ?hg (N := 3) ?hd (cs := #[.int .i64 a1_0, .int .i64 a1_1, .int .i64 a1_2, .int .i64 a1_3]) (t := 41) ?hr ?_; (case hd => rfl); (case hg => rfl); (case hr => first | (go_simp; done) | (go_simp; rfl)); intro gb243 hg w18 hbox hb; have BK243 := am (hbox); have GW243 := am (gq hg); have GE243 := am (gq hg); replace HB := sb hb; have NB242_243 := nl hg BK242; have NB243_242 := ng hg BK242; replace BK242 := zb BK242 hb; clear hb hbox hg; have hnb19 := NB242_243.out; have hnc19 := NB243_242.out; have ⟨hcz20_0, hcz20_1, hcz20_2, hcz20_3, hfz20_0, hfz20_1, hfz20_2, hfz20_3⟩ := bc4 BK242; have ⟨hcz21_0, hcz21_1, hcz21_2, hcz21_3, hfz21_0, hfz21_1, hfz21_2, hfz21_3⟩ := bc4 BK243))
    go_ret
    exact ⟨eq_, bq⟩
  ·rw [if_neg c4] at H
   have c4b0 : (a0_1 == a1_1) = false := beq_eq_false_iff_ne.mpr c4
   have c4b1 : (a0_1 != a1_1) = true := bne_iff_ne.mpr c4
   obtain rfl := Option.some.inj H
   go_enter Try.func52, Try.ntmps52
   go_wp2_with (first | ((with_reducible refine gate_dst (N := 2) rfl ?_); refine box_event ?hg (N := 2) ?hd (cs := #[.int .i64 a0_0, .int .i64 a0_1, .int .i64 a0_2, .int .i64 a0_3]) (t := 41) ?hr ?_; (case hd => rfl); (case hg => rfl); (case hr => first | (go_simp; done) | (go_simp; rfl)); intro gb242 hg w22 hbox hb; have BK242 := am (hbox); have GW242 := am (gq hg); have GE242 := am (gq hg); replace HB := sb hb; clear hb hbox hg) | ((with_reducible refine gate_dst (N := 3) rfl ?_); refine box_event ?hg (N := 3) ?hd (cs := #[.int .i64 a1_0, .int .i64 a1_1, .int .i64 a1_2, .int .i64 a1_3]) (t := 41) ?hr ?_; (case hd => rfl); (case hg => rfl); (case hr => first | (go_simp; done) | (go_simp; rfl)); intro gb243 hg w23 hbox hb; have BK243 := am (hbox); have GW243 := am (gq hg); have GE243 := am (gq hg); replace HB := sb hb; have NB242_243 := nl hg BK242; have NB243_242 := ng hg BK242; replace BK242 := zb BK242 hb; clear hb hbox hg; have hnb24 := NB242_243.out; have hnc24 := NB243_242.out; have ⟨hcz25_0, hcz25_1, hcz25_2, hcz25_3, hfz25_0, hfz25_1, hfz25_2, hfz25_3⟩ := bc4 BK242; have ⟨hcz26_0, hcz26_1, hcz26_2, hcz26_3, hfz26_0, hfz26_1, hfz26_2, hfz26_3⟩ := bc4 BK243))
   go_ret
   exact ⟨eq_, bq⟩
 ·rw [if_neg c3] at H
  have c3b0 : (a0_0 == a1_0) = false := beq_eq_false_iff_ne.mpr c3
  have c3b1 : (a0_0 != a1_0) = true := bne_iff_ne.mpr c3
  obtain rfl := Option.some.inj H
  go_enter Try.func52, Try.ntmps52
  go_wp2_with (first | ((with_reducible refine gate_dst (N := 2) rfl ?_); refine box_event ?hg (N := 2) ?hd (cs := #[.int .i64 a0_0, .int .i64 a0_1, .int .i64 a0_2, .int .i64 a0_3]) (t := 41) ?hr ?_; (case hd => rfl); (case hg => rfl); (case hr => first | (go_simp; done) | (go_simp; rfl)); intro gb242 hg w27 hbox hb; have BK242 := am (hbox); have GW242 := am (gq hg); have GE242 := am (gq hg); replace HB := sb hb; clear hb hbox hg) | ((with_reducible refine gate_dst (N := 3) rfl ?_); refine box_event ?hg (N := 3) ?hd (cs := #[.int .i64 a1_0, .int .i64 a1_1, .int .i64 a1_2, .int .i64 a1_3]) (t := 41) ?hr ?_; (case hd => rfl); (case hg => rfl); (case hr => first | (go_simp; done) | (go_simp; rfl)); intro gb243 hg w28 hbox hb; have BK243 := am (hbox); have GW243 := am (gq hg); have GE243 := am (gq hg); replace HB := sb hb; have NB242_243 := nl hg BK242; have NB243_242 := ng hg BK242; replace BK242 := zb BK242 hb; clear hb hbox hg; have hnb29 := NB242_243.out; have hnc29 := NB243_242.out; have ⟨hcz30_0, hcz30_1, hcz30_2, hcz30_3, hfz30_0, hfz30_1, hfz30_2, hfz30_3⟩ := bc4 BK242; have ⟨hcz31_0, hcz31_1, hcz31_2, hcz31_3, hfz31_0, hfz31_1, hfz31_2, hfz31_3⟩ := bc4 BK243))
  go_ret
  exact ⟨eq_, bq⟩


/-! ### laws_eqLoanS: function 30 -/
def laws_eqLoanS.l0 : Nat → List (S41) → List (S41) → Int → Option (Bool)
 | 0, _, _, _ => none
 | k + 1, x0, x1, x5 => if x5 < (x0.length : Int) then (if 0 ≤ x5 then (if x5 < (x1.length : Int) then ((laws_eqLoan.f ((rd_T41 x0 x5).f0) ((rd_T41 x0 x5).f1) ((rd_T41 x0 x5).f2) ((rd_T41 x0 x5).f3) ((rd_T41 x1 x5).f0) ((rd_T41 x1 x5).f1) ((rd_T41 x1 x5).f2) ((rd_T41 x1 x5).f3)).bind fun t246 => (if t246 = true then (laws_eqLoanS.l0 k x0 x1 (wrap64 (x5 + 1))) else (some false))) else (none)) else (none)) else (some true)
def laws_eqLoanS.f (k : Nat) (l0 : List (S41)) (l1 : List (S41)) : Option (Bool) := if (l0.length : Int) = (l1.length : Int) then (laws_eqLoanS.l0 k l0 l1 0) else (some false)
theorem laws_eqLoanS.mono_l : ∀ k, (∀ y0 y1 y2, LeO (laws_eqLoanS.l0 k y0 y1 y2) (laws_eqLoanS.l0 (k + 1) y0 y1 y2))
 | 0 => fun _ _ _ r h => by simp [laws_eqLoanS.l0] at h
 | k + 1 => by
  have ih0 := laws_eqLoanS.mono_l k
  ·intro y0 y1 y2
   unfold laws_eqLoanS.l0
   repeat' first
   | (with_reducible exact ih0 _ _ _)
   | (with_reducible exact LeO.refl _)
   | (with_reducible exact LeO.none _)
   | (with_reducible refine LeO.ite ?_ ?_)
   | (with_reducible refine LeO.bind ?_ (fun _ => ?_))
   | exact ih0 _ _ _
   | exact LeO.none _
   | refine LeO.ite ?_ ?_
   | refine LeO.bind ?_ (fun _ => ?_)
theorem laws_eqLoanS.mono : ∀ a0 a1 k, LeO (laws_eqLoanS.f k a0 a1) (laws_eqLoanS.f (k + 1) a0 a1) := by
 intro a0 a1 k
 have ih0 := laws_eqLoanS.mono_l k
 unfold laws_eqLoanS.f
 repeat' first
   | (with_reducible exact ih0 _ _ _)
   | (with_reducible exact LeO.refl _)
   | (with_reducible exact LeO.none _)
   | (with_reducible refine LeO.ite ?_ ?_)
   | (with_reducible refine LeO.bind ?_ (fun _ => ?_))
   | exact ih0 _ _ _
   | exact LeO.none _
   | refine LeO.ite ?_ ?_
   | refine LeO.bind ?_ (fun _ => ?_)
def laws_eqLoanS.T6 : Bool × List (List Nat × List Nat) := (true, [([], []), ([], []), ([0, 1], [0, 1]), ([2], [2]), ([], []), ([], []), ([4, 5], [4, 5]), ([6], [6]), ([3, 7], [3, 7]), ([8], [8])])
def laws_eqLoanS.B6 : List Nat := [0, 0, 3, 7, 0, 0, 48, 112, 255, 511]
theorem laws_eqLoanS.tab6 : rtab .any (opsOf Try.f30 6) = laws_eqLoanS.T6 := by kernel_rfl
theorem laws_eqLoanS.bits6 : waitsOk laws_eqLoanS.T6.2 laws_eqLoanS.B6 = true := by kernel_rfl
set_option maxHeartbeats 8000000 in
set_option maxRecDepth 100000 in
theorem laws_eqLoanS.calls (k : Nat) (A0 : Option Addr) (c0 : Nat) (l0 : List (S41)) (A1 : Option Addr) (c1 : Nat) (l1 : List (S41)) (r : Bool) (w : World) (hr0 : Kd.C k41 w A0 l0.length l0) (hc0 : l0.length ≤ c0) (hr1 : Kd.C k41 w A1 l1.length l1) (hc1 : l1.length ≤ c1) (h : laws_eqLoanS.f k l0 l1 = some r) :
  Calls Try.prog 30 #[.slice A0 l0.length c0, .slice A1 l1.length c1] w fun e w' => e = .returned (.bool r) ∧ Below w.heap.size w w' := by
 have hu41 := Try.underlying41
 have HR0 := am hr0
 have HC0 := am hc0
 clear hr0 hc0
 have HR1 := am hr1
 have HC1 := am hc1
 clear hr1 hc1
 have HB := am (Below.refl w.heap.size w)
 have H : (if (l0.length : Int) = (l1.length : Int) then (laws_eqLoanS.l0 k l0 l1 0) else (some false)) = some r := h
 clear h
 by_cases c3 : (l0.length : Int) = (l1.length : Int)
 ·rw [if_pos c3] at H
  have c3b0 : ((l0.length : Int) == (l1.length : Int)) = true := beq_iff_eq.mpr c3
  have c3b1 : ((l0.length : Int) != (l1.length : Int)) = false := bne_eq_false_iff_eq.mpr c3
  have c3b2 : (l0.length == l1.length) = true := by first | simpa using c3 | (simp at c3 ⊢; omega)
  clear c3
  have H' := am H
  clear H
  go_enter Try.func30, Try.ntmps30
  go_wp2
  go_loopg [5] k (fun kq v5 w' => ∃ (x5_1 : Int), v5 = .int .i64 x5_1 ∧ Aside0 (laws_eqLoanS.l0 kq l0 l1 x5_1 = some r) ∧ Aside0 (kq ≤ k) ∧ Aside0 (Below w.heap.size w w'))
  case atStart => exact ⟨(0), sq, H', ⟨Nat.le_refl _⟩, ⟨bq⟩⟩
  case round =>
   clear H'
   try clear c3b0
   try clear c3b1
   try clear c3b2
   obtain ⟨x5_1, rfl, HA, HK1, HB⟩ := hrel
   cases gk with
   | zero => exact absurd HA.out (by simp [laws_eqLoanS.l0])
   | succ k1 =>
    have H := HA.out
    clear HA
    simp only [laws_eqLoanS.l0] at H
    by_cases c4 : x5_1 < (l0.length : Int)
    ·rw [if_pos c4] at H
     have c4b0 : decide (x5_1 < (l0.length : Int)) = true := decide_eq_true c4
     clear c4
     by_cases c5 : 0 ≤ x5_1
     ·rw [if_pos c5] at H
      have c5b0 : decide (0 ≤ x5_1) = true := decide_eq_true c5
      clear c5
      by_cases c6 : x5_1 < (l1.length : Int)
      ·rw [if_pos c6] at H
       have c6b0 : decide (x5_1 < (l1.length : Int)) = true := decide_eq_true c6
       clear c6
       obtain ⟨t246, A7, H⟩ := bindq H
       try dsimp only at H
       by_cases c8 : t246 = true
       ·subst c8
        rw [if_pos rfl] at H
        try dsimp only at H
        have H' := am H
        clear H
        try go_wp2
        have n0_ := am (below_drew1 HB.out)
        clear HB
        have HB := n0_
        clear n0_
        have p244 : 0 ≤ (x5_1 : Int) := of_decide_eq_true aq
        have q244 : x5_1 < (l0.length : Int) := of_decide_eq_true aq
        obtain ⟨ad244, e244, hx244_0, hx244_1, hx244_2, hx244_3⟩ := at_T41 HR0.out x5_1 p244 q244
        have hw244_3 := hx244_3
        have hw244_2 := hx244_2
        have hw244_1 := hx244_1
        have hw244_0 := hx244_0
        cases e244
        replace hx244_0 := (HB.out.cell (World.block_lt_of_cell? w _ hx244_0)).trans hx244_0
        replace hx244_1 := (HB.out.cell (World.block_lt_of_cell? w _ hx244_1)).trans hx244_1
        replace hx244_2 := (HB.out.cell (World.block_lt_of_cell? w _ hx244_2)).trans hx244_2
        replace hx244_3 := (HB.out.cell (World.block_lt_of_cell? w _ hx244_3)).trans hx244_3
        replace p244 := eq_true p244
        replace q244 := eq_true q244
        have p245 : 0 ≤ (x5_1 : Int) := of_decide_eq_true aq
        have q245 : x5_1 < (l1.length : Int) := of_decide_eq_true aq
        obtain ⟨ad245, e245, hx245_0, hx245_1, hx245_2, hx245_3⟩ := at_T41 HR1.out x5_1 p245 q245
        have hw245_3 := hx245_3
        have hw245_2 := hx245_2
        have hw245_1 := hx245_1
        have hw245_0 := hx245_0
        cases e245
        replace hx245_0 := (HB.out.cell (World.block_lt_of_cell? w _ hx245_0)).trans hx245_0
        replace hx245_1 := (HB.out.cell (World.block_lt_of_cell? w _ hx245_1)).trans hx245_1
        replace hx245_2 := (HB.out.cell (World.block_lt_of_cell? w _ hx245_2)).trans hx245_2
        replace hx245_3 := (HB.out.cell (World.block_lt_of_cell? w _ hx245_3)).trans hx245_3
        replace p245 := eq_true p245
        replace q245 := eq_true q245
        refine start_ (n := 10) (S := fun w' => w'.cell? (ad244.add ((x5_1).toNat * 4)) = some (.int .i64 ((rd_T41 l0 x5_1).f0)) ∧ w'.cell? ⟨(ad244.add ((x5_1).toNat * 4)).block, (ad244.add ((x5_1).toNat * 4)).off + 1, none⟩ = some (.int .i64 ((rd_T41 l0 x5_1).f1)) ∧ w'.cell? ⟨(ad244.add ((x5_1).toNat * 4)).block, (ad244.add ((x5_1).toNat * 4)).off + 2, none⟩ = some (.int .i64 ((rd_T41 l0 x5_1).f2)) ∧ w'.cell? ⟨(ad244.add ((x5_1).toNat * 4)).block, (ad244.add ((x5_1).toNat * 4)).off + 3, none⟩ = some (.int .i64 ((rd_T41 l0 x5_1).f3)) ∧ w'.cell? (ad245.add ((x5_1).toNat * 4)) = some (.int .i64 ((rd_T41 l1 x5_1).f0)) ∧ w'.cell? ⟨(ad245.add ((x5_1).toNat * 4)).block, (ad245.add ((x5_1).toNat * 4)).off + 1, none⟩ = some (.int .i64 ((rd_T41 l1 x5_1).f1)) ∧ w'.cell? ⟨(ad245.add ((x5_1).toNat * 4)).block, (ad245.add ((x5_1).toNat * 4)).off + 2, none⟩ = some (.int .i64 ((rd_T41 l1 x5_1).f2)) ∧ w'.cell? ⟨(ad245.add ((x5_1).toNat * 4)).block, (ad245.add ((x5_1).toNat * 4)).off + 3, none⟩ = some (.int .i64 ((rd_T41 l1 x5_1).f3))) (ds := []) #[false, false, false, false, false, false, false, false, false, false] (by kernel_rfl) rfl rfl ⟨((HB.out.cell (World.block_lt_of_cell? w _ hw244_0)).trans hw244_0), ((HB.out.cell (World.block_lt_of_cell? w _ hw244_1)).trans hw244_1), ((HB.out.cell (World.block_lt_of_cell? w _ hw244_2)).trans hw244_2), ((HB.out.cell (World.block_lt_of_cell? w _ hw244_3)).trans hw244_3), ((HB.out.cell (World.block_lt_of_cell? w _ hw245_0)).trans hw245_0), ((HB.out.cell (World.block_lt_of_cell? w _ hw245_1)).trans hw245_1), ((HB.out.cell (World.block_lt_of_cell? w _ hw245_2)).trans hw245_2), ((HB.out.cell (World.block_lt_of_cell? w _ hw245_3)).trans hw245_3)⟩ (fun hHeld => ?_); refine with_tabW laws_eqLoanS.tab6 laws_eqLoanS.bits6 (fun HT_ HW_ => ?_)
        generalize wr.drew = w9 at HB hx244_0 hx244_1 hx244_2 hx244_3 hx245_0 hx245_1 hx245_2 hx245_3 hHeld ⊢
        refine pure_ (i := 0) (N := some 17) (v := ?_) (a' := ?_) #[true, false, false, false, false, false, false, false, false, false] rfl rfl (any_of HT_.out (by kernel_rfl)) (fun _ _ _ h => h) (Or.inl ⟨by rfl, ?_⟩) ?_ ?_
        rotate_left
        ·intro w'
         go_simp
         with_reducible rfl
        rotate_left
        ·simp only [Act.put, List.setIfInBounds_toArray, List.set_cons_zero, List.set_cons_succ, i64_w, i32_w]
         rfl
        refine pure_ (i := 1) (N := some 18) (v := ?_) (a' := ?_) #[true, true, false, false, false, false, false, false, false, false] rfl rfl (any_of HT_.out (by kernel_rfl)) (fun _ _ _ h => h) (Or.inl ⟨by rfl, ?_⟩) ?_ ?_
        rotate_left
        ·intro w'
         go_simp
         with_reducible rfl
        rotate_left
        ·simp only [Act.put, List.setIfInBounds_toArray, List.set_cons_zero, List.set_cons_succ, i64_w, i32_w]
         rfl
        refine pure_ (i := 2) (N := some 19) (v := ?_) (a' := ?_) #[true, true, true, false, false, false, false, false, false, false] rfl rfl (any_of HT_.out (by kernel_rfl)) (fun _ _ _ h => h) (Or.inl ⟨by rfl, ?_⟩) ?_ ?_
        rotate_left
        ·intro w'
         go_simp
         with_reducible rfl
        rotate_left
        ·simp only [Act.put, List.setIfInBounds_toArray, List.set_cons_zero, List.set_cons_succ, i64_w, i32_w]
         rfl
        refine pure_ (i := 4) (N := some 21) (v := ?_) (a' := ?_) #[true, true, true, false, true, false, false, false, false, false] rfl rfl (any_of HT_.out (by kernel_rfl)) (fun _ _ _ h => h) (Or.inl ⟨by rfl, ?_⟩) ?_ ?_
        rotate_left
        ·intro w'
         go_simp
         with_reducible rfl
        rotate_left
        ·simp only [Act.put, List.setIfInBounds_toArray, List.set_cons_zero, List.set_cons_succ, i64_w, i32_w]
         rfl
        refine pure_ (i := 5) (N := some 22) (v := ?_) (a' := ?_) #[true, true, true, false, true, true, false, false, false, false] rfl rfl (any_of HT_.out (by kernel_rfl)) (fun _ _ _ h => h) (Or.inl ⟨by rfl, ?_⟩) ?_ ?_
        rotate_left
        ·intro w'
         go_simp
         with_reducible rfl
        rotate_left
        ·simp only [Act.put, List.setIfInBounds_toArray, List.set_cons_zero, List.set_cons_succ, i64_w, i32_w]
         rfl
        refine pure_ (i := 6) (N := some 23) (v := ?_) (a' := ?_) #[true, true, true, false, true, true, true, false, false, false] rfl rfl (any_of HT_.out (by kernel_rfl)) (fun _ _ _ h => h) (Or.inl ⟨by rfl, ?_⟩) ?_ ?_
        rotate_left
        ·intro w'
         go_simp
         with_reducible rfl
        rotate_left
        ·simp only [Act.put, List.setIfInBounds_toArray, List.set_cons_zero, List.set_cons_succ, i64_w, i32_w]
         rfl
        refine take_ (i := 3) (N := some 20) (v := ?_) (a' := ?_) #[true, true, true, true, true, true, true, false, false, false] rfl rfl (take_ofW HT_.out HW_.out (by kernel_rfl)) (fun _ _ _ h => h) (Or.inl ⟨by rfl, ?_⟩) hHeld ?_ ?_
        rotate_left
        ·rintro w' ⟨s0, s1, s2, s3, s4, s5, s6, s7⟩
         go_simp
         with_reducible rfl
        rotate_left
        ·simp only [Act.put, List.setIfInBounds_toArray, List.set_cons_zero, List.set_cons_succ, i64_w, i32_w]
         rfl
        refine take_ (i := 7) (N := some 24) (v := ?_) (a' := ?_) #[true, true, true, true, true, true, true, true, false, false] rfl rfl (take_ofW HT_.out HW_.out (by kernel_rfl)) (fun _ _ _ h => h) (Or.inl ⟨by rfl, ?_⟩) hHeld ?_ ?_
        rotate_left
        ·rintro w' ⟨s0, s1, s2, s3, s4, s5, s6, s7⟩
         go_simp
         with_reducible rfl
        rotate_left
        ·simp only [Act.put, List.setIfInBounds_toArray, List.set_cons_zero, List.set_cons_succ, i64_w, i32_w]
         rfl
        refine one_ (i := 8) (N := some 25) #[true, true, true, true, true, true, true, true, true, false] rfl rfl (one_of HT_.out (by kernel_rfl)) (by decide) (fun K hK => ?_)
        refine goes_ Try.func52 (by kernel_rfl) rfl #[.agg #[.int .i64 ((rd_T41 l0 x5_1).f0), .int .i64 ((rd_T41 l0 x5_1).f1), .int .i64 ((rd_T41 l0 x5_1).f2), .int .i64 ((rd_T41 l0 x5_1).f3)], .agg #[.int .i64 ((rd_T41 l1 x5_1).f0), .int .i64 ((rd_T41 l1 x5_1).f1), .int .i64 ((rd_T41 l1 x5_1).f2), .int .i64 ((rd_T41 l1 x5_1).f3)]] (by rfl) rfl rfl mq ?_
        with_reducible refine (laws_eqLoan.calls ((rd_T41 l0 x5_1).f0) ((rd_T41 l0 x5_1).f1) ((rd_T41 l0 x5_1).f2) ((rd_T41 l0 x5_1).f3) ((rd_T41 l1 x5_1).f0) ((rd_T41 l1 x5_1).f1) ((rd_T41 l1 x5_1).f2) ((rd_T41 l1 x5_1).f3) true _ A7.out).mono ?_
        rintro e w10 ⟨rfl, hb⟩
        refine ⟨_, rfl, ?_⟩
        have n0_ := sb hb
        clear HB
        have HB := n0_
        clear n0_
        (try clear hb)
        refine hK.out _ _ ⟨((HB.out.cell (World.block_lt_of_cell? w _ hw244_0)).trans hw244_0), ((HB.out.cell (World.block_lt_of_cell? w _ hw244_1)).trans hw244_1), ((HB.out.cell (World.block_lt_of_cell? w _ hw244_2)).trans hw244_2), ((HB.out.cell (World.block_lt_of_cell? w _ hw244_3)).trans hw244_3), ((HB.out.cell (World.block_lt_of_cell? w _ hw245_0)).trans hw245_0), ((HB.out.cell (World.block_lt_of_cell? w _ hw245_1)).trans hw245_1), ((HB.out.cell (World.block_lt_of_cell? w _ hw245_2)).trans hw245_2), ((HB.out.cell (World.block_lt_of_cell? w _ hw245_3)).trans hw245_3)⟩ (fun hHeld => ?_)
        clear hK K
        refine norm_ (a' := ?_) ?_ ?_
        rotate_left
        ·show Act.put _ (some 25) _ = _
         simp only [Act.put, List.setIfInBounds_toArray, List.set_cons_zero, List.set_cons_succ, i64_w, i32_w]
         rfl
        refine pure_ (i := 9) (N := some 26) (v := ?_) (a' := ?_) #[true, true, true, true, true, true, true, true, true, true] rfl rfl (any_of HT_.out (by kernel_rfl)) (fun _ _ _ h => h) (Or.inl ⟨by rfl, ?_⟩) ?_ ?_
        rotate_left
        ·intro w'
         go_simp
         with_reducible rfl
        rotate_left
        ·simp only [Act.put, List.setIfInBounds_toArray, List.set_cons_zero, List.set_cons_succ, i64_w, i32_w]
         rfl
        refine done_ (done_of HT_.out (by kernel_rfl)) ?_
        try go_wp2
        go_roundg k1
        case measure => have := HK1.out; omega
        case rel => exact ⟨(wrap64 (x5_1 + 1)), sq, H', ⟨by have := HK1.out; omega⟩, ⟨bq⟩⟩
       ·replace c8 := Bool.eq_false_iff.mpr c8
        subst c8
        rw [if_neg (show ¬ (false = true) by decide)] at H
        try dsimp only at H
        obtain rfl := Option.some.inj H
        try go_wp2
        have n0_ := am (below_drew1 HB.out)
        clear HB
        have HB := n0_
        clear n0_
        have p244 : 0 ≤ (x5_1 : Int) := of_decide_eq_true aq
        have q244 : x5_1 < (l0.length : Int) := of_decide_eq_true aq
        obtain ⟨ad244, e244, hx244_0, hx244_1, hx244_2, hx244_3⟩ := at_T41 HR0.out x5_1 p244 q244
        have hw244_3 := hx244_3
        have hw244_2 := hx244_2
        have hw244_1 := hx244_1
        have hw244_0 := hx244_0
        cases e244
        replace hx244_0 := (HB.out.cell (World.block_lt_of_cell? w _ hx244_0)).trans hx244_0
        replace hx244_1 := (HB.out.cell (World.block_lt_of_cell? w _ hx244_1)).trans hx244_1
        replace hx244_2 := (HB.out.cell (World.block_lt_of_cell? w _ hx244_2)).trans hx244_2
        replace hx244_3 := (HB.out.cell (World.block_lt_of_cell? w _ hx244_3)).trans hx244_3
        replace p244 := eq_true p244
        replace q244 := eq_true q244
        have p245 : 0 ≤ (x5_1 : Int) := of_decide_eq_true aq
        have q245 : x5_1 < (l1.length : Int) := of_decide_eq_true aq
        obtain ⟨ad245, e245, hx245_0, hx245_1, hx245_2, hx245_3⟩ := at_T41 HR1.out x5_1 p245 q245
        have hw245_3 := hx245_3
        have hw245_2 := hx245_2
        have hw245_1 := hx245_1
        have hw245_0 := hx245_0
        cases e245
        replace hx245_0 := (HB.out.cell (World.block_lt_of_cell? w _ hx245_0)).trans hx245_0
        replace hx245_1 := (HB.out.cell (World.block_lt_of_cell? w _ hx245_1)).trans hx245_1
        replace hx245_2 := (HB.out.cell (World.block_lt_of_cell? w _ hx245_2)).trans hx245_2
        replace hx245_3 := (HB.out.cell (World.block_lt_of_cell? w _ hx245_3)).trans hx245_3
        replace p245 := eq_true p245
        replace q245 := eq_true q245
        refine start_ (n := 10) (S := fun w' => w'.cell? (ad244.add ((x5_1).toNat * 4)) = some (.int .i64 ((rd_T41 l0 x5_1).f0)) ∧ w'.cell? ⟨(ad244.add ((x5_1).toNat * 4)).block, (ad244.add ((x5_1).toNat * 4)).off + 1, none⟩ = some (.int .i64 ((rd_T41 l0 x5_1).f1)) ∧ w'.cell? ⟨(ad244.add ((x5_1).toNat * 4)).block, (ad244.add ((x5_1).toNat * 4)).off + 2, none⟩ = some (.int .i64 ((rd_T41 l0 x5_1).f2)) ∧ w'.cell? ⟨(ad244.add ((x5_1).toNat * 4)).block, (ad244.add ((x5_1).toNat * 4)).off + 3, none⟩ = some (.int .i64 ((rd_T41 l0 x5_1).f3)) ∧ w'.cell? (ad245.add ((x5_1).toNat * 4)) = some (.int .i64 ((rd_T41 l1 x5_1).f0)) ∧ w'.cell? ⟨(ad245.add ((x5_1).toNat * 4)).block, (ad245.add ((x5_1).toNat * 4)).off + 1, none⟩ = some (.int .i64 ((rd_T41 l1 x5_1).f1)) ∧ w'.cell? ⟨(ad245.add ((x5_1).toNat * 4)).block, (ad245.add ((x5_1).toNat * 4)).off + 2, none⟩ = some (.int .i64 ((rd_T41 l1 x5_1).f2)) ∧ w'.cell? ⟨(ad245.add ((x5_1).toNat * 4)).block, (ad245.add ((x5_1).toNat * 4)).off + 3, none⟩ = some (.int .i64 ((rd_T41 l1 x5_1).f3))) (ds := []) #[false, false, false, false, false, false, false, false, false, false] (by kernel_rfl) rfl rfl ⟨((HB.out.cell (World.block_lt_of_cell? w _ hw244_0)).trans hw244_0), ((HB.out.cell (World.block_lt_of_cell? w _ hw244_1)).trans hw244_1), ((HB.out.cell (World.block_lt_of_cell? w _ hw244_2)).trans hw244_2), ((HB.out.cell (World.block_lt_of_cell? w _ hw244_3)).trans hw244_3), ((HB.out.cell (World.block_lt_of_cell? w _ hw245_0)).trans hw245_0), ((HB.out.cell (World.block_lt_of_cell? w _ hw245_1)).trans hw245_1), ((HB.out.cell (World.block_lt_of_cell? w _ hw245_2)).trans hw245_2), ((HB.out.cell (World.block_lt_of_cell? w _ hw245_3)).trans hw245_3)⟩ (fun hHeld => ?_); refine with_tabW laws_eqLoanS.tab6 laws_eqLoanS.bits6 (fun HT_ HW_ => ?_)
        generalize wr.drew = w11 at HB hx244_0 hx244_1 hx244_2 hx244_3 hx245_0 hx245_1 hx245_2 hx245_3 hHeld ⊢
        refine pure_ (i := 0) (N := some 17) (v := ?_) (a' := ?_) #[true, false, false, false, false, false, false, false, false, false] rfl rfl (any_of HT_.out (by kernel_rfl)) (fun _ _ _ h => h) (Or.inl ⟨by rfl, ?_⟩) ?_ ?_
        rotate_left
        ·intro w'
         go_simp
         with_reducible rfl
        rotate_left
        ·simp only [Act.put, List.setIfInBounds_toArray, List.set_cons_zero, List.set_cons_succ, i64_w, i32_w]
         rfl
        refine pure_ (i := 1) (N := some 18) (v := ?_) (a' := ?_) #[true, true, false, false, false, false, false, false, false, false] rfl rfl (any_of HT_.out (by kernel_rfl)) (fun _ _ _ h => h) (Or.inl ⟨by rfl, ?_⟩) ?_ ?_
        rotate_left
        ·intro w'
         go_simp
         with_reducible rfl
        rotate_left
        ·simp only [Act.put, List.setIfInBounds_toArray, List.set_cons_zero, List.set_cons_succ, i64_w, i32_w]
         rfl
        refine pure_ (i := 2) (N := some 19) (v := ?_) (a' := ?_) #[true, true, true, false, false, false, false, false, false, false] rfl rfl (any_of HT_.out (by kernel_rfl)) (fun _ _ _ h => h) (Or.inl ⟨by rfl, ?_⟩) ?_ ?_
        rotate_left
        ·intro w'
         go_simp
         with_reducible rfl
        rotate_left
        ·simp only [Act.put, List.setIfInBounds_toArray, List.set_cons_zero, List.set_cons_succ, i64_w, i32_w]
         rfl
        refine pure_ (i := 4) (N := some 21) (v := ?_) (a' := ?_) #[true, true, true, false, true, false, false, false, false, false] rfl rfl (any_of HT_.out (by kernel_rfl)) (fun _ _ _ h => h) (Or.inl ⟨by rfl, ?_⟩) ?_ ?_
        rotate_left
        ·intro w'
         go_simp
         with_reducible rfl
        rotate_left
        ·simp only [Act.put, List.setIfInBounds_toArray, List.set_cons_zero, List.set_cons_succ, i64_w, i32_w]
         rfl
        refine pure_ (i := 5) (N := some 22) (v := ?_) (a' := ?_) #[true, true, true, false, true, true, false, false, false, false] rfl rfl (any_of HT_.out (by kernel_rfl)) (fun _ _ _ h => h) (Or.inl ⟨by rfl, ?_⟩) ?_ ?_
        rotate_left
        ·intro w'
         go_simp
         with_reducible rfl
        rotate_left
        ·simp only [Act.put, List.setIfInBounds_toArray, List.set_cons_zero, List.set_cons_succ, i64_w, i32_w]
         rfl
        refine pure_ (i := 6) (N := some 23) (v := ?_) (a' := ?_) #[true, true, true, false, true, true, true, false, false, false] rfl rfl (any_of HT_.out (by kernel_rfl)) (fun _ _ _ h => h) (Or.inl ⟨by rfl, ?_⟩) ?_ ?_
        rotate_left
        ·intro w'
         go_simp
         with_reducible rfl
        rotate_left
        ·simp only [Act.put, List.setIfInBounds_toArray, List.set_cons_zero, List.set_cons_succ, i64_w, i32_w]
         rfl
        refine take_ (i := 3) (N := some 20) (v := ?_) (a' := ?_) #[true, true, true, true, true, true, true, false, false, false] rfl rfl (take_ofW HT_.out HW_.out (by kernel_rfl)) (fun _ _ _ h => h) (Or.inl ⟨by rfl, ?_⟩) hHeld ?_ ?_
        rotate_left
        ·rintro w' ⟨s0, s1, s2, s3, s4, s5, s6, s7⟩
         go_simp
         with_reducible rfl
        rotate_left
        ·simp only [Act.put, List.setIfInBounds_toArray, List.set_cons_zero, List.set_cons_succ, i64_w, i32_w]
         rfl
        refine take_ (i := 7) (N := some 24) (v := ?_) (a' := ?_) #[true, true, true, true, true, true, true, true, false, false] rfl rfl (take_ofW HT_.out HW_.out (by kernel_rfl)) (fun _ _ _ h => h) (Or.inl ⟨by rfl, ?_⟩) hHeld ?_ ?_
        rotate_left
        ·rintro w' ⟨s0, s1, s2, s3, s4, s5, s6, s7⟩
         go_simp
         with_reducible rfl
        rotate_left
        ·simp only [Act.put, List.setIfInBounds_toArray, List.set_cons_zero, List.set_cons_succ, i64_w, i32_w]
         rfl
        refine one_ (i := 8) (N := some 25) #[true, true, true, true, true, true, true, true, true, false] rfl rfl (one_of HT_.out (by kernel_rfl)) (by decide) (fun K hK => ?_)
        refine goes_ Try.func52 (by kernel_rfl) rfl #[.agg #[.int .i64 ((rd_T41 l0 x5_1).f0), .int .i64 ((rd_T41 l0 x5_1).f1), .int .i64 ((rd_T41 l0 x5_1).f2), .int .i64 ((rd_T41 l0 x5_1).f3)], .agg #[.int .i64 ((rd_T41 l1 x5_1).f0), .int .i64 ((rd_T41 l1 x5_1).f1), .int .i64 ((rd_T41 l1 x5_1).f2), .int .i64 ((rd_T41 l1 x5_1).f3)]] (by rfl) rfl rfl mq ?_
        with_reducible refine (laws_eqLoan.calls ((rd_T41 l0 x5_1).f0) ((rd_T41 l0 x5_1).f1) ((rd_T41 l0 x5_1).f2) ((rd_T41 l0 x5_1).f3) ((rd_T41 l1 x5_1).f0) ((rd_T41 l1 x5_1).f1) ((rd_T41 l1 x5_1).f2) ((rd_T41 l1 x5_1).f3) false _ A7.out).mono ?_
        rintro e w12 ⟨rfl, hb⟩
        refine ⟨_, rfl, ?_⟩
        have n0_ := sb hb
        clear HB
        have HB := n0_
        clear n0_
        (try clear hb)
        refine hK.out _ _ ⟨((HB.out.cell (World.block_lt_of_cell? w _ hw244_0)).trans hw244_0), ((HB.out.cell (World.block_lt_of_cell? w _ hw244_1)).trans hw244_1), ((HB.out.cell (World.block_lt_of_cell? w _ hw244_2)).trans hw244_2), ((HB.out.cell (World.block_lt_of_cell? w _ hw244_3)).trans hw244_3), ((HB.out.cell (World.block_lt_of_cell? w _ hw245_0)).trans hw245_0), ((HB.out.cell (World.block_lt_of_cell? w _ hw245_1)).trans hw245_1), ((HB.out.cell (World.block_lt_of_cell? w _ hw245_2)).trans hw245_2), ((HB.out.cell (World.block_lt_of_cell? w _ hw245_3)).trans hw245_3)⟩ (fun hHeld => ?_)
        clear hK K
        refine norm_ (a' := ?_) ?_ ?_
        rotate_left
        ·show Act.put _ (some 25) _ = _
         simp only [Act.put, List.setIfInBounds_toArray, List.set_cons_zero, List.set_cons_succ, i64_w, i32_w]
         rfl
        refine pure_ (i := 9) (N := some 26) (v := ?_) (a' := ?_) #[true, true, true, true, true, true, true, true, true, true] rfl rfl (any_of HT_.out (by kernel_rfl)) (fun _ _ _ h => h) (Or.inl ⟨by rfl, ?_⟩) ?_ ?_
        rotate_left
        ·intro w'
         go_simp
         with_reducible rfl
        rotate_left
        ·simp only [Act.put, List.setIfInBounds_toArray, List.set_cons_zero, List.set_cons_succ, i64_w, i32_w]
         rfl
        refine done_ (done_of HT_.out (by kernel_rfl)) ?_
        try go_wp2
        go_ret
        exact ⟨eq_, bq⟩
      ·rw [if_neg c6] at H
       exact absurd H (by simp)
     ·rw [if_neg c5] at H
      exact absurd H (by simp)
    ·rw [if_neg c4] at H
     have c4b0 : decide (x5_1 < (l0.length : Int)) = false := decide_eq_false c4
     clear c4
     obtain rfl := Option.some.inj H
     go_wp2
     go_ret
     exact ⟨eq_, bq⟩
 ·rw [if_neg c3] at H
  have c3b0 : ((l0.length : Int) == (l1.length : Int)) = false := beq_eq_false_iff_ne.mpr c3
  have c3b1 : ((l0.length : Int) != (l1.length : Int)) = true := bne_iff_ne.mpr c3
  have c3b2 : (l0.length == l1.length) = false := by first | simpa using c3 | (simp at c3 ⊢; omega)
  obtain rfl := Option.some.inj H
  go_enter Try.func30, Try.ntmps30
  go_wp2
  go_ret
  exact ⟨eq_, bq⟩


/-! ### laws_eqShop: function 11 -/
def laws_eqShop.f (k : Nat) (l0_0 : List Int) (l0_1 : List (S41)) (l1_0 : List Int) (l1_1 : List (S41)) : Option (Bool) := (laws_eqIntS.f k l0_0 l1_0).bind fun t249 => (if t249 = true then ((laws_eqLoanS.f k l0_1 l1_1).bind fun t250 => (if t250 = true then (some true) else (some false))) else (some false))
theorem laws_eqShop.mono : ∀ a0 a1 a2 a3 k, LeO (laws_eqShop.f k a0 a1 a2 a3) (laws_eqShop.f (k + 1) a0 a1 a2 a3) := by
 intro a0 a1 a2 a3 k
 unfold laws_eqShop.f
 repeat' first
   | (with_reducible exact laws_eqIntS.mono _ _ _)
   | (with_reducible exact laws_eqLoanS.mono _ _ _)
   | (with_reducible exact LeO.refl _)
   | (with_reducible exact LeO.none _)
   | (with_reducible refine LeO.ite ?_ ?_)
   | (with_reducible refine LeO.bind ?_ (fun _ => ?_))
   | exact laws_eqIntS.mono _ _ _
   | exact laws_eqLoanS.mono _ _ _
   | exact LeO.none _
   | refine LeO.ite ?_ ?_
   | refine LeO.bind ?_ (fun _ => ?_)
set_option maxHeartbeats 8000000 in
set_option maxRecDepth 100000 in
theorem laws_eqShop.calls (k : Nat) (A0_0 : Option Addr) (c0_0 : Nat) (l0_0 : List Int) (A0_1 : Option Addr) (c0_1 : Nat) (l0_1 : List (S41)) (A1_0 : Option Addr) (c1_0 : Nat) (l1_0 : List Int) (A1_1 : Option Addr) (c1_1 : Nat) (l1_1 : List (S41)) (r : Bool) (w : World) (hr0_0 : Kd.C (Kd.int .i64) w A0_0 l0_0.length l0_0) (hc0_0 : l0_0.length ≤ c0_0) (hr0_1 : Kd.C k41 w A0_1 l0_1.length l0_1) (hc0_1 : l0_1.length ≤ c0_1) (hr1_0 : Kd.C (Kd.int .i64) w A1_0 l1_0.length l1_0) (hc1_0 : l1_0.length ≤ c1_0) (hr1_1 : Kd.C k41 w A1_1 l1_1.length l1_1) (hc1_1 : l1_1.length ≤ c1_1) (h : laws_eqShop.f k l0_0 l0_1 l1_0 l1_1 = some r) :
  Calls Try.prog 11 #[.agg #[.slice A0_0 l0_0.length c0_0, .slice A0_1 l0_1.length c0_1], .agg #[.slice A1_0 l1_0.length c1_0, .slice A1_1 l1_1.length c1_1]] w fun e w' => e = .returned (.bool r) ∧ Below w.heap.size w w' := by
 have hu29 := Try.underlying29
 have HR0_0 := am hr0_0
 have HC0_0 := am hc0_0
 clear hr0_0 hc0_0
 have HR0_1 := am hr0_1
 have HC0_1 := am hc0_1
 clear hr0_1 hc0_1
 have HR1_0 := am hr1_0
 have HC1_0 := am hc1_0
 clear hr1_0 hc1_0
 have HR1_1 := am hr1_1
 have HC1_1 := am hc1_1
 clear hr1_1 hc1_1
 have HB := am (Below.refl w.heap.size w)
 have H : ((laws_eqIntS.f k l0_0 l1_0).bind fun t249 => (if t249 = true then ((laws_eqLoanS.f k l0_1 l1_1).bind fun t250 => (if t250 = true then (some true) else (some false))) else (some false))) = some r := h
 clear h
 obtain ⟨t249, A3, H⟩ := bindq H
 try dsimp only at H
 by_cases c4 : t249 = true
 ·subst c4
  rw [if_pos rfl] at H
  try dsimp only at H
  obtain ⟨t250, A5, H⟩ := bindq H
  try dsimp only at H
  by_cases c6 : t250 = true
  ·subst c6
   rw [if_pos rfl] at H
   try dsimp only at H
   obtain rfl := Option.some.inj H
   go_enter Try.func11, Try.ntmps11
   go_wp2_with (first | ((with_reducible refine gate_dst (N := 2) rfl ?_); refine box_event ?hg (N := 2) ?hd (cs := #[.slice A0_0 l0_0.length c0_0, .slice A0_1 l0_1.length c0_1]) (t := 29) ?hr ?_; (case hd => rfl); (case hg => rfl); (case hr => first | (go_simp; done) | (go_simp; rfl)); intro gb247 hg w7 hbox hb; have BK247 := am (hbox); have GW247 := am (gq hg); have GE247 := am (gq hg); replace HB := sb hb; clear hb hbox hg) | ((with_reducible refine gate_dst (N := 3) rfl ?_); refine box_event ?hg (N := 3) ?hd (cs := #[.slice A1_0 l1_0.length c1_0, .slice A1_1 l1_1.length c1_1]) (t := 29) ?hr ?_; (case hd => rfl); (case hg => rfl); (case hr => first | (go_simp; done) | (go_simp; rfl)); intro gb248 hg w8 hbox hb; have BK248 := am (hbox); have GW248 := am (gq hg); have GE248 := am (gq hg); replace HB := sb hb; have NB247_248 := nl hg BK247; have NB248_247 := ng hg BK247; replace BK247 := zb BK247 hb; clear hb hbox hg; have hnb9 := NB247_248.out; have hnc9 := NB248_247.out; have ⟨hcz10_0, hcz10_1, hfz10_0, hfz10_1⟩ := bc2 BK247; have ⟨hcz11_0, hcz11_1, hfz11_0, hfz11_1⟩ := bc2 BK248) | ((with_reducible refine gate_callee (f := 29) rfl ?_); refine goesQ (some 9) Try.func29 #[.slice A0_0 l0_0.length c0_0, .slice A1_0 l1_0.length c1_0] ?_; (with_reducible refine (laws_eqIntS.calls k _ _ l0_0 _ _ l1_0 true _ ?s1 ?s2 ?s3 ?s4 A3.out).mono ?_); (case s1 => exact cq (Kd.C_below HR0_0.out HB.out)); (case s2 => exact HC0_0.out); (case s3 => exact cq (Kd.C_below HR1_0.out HB.out)); (case s4 => exact HC1_0.out); rintro e w' ⟨rfl, ⟨nd, rfl⟩⟩; refine ⟨_, rfl, ?_⟩) | ((with_reducible refine gate_callee (f := 30) rfl ?_); refine goesQ (some 15) Try.func30 #[.slice A0_1 l0_1.length c0_1, .slice A1_1 l1_1.length c1_1] ?_; (with_reducible refine (laws_eqLoanS.calls k _ _ l0_1 _ _ l1_1 true _ ?s1 ?s2 ?s3 ?s4 A5.out).mono ?_); (case s1 => exact cq (Kd.C_below HR0_1.out bq)); (case s2 => exact HC0_1.out); (case s3 => exact cq (Kd.C_below HR1_1.out bq)); (case s4 => exact HC1_1.out); rintro e w12 ⟨rfl, hb⟩; refine ⟨_, rfl, ?_⟩; replace BK247 := zb BK247 hb; replace BK248 := zb BK248 hb; replace HB := sb hb; (try clear hb)))
   go_ret
   exact ⟨eq_, bq⟩
  ·replace c6 := Bool.eq_false_iff.mpr c6
   subst c6
   rw [if_neg (show ¬ (false = true) by decide)] at H
   try dsimp only at H
   obtain rfl := Option.some.inj H
   go_enter Try.func11, Try.ntmps11
   go_wp2_with (first | ((with_reducible refine gate_dst (N := 2) rfl ?_); refine box_event ?hg (N := 2) ?hd (cs := #[.slice A0_0 l0_0.length c0_0, .slice A0_1 l0_1.length c0_1]) (t := 29) ?hr ?_; (case hd => rfl); (case hg => rfl); (case hr => first | (go_simp; done) | (go_simp; rfl)); intro gb247 hg w13 hbox hb; have BK247 := am (hbox); have GW247 := am (gq hg); have GE247 := am (gq hg); replace HB := sb hb; clear hb hbox hg) | ((with_reducible refine gate_dst (N := 3) rfl ?_); refine box_event ?hg (N := 3) ?hd (cs := #[.slice A1_0 l1_0.length c1_0, .slice A1_1 l1_1.length c1_1]) (t := 29) ?hr ?_; (case hd => rfl); (case hg => rfl); (case hr => first | (go_simp; done) | (go_simp; rfl)); intro gb248 hg w14 hbox hb; have BK248 := am (hbox); have GW248 := am (gq hg); have GE248 := am (gq hg); replace HB := sb hb; have NB247_248 := nl hg BK247; have NB248_247 := ng hg BK247; replace BK247 := zb BK247 hb; clear hb hbox hg; have hnb15 := NB247_248.out; have hnc15 := NB248_247.out; have ⟨hcz16_0, hcz16_1, hfz16_0, hfz16_1⟩ := bc2 BK247; have ⟨hcz17_0, hcz17_1, hfz17_0, hfz17_1⟩ := bc2 BK248) | ((with_reducible refine gate_callee (f := 29) rfl ?_); refine goesQ (some 9) Try.func29 #[.slice A0_0 l0_0.length c0_0, .slice A1_0 l1_0.length c1_0] ?_; (with_reducible refine (laws_eqIntS.calls k _ _ l0_0 _ _ l1_0 true _ ?s1 ?s2 ?s3 ?s4 A3.out).mono ?_); (case s1 => exact cq (Kd.C_below HR0_0.out HB.out)); (case s2 => exact HC0_0.out); (case s3 => exact cq (Kd.C_below HR1_0.out HB.out)); (case s4 => exact HC1_0.out); rintro e w' ⟨rfl, ⟨nd, rfl⟩⟩; refine ⟨_, rfl, ?_⟩) | ((with_reducible refine gate_callee (f := 30) rfl ?_); refine goesQ (some 15) Try.func30 #[.slice A0_1 l0_1.length c0_1, .slice A1_1 l1_1.length c1_1] ?_; (with_reducible refine (laws_eqLoanS.calls k _ _ l0_1 _ _ l1_1 false _ ?s1 ?s2 ?s3 ?s4 A5.out).mono ?_); (case s1 => exact cq (Kd.C_below HR0_1.out bq)); (case s2 => exact HC0_1.out); (case s3 => exact cq (Kd.C_below HR1_1.out bq)); (case s4 => exact HC1_1.out); rintro e w18 ⟨rfl, hb⟩; refine ⟨_, rfl, ?_⟩; replace BK247 := zb BK247 hb; replace BK248 := zb BK248 hb; replace HB := sb hb; (try clear hb)))
   go_ret
   exact ⟨eq_, bq⟩
 ·replace c4 := Bool.eq_false_iff.mpr c4
  subst c4
  rw [if_neg (show ¬ (false = true) by decide)] at H
  try dsimp only at H
  obtain rfl := Option.some.inj H
  go_enter Try.func11, Try.ntmps11
  go_wp2_with (first | ((with_reducible refine gate_dst (N := 2) rfl ?_); refine box_event ?hg (N := 2) ?hd (cs := #[.slice A0_0 l0_0.length c0_0, .slice A0_1 l0_1.length c0_1]) (t := 29) ?hr ?_; (case hd => rfl); (case hg => rfl); (case hr => first | (go_simp; done) | (go_simp; rfl)); intro gb247 hg w19 hbox hb; have BK247 := am (hbox); have GW247 := am (gq hg); have GE247 := am (gq hg); replace HB := sb hb; clear hb hbox hg) | ((with_reducible refine gate_dst (N := 3) rfl ?_); refine box_event ?hg (N := 3) ?hd (cs := #[.slice A1_0 l1_0.length c1_0, .slice A1_1 l1_1.length c1_1]) (t := 29) ?hr ?_; (case hd => rfl); (case hg => rfl); (case hr => first | (go_simp; done) | (go_simp; rfl)); intro gb248 hg w20 hbox hb; have BK248 := am (hbox); have GW248 := am (gq hg); have GE248 := am (gq hg); replace HB := sb hb; have NB247_248 := nl hg BK247; have NB248_247 := ng hg BK247; replace BK247 := zb BK247 hb; clear hb hbox hg; have hnb21 := NB247_248.out; have hnc21 := NB248_247.out; have ⟨hcz22_0, hcz22_1, hfz22_0, hfz22_1⟩ := bc2 BK247; have ⟨hcz23_0, hcz23_1, hfz23_0, hfz23_1⟩ := bc2 BK248) | ((with_reducible refine gate_callee (f := 29) rfl ?_); refine goesQ (some 9) Try.func29 #[.slice A0_0 l0_0.length c0_0, .slice A1_0 l1_0.length c1_0] ?_; (with_reducible refine (laws_eqIntS.calls k _ _ l0_0 _ _ l1_0 false _ ?s1 ?s2 ?s3 ?s4 A3.out).mono ?_); (case s1 => exact cq (Kd.C_below HR0_0.out HB.out)); (case s2 => exact HC0_0.out); (case s3 => exact cq (Kd.C_below HR1_0.out HB.out)); (case s4 => exact HC1_0.out); rintro e w' ⟨rfl, ⟨nd, rfl⟩⟩; refine ⟨_, rfl, ?_⟩))
  go_ret
  exact ⟨eq_, bq⟩


/-! ### laws_markIntS: function 31 -/
def laws_markIntS.l0 : Nat → List Int → Int → Int → Option (Int × List Int)
 | 0, _, _, _ => none
 | k + 1, x0, x1, x5 => if x5 < (x0.length : Int) then (if 0 ≤ x5 then (laws_markIntS.l0 k (x0.set (x5 : Int).toNat x1) (wrap64 (x1 + 1)) (wrap64 (x5 + 1))) else (none)) else (some (x1, x0))
def laws_markIntS.f (k : Nat) (l0 : List Int) (a1 : Int) : Option (Int × List Int) := laws_markIntS.l0 k l0 a1 0
theorem laws_markIntS.mono_l : ∀ k, (∀ y0 y1 y2, LeO (laws_markIntS.l0 k y0 y1 y2) (laws_markIntS.l0 (k + 1) y0 y1 y2))
 | 0 => fun _ _ _ r h => by simp [laws_markIntS.l0] at h
 | k + 1 => by
  have ih0 := laws_markIntS.mono_l k
  ·intro y0 y1 y2
   unfold laws_markIntS.l0
   repeat' first
   | (with_reducible exact ih0 _ _ _)
   | (with_reducible exact LeO.refl _)
   | (with_reducible exact LeO.none _)
   | (with_reducible refine LeO.ite ?_ ?_)
   | (with_reducible refine LeO.bind ?_ (fun _ => ?_))
   | exact ih0 _ _ _
   | exact LeO.none _
   | refine LeO.ite ?_ ?_
   | refine LeO.bind ?_ (fun _ => ?_)
theorem laws_markIntS.mono : ∀ a0 a1 k, LeO (laws_markIntS.f k a0 a1) (laws_markIntS.f (k + 1) a0 a1) := by
 intro a0 a1 k
 have ih0 := laws_markIntS.mono_l k
 unfold laws_markIntS.f
 repeat' first
   | (with_reducible exact ih0 _ _ _)
   | (with_reducible exact LeO.refl _)
   | (with_reducible exact LeO.none _)
   | (with_reducible refine LeO.ite ?_ ?_)
   | (with_reducible refine LeO.bind ?_ (fun _ => ?_))
   | exact ih0 _ _ _
   | exact LeO.none _
   | refine LeO.ite ?_ ?_
   | refine LeO.bind ?_ (fun _ => ?_)
set_option maxHeartbeats 8000000 in
set_option maxRecDepth 100000 in
theorem laws_markIntS.calls (k : Nat) (P0_ : Nat → Prop) (u9000_ : Value) (l0 : List Int) (a1 : Int) (r1 : Int) (r2 : List Int) (w0 w : World) (hB : Below w0.heap.size w0 w) (ho0 : Kd.R (Kd.int .i64) 3 w w0.heap.size P0_ u9000_ l0) (h : laws_markIntS.f k l0 a1 = some (r1, r2)) :
  Calls Try.prog 31 #[u9000_, .int .i64 a1] w fun e w' => e = .returned (.int .i64 r1) ∧ Kd.R (Kd.int .i64) 3 w' w0.heap.size (fun k_ => (P0_ k_ ∨ w.heap.size ≤ k_)) u9000_ r2 ∧ Below w0.heap.size w0 w' ∧ Kept w w' (fun k_ => P0_ k_) := by
 have HO0 := am (show Kd.R (Kd.int .i64) 3 w w0.heap.size (fun k_ => (P0_ k_ ∨ w.heap.size ≤ k_)) u9000_ l0 from Kd.R_mono ho0 (fun k_ hk => (.inl hk)))
 have HK := am (Kept.refl w (fun k_ => P0_ k_))
 have HW0 := am hB.size
 have HB := am hB
 clear hB
 have H : (laws_markIntS.l0 k l0 a1 0) = some (r1, r2) := h
 clear h
 have H' := am H
 clear H
 go_enter Try.func31, Try.ntmps31
 go_wp2
 go_loopg [1, 5] k (fun kq v1 v5 w' => ∃ (x0_1 : List Int) (x1_1 : Int) (x5_1 : Int), v1 = .int .i64 x1_1 ∧ v5 = .int .i64 x5_1 ∧ Aside0 (laws_markIntS.l0 kq x0_1 x1_1 x5_1 = some (r1, r2)) ∧ Aside0 (kq ≤ k) ∧ Aside0 (Kd.R (Kd.int .i64) 3 w' w0.heap.size (fun k_ => (P0_ k_ ∨ w.heap.size ≤ k_)) u9000_ x0_1) ∧ Aside0 (Kept w w' (fun k_ => P0_ k_)) ∧ Aside0 (Below w0.heap.size w0 w'))
 case atStart => exact ⟨(l0), (a1), (0), sq, sq, H', ⟨Nat.le_refl _⟩, ⟨rq HO0⟩, ⟨hkq⟩, ⟨bq⟩⟩
 case round =>
  clear H'
  obtain ⟨x0_1, x1_1, x5_1, rfl, rfl, HA, HK1, HO_0, HK, HB⟩ := hrel
  cases gk with
  | zero => exact absurd HA.out (by simp [laws_markIntS.l0])
  | succ k1 =>
   have H := HA.out
   clear HA
   simp only [laws_markIntS.l0] at H
   by_cases c3 : x5_1 < (x0_1.length : Int)
   ·rw [if_pos c3] at H
    have c3b0 : decide (x5_1 < (x0_1.length : Int)) = true := decide_eq_true c3
    clear c3
    by_cases c4 : 0 ≤ x5_1
    ·rw [if_pos c4] at H
     have c4b0 : decide (0 ≤ x5_1) = true := decide_eq_true c4
     clear c4
     obtain ⟨y251, hy251⟩ : ∃ y_ : List Int, y_ = (x0_1.set (x5_1 : Int).toNat x1_1) := ⟨_, rfl⟩
     replace H : (laws_markIntS.l0 k1 y251 (wrap64 (x1_1 + 1)) (wrap64 (x5_1 + 1))) = some (r1, r2) := by first | (rw [hy251]; with_reducible exact H) | (have H2_ := (Option.bind_some _ _).symm.trans H; rw [hy251]; with_reducible exact H2_) | (have H2_ := (Option.bind_some _ _).symm.trans H; with_reducible exact H2_) | with_reducible exact H | (rw [hy251]; exact H) | exact H
     have Ny251 := am hy251
     clear hy251
     have H' := am H
     clear H
     obtain ⟨Ao6, co6, eo6⟩ := Kd.R_slice HO_0.out
     subst eo6
     have p5 : 0 ≤ (x5_1 : Int) := of_decide_eq_true aq
     have q5 : (x5_1 : Int) < ((x0_1.length : Int) : Int) := of_decide_eq_true aq
     obtain ⟨go5, co5, eo5, gb5, gl5, cl5, HG5⟩ := Kd.R_form HO_0.out (by omega)
     (first | cases eo5 | (injection eo5 with ea_ en_ ec_; (first | subst ea_ | (injection ea_ with ea_; subst ea_)); subst ec_; clear en_))
     have GB5 := am gb5
     have GG5 := am HG5
     clear gb5 gl5 HG5
     have HMgo5 := am (show (P0_ go5 ∨ w.heap.size ≤ go5) from (HO_0.out.1 _ rfl))
     obtain ⟨hx5_0, hf5_0⟩ := Kd.R_celln 0 HO_0.out (x5_1 : Int) p5 q5
     replace p5 := eq_true p5
     replace q5 := eq_true q5
     have HP7 := Kd.R_putg HO_0.out (x5_1 : Int) x1_1
     go_wp2_with (first | ((with_reducible refine gate_store (t := 3) (p := 15) rfl ?_); refine store_event (t := 3) (p := 15) (v := ?vo_w8) (w1 := (wr.setCell ⟨go5, (x5_1 : Int).toNat, none⟩ (.int .i64 x1_1))) ?hg ?ho ?hn ?hr ?_; (case ho => rfl); (case hg => rfl); (case hn => rfl); (case hr => first | (go_simp; done) | (go_simp; rfl)); intro w8 hw; have hg : wr.grownBy w8 (some go5) := (by rw [hw]; exact HP7.2); have hp_ : Kd.R (Kd.int .i64) 3 w8 w0.heap.size (fun k_ => (P0_ k_ ∨ w.heap.size ≤ k_)) (.slice (some ⟨go5, 0, none⟩) x0_1.length co6) y251 := (by rw [hw, Ny251.out]; exact HP7.1); clear HP7; replace HB := am ((by rw [hw]; exact below_set (HB.out) GB5.out : Below w0.heap.size w0 w8)); replace HK := am (Kept.of_grown (S := (fun k_ => P0_ k_)) hg hkq (fun k_ e_ => (HO_0.out.1 k_ e_))); replace HO_0 := am (hp_); clear hg hw hp_))
     go_roundg k1
     case measure => have := HK1.out; omega
     case rel => exact ⟨(y251), (wrap64 (x1_1 + 1)), (wrap64 (x5_1 + 1)), sq, sq, H', ⟨by have := HK1.out; omega⟩, ⟨rq HO_0⟩, ⟨hkq⟩, ⟨bq⟩⟩
    ·rw [if_neg c4] at H
     exact absurd H (by simp)
   ·rw [if_neg c3] at H
    have c3b0 : decide (x5_1 < (x0_1.length : Int)) = false := decide_eq_false c3
    clear c3
    simp only [Option.some.injEq, Prod.mk.injEq] at H
    obtain ⟨rfl, rfl⟩ := H
    obtain ⟨Ao9, co9, eo9⟩ := Kd.R_slice HO_0.out
    subst eo9
    go_wp2
    go_ret
    exact ⟨eq_, rq HO_0, bq, hkq⟩



/-! ### laws_markLoanS: function 32 -/
def laws_markLoanS.l0 : Nat → List (S41) → Int → Int → Option (Int × (List (S41)))
 | 0, _, _, _ => none
 | k + 1, x0, x1, x5 => if x5 < (x0.length : Int) then (if 0 ≤ x5 then ((some (x0.set (x5 : Int).toNat (⟨x1, (rd_T41 x0 x5).f1, (rd_T41 x0 x5).f2, (rd_T41 x0 x5).f3⟩ : S41) : List (S41))).bind fun y252 => ((some (y252.set (x5 : Int).toNat (⟨(rd_T41 y252 x5).f0, wrap64 (x1 + 1), (rd_T41 y252 x5).f2, (rd_T41 y252 x5).f3⟩ : S41) : List (S41))).bind fun y253 => ((some (y253.set (x5 : Int).toNat (⟨(rd_T41 y253 x5).f0, (rd_T41 y253 x5).f1, wrap64 ((wrap64 (x1 + 1)) + 1), (rd_T41 y253 x5).f3⟩ : S41) : List (S41))).bind fun y254 => (laws_markLoanS.l0 k (y254.set (x5 : Int).toNat (⟨(rd_T41 y254 x5).f0, (rd_T41 y254 x5).f1, (rd_T41 y254 x5).f2, wrap64 ((wrap64 ((wrap64 (x1 + 1)) + 1)) + 1)⟩ : S41)) (wrap64 ((wrap64 ((wrap64 ((wrap64 (x1 + 1)) + 1)) + 1)) + 1)) (wrap64 (x5 + 1)))))) else (none)) else (some (x1, x0))
def laws_markLoanS.f (k : Nat) (l0 : List (S41)) (a1 : Int) : Option (Int × (List (S41))) := laws_markLoanS.l0 k l0 a1 0
theorem laws_markLoanS.mono_l : ∀ k, (∀ y0 y1 y2, LeO (laws_markLoanS.l0 k y0 y1 y2) (laws_markLoanS.l0 (k + 1) y0 y1 y2))
 | 0 => fun _ _ _ r h => by simp [laws_markLoanS.l0] at h
 | k + 1 => by
  have ih0 := laws_markLoanS.mono_l k
  ·intro y0 y1 y2
   unfold laws_markLoanS.l0
   repeat' first
   | (with_reducible exact ih0 _ _ _)
   | (with_reducible exact LeO.refl _)
   | (with_reducible exact LeO.none _)
   | (with_reducible refine LeO.ite ?_ ?_)
   | (with_reducible refine LeO.bind ?_ (fun _ => ?_))
   | exact ih0 _ _ _
   | exact LeO.none _
   | refine LeO.ite ?_ ?_
   | refine LeO.bind ?_ (fun _ => ?_)
theorem laws_markLoanS.mono : ∀ a0 a1 k, LeO (laws_markLoanS.f k a0 a1) (laws_markLoanS.f (k + 1) a0 a1) := by
 intro a0 a1 k
 have ih0 := laws_markLoanS.mono_l k
 unfold laws_markLoanS.f
 repeat' first
   | (with_reducible exact ih0 _ _ _)
   | (with_reducible exact LeO.refl _)
   | (with_reducible exact LeO.none _)
   | (with_reducible refine LeO.ite ?_ ?_)
   | (with_reducible refine LeO.bind ?_ (fun _ => ?_))
   | exact ih0 _ _ _
   | exact LeO.none _
   | refine LeO.ite ?_ ?_
   | refine LeO.bind ?_ (fun _ => ?_)
set_option maxHeartbeats 8000000 in
set_option maxRecDepth 100000 in
theorem laws_markLoanS.calls (k : Nat) (P0_ : Nat → Prop) (u9000_ : Value) (l0 : List (S41)) (a1 : Int) (r1 : Int) (r2 : List (S41)) (w0 w : World) (hB : Below w0.heap.size w0 w) (ho0 : Kd.R k41 41 w w0.heap.size P0_ u9000_ l0) (h : laws_markLoanS.f k l0 a1 = some (r1, r2)) :
  Calls Try.prog 32 #[u9000_, .int .i64 a1] w fun e w' => e = .returned (.int .i64 r1) ∧ Kd.R k41 41 w' w0.heap.size (fun k_ => (P0_ k_ ∨ w.heap.size ≤ k_)) u9000_ r2 ∧ Below w0.heap.size w0 w' ∧ Kept w w' (fun k_ => P0_ k_) := by
 have HO0 := am (show Kd.R k41 41 w w0.heap.size (fun k_ => (P0_ k_ ∨ w.heap.size ≤ k_)) u9000_ l0 from Kd.R_mono ho0 (fun k_ hk => (.inl hk)))
 have HK := am (Kept.refl w (fun k_ => P0_ k_))
 have HW0 := am hB.size
 have HB := am hB
 clear hB
 have H : (laws_markLoanS.l0 k l0 a1 0) = some (r1, r2) := h
 clear h
 have H' := am H
 clear H
 go_enter Try.func32, Try.ntmps32
 go_wp2
 go_loopg [1, 5] k (fun kq v1 v5 w' => ∃ (x0_1 : List (S41)) (x1_1 : Int) (x5_1 : Int), v1 = .int .i64 x1_1 ∧ v5 = .int .i64 x5_1 ∧ Aside0 (laws_markLoanS.l0 kq x0_1 x1_1 x5_1 = some (r1, r2)) ∧ Aside0 (kq ≤ k) ∧ Aside0 (Kd.R k41 41 w' w0.heap.size (fun k_ => (P0_ k_ ∨ w.heap.size ≤ k_)) u9000_ x0_1) ∧ Aside0 (Kept w w' (fun k_ => P0_ k_)) ∧ Aside0 (Below w0.heap.size w0 w'))
 case atStart => exact ⟨(l0), (a1), (0), sq, sq, H', ⟨Nat.le_refl _⟩, ⟨rq HO0⟩, ⟨hkq⟩, ⟨bq⟩⟩
 case round =>
  clear H'
  obtain ⟨x0_1, x1_1, x5_1, rfl, rfl, HA, HK1, HO_0, HK, HB⟩ := hrel
  cases gk with
  | zero => exact absurd HA.out (by simp [laws_markLoanS.l0])
  | succ k1 =>
   have H := HA.out
   clear HA
   simp only [laws_markLoanS.l0] at H
   by_cases c3 : x5_1 < (x0_1.length : Int)
   ·rw [if_pos c3] at H
    have c3b0 : decide (x5_1 < (x0_1.length : Int)) = true := decide_eq_true c3
    clear c3
    by_cases c4 : 0 ≤ x5_1
    ·rw [if_pos c4] at H
     have c4b0 : decide (0 ≤ x5_1) = true := decide_eq_true c4
     clear c4
     obtain ⟨y252, hy252⟩ : ∃ y_ : List (S41), y_ = (x0_1.set (x5_1 : Int).toNat (⟨x1_1, (rd_T41 x0_1 x5_1).f1, (rd_T41 x0_1 x5_1).f2, (rd_T41 x0_1 x5_1).f3⟩ : S41)) := ⟨_, rfl⟩
     replace H : ((some (y252.set (x5_1 : Int).toNat (⟨(rd_T41 y252 x5_1).f0, wrap64 (x1_1 + 1), (rd_T41 y252 x5_1).f2, (rd_T41 y252 x5_1).f3⟩ : S41) : List (S41))).bind fun y253 => ((some (y253.set (x5_1 : Int).toNat (⟨(rd_T41 y253 x5_1).f0, (rd_T41 y253 x5_1).f1, wrap64 ((wrap64 (x1_1 + 1)) + 1), (rd_T41 y253 x5_1).f3⟩ : S41) : List (S41))).bind fun y254 => (laws_markLoanS.l0 k1 (y254.set (x5_1 : Int).toNat (⟨(rd_T41 y254 x5_1).f0, (rd_T41 y254 x5_1).f1, (rd_T41 y254 x5_1).f2, wrap64 ((wrap64 ((wrap64 (x1_1 + 1)) + 1)) + 1)⟩ : S41)) (wrap64 ((wrap64 ((wrap64 ((wrap64 (x1_1 + 1)) + 1)) + 1)) + 1)) (wrap64 (x5_1 + 1))))) = some (r1, r2) := by first | (rw [hy252]; with_reducible exact H) | (have H2_ := (Option.bind_some _ _).symm.trans H; rw [hy252]; with_reducible exact H2_) | (have H2_ := (Option.bind_some _ _).symm.trans H; with_reducible exact H2_) | with_reducible exact H | (rw [hy252]; exact H) | exact H
     have Ny252 := am hy252
     clear hy252
     obtain ⟨y253, hy253⟩ : ∃ y_ : List (S41), y_ = (y252.set (x5_1 : Int).toNat (⟨(rd_T41 y252 x5_1).f0, wrap64 (x1_1 + 1), (rd_T41 y252 x5_1).f2, (rd_T41 y252 x5_1).f3⟩ : S41)) := ⟨_, rfl⟩
     replace H : ((some (y253.set (x5_1 : Int).toNat (⟨(rd_T41 y253 x5_1).f0, (rd_T41 y253 x5_1).f1, wrap64 ((wrap64 (x1_1 + 1)) + 1), (rd_T41 y253 x5_1).f3⟩ : S41) : List (S41))).bind fun y254 => (laws_markLoanS.l0 k1 (y254.set (x5_1 : Int).toNat (⟨(rd_T41 y254 x5_1).f0, (rd_T41 y254 x5_1).f1, (rd_T41 y254 x5_1).f2, wrap64 ((wrap64 ((wrap64 (x1_1 + 1)) + 1)) + 1)⟩ : S41)) (wrap64 ((wrap64 ((wrap64 ((wrap64 (x1_1 + 1)) + 1)) + 1)) + 1)) (wrap64 (x5_1 + 1)))) = some (r1, r2) := by first | (rw [hy253]; with_reducible exact H) | (have H2_ := (Option.bind_some _ _).symm.trans H; rw [hy253]; with_reducible exact H2_) | (have H2_ := (Option.bind_some _ _).symm.trans H; with_reducible exact H2_) | with_reducible exact H | (rw [hy253]; exact H) | exact H
     have Ny253 := am hy253
     clear hy253
     obtain ⟨y254, hy254⟩ : ∃ y_ : List (S41), y_ = (y253.set (x5_1 : Int).toNat (⟨(rd_T41 y253 x5_1).f0, (rd_T41 y253 x5_1).f1, wrap64 ((wrap64 (x1_1 + 1)) + 1), (rd_T41 y253 x5_1).f3⟩ : S41)) := ⟨_, rfl⟩
     replace H : (laws_markLoanS.l0 k1 (y254.set (x5_1 : Int).toNat (⟨(rd_T41 y254 x5_1).f0, (rd_T41 y254 x5_1).f1, (rd_T41 y254 x5_1).f2, wrap64 ((wrap64 ((wrap64 (x1_1 + 1)) + 1)) + 1)⟩ : S41)) (wrap64 ((wrap64 ((wrap64 ((wrap64 (x1_1 + 1)) + 1)) + 1)) + 1)) (wrap64 (x5_1 + 1))) = some (r1, r2) := by first | (rw [hy254]; with_reducible exact H) | (have H2_ := (Option.bind_some _ _).symm.trans H; rw [hy254]; with_reducible exact H2_) | (have H2_ := (Option.bind_some _ _).symm.trans H; with_reducible exact H2_) | with_reducible exact H | (rw [hy254]; exact H) | exact H
     have Ny254 := am hy254
     clear hy254
     obtain ⟨y255, hy255⟩ : ∃ y_ : List (S41), y_ = (y254.set (x5_1 : Int).toNat (⟨(rd_T41 y254 x5_1).f0, (rd_T41 y254 x5_1).f1, (rd_T41 y254 x5_1).f2, wrap64 ((wrap64 ((wrap64 (x1_1 + 1)) + 1)) + 1)⟩ : S41)) := ⟨_, rfl⟩
     replace H : (laws_markLoanS.l0 k1 y255 (wrap64 ((wrap64 ((wrap64 ((wrap64 (x1_1 + 1)) + 1)) + 1)) + 1)) (wrap64 (x5_1 + 1))) = some (r1, r2) := by first | (rw [hy255]; with_reducible exact H) | (have H2_ := (Option.bind_some _ _).symm.trans H; rw [hy255]; with_reducible exact H2_) | (have H2_ := (Option.bind_some _ _).symm.trans H; with_reducible exact H2_) | with_reducible exact H | (rw [hy255]; exact H) | exact H
     have Ny255 := am hy255
     clear hy255
     have H' := am H
     clear H
     obtain ⟨Ao9, co9, eo9⟩ := Kd.R_slice HO_0.out
     subst eo9
     have p5 : 0 ≤ (x5_1 : Int) := of_decide_eq_true aq
     have q5 : (x5_1 : Int) < ((x0_1.length : Int) : Int) := of_decide_eq_true aq
     obtain ⟨go5, co5, eo5, gb5, gl5, cl5, HG5⟩ := Kd.R_form HO_0.out (by omega)
     (first | cases eo5 | (injection eo5 with ea_ en_ ec_; (first | subst ea_ | (injection ea_ with ea_; subst ea_)); subst ec_; clear en_))
     have GB5 := am gb5
     have GG5 := am HG5
     clear gb5 gl5 HG5
     have HMgo5 := am (show (P0_ go5 ∨ w.heap.size ≤ go5) from (HO_0.out.1 _ rfl))
     obtain ⟨ce5, hcl5, hM5, hcc5, hfr5⟩ := Kd.R_elem HO_0.out z41 (x5_1 : Int) p5 q5
     obtain rfl := k41_openM hM5
     have hx5_0 : wr.cell? ⟨go5, (x5_1 : Int).toNat * 4, none⟩ = some (.int .i64 ((rd_T41 x0_1 x5_1).f0)) := hcc5 0 _ rfl
     have hx5_1 : wr.cell? ⟨go5, (x5_1 : Int).toNat * 4 + 1, none⟩ = some (.int .i64 ((rd_T41 x0_1 x5_1).f1)) := hcc5 1 _ rfl
     have hx5_2 : wr.cell? ⟨go5, (x5_1 : Int).toNat * 4 + 2, none⟩ = some (.int .i64 ((rd_T41 x0_1 x5_1).f2)) := hcc5 2 _ rfl
     have hx5_3 : wr.cell? ⟨go5, (x5_1 : Int).toNat * 4 + 3, none⟩ = some (.int .i64 ((rd_T41 x0_1 x5_1).f3)) := hcc5 3 _ rfl
     have hf5_0 : wr.frozen? ⟨go5, (x5_1 : Int).toNat * 4, none⟩ = false := hfr5 0
     have hf5_1 : wr.frozen? ⟨go5, (x5_1 : Int).toNat * 4 + 1, none⟩ = false := hfr5 1
     have hf5_2 : wr.frozen? ⟨go5, (x5_1 : Int).toNat * 4 + 2, none⟩ = false := hfr5 2
     have hf5_3 : wr.frozen? ⟨go5, (x5_1 : Int).toNat * 4 + 3, none⟩ = false := hfr5 3
     clear hcl5 hcc5 hfr5 hM5
     replace p5 := eq_true p5
     replace q5 := eq_true q5
     have HX10 := am (show Kd.R k41 41 wr w0.heap.size (fun k_ => (P0_ k_ ∨ w.heap.size ≤ k_)) (.slice (some ⟨go5, 0, none⟩) x0_1.length co9) x0_1 from (rq HO_0))
     obtain ⟨ce10, hcl10, hM10, hcc10, hfr10⟩ := Kd.R_elem HX10.out z41 (x5_1 : Int) (of_decide_eq_true aq) (by have h_ : (x5_1 : Int) < ((x0_1.length : Int) : Int) := of_decide_eq_true aq; first | exact h_ | (have e_ := (Kd.R_reads' HO_0.out).1; omega) | simpa using h_)
     obtain rfl := k41_openM hM10
     have HP10 := Kd.R_seg HX10.out (x5_1 : Int) (of_decide_eq_true aq) (by have h_ : (x5_1 : Int) < ((x0_1.length : Int) : Int) := of_decide_eq_true aq; first | exact h_ | (have e_ := (Kd.R_reads' HO_0.out).1; omega) | simpa using h_) (seg := [.int .i64 x1_1]) (j := 0) hcl10 hcc10 (show 1 ≤ 4 from by decide) (x' := (⟨x1_1, (rd_T41 x0_1 x5_1).f1, (rd_T41 x0_1 x5_1).f2, (rd_T41 x0_1 x5_1).f3⟩ : S41)) (k41_mkM _ _ _ (⟨x1_1, (rd_T41 x0_1 x5_1).f1, (rd_T41 x0_1 x5_1).f2, (rd_T41 x0_1 x5_1).f3⟩ : S41) ) (fun _ hk => hk)
     have hx10_0 := hcc10 0 _ rfl
     (try simp only [show (k41).sz = 4 from rfl, Nat.mul_one, Nat.add_zero] at hx10_0)
     have hf10_0 := hfr10 0
     (try simp only [show (k41).sz = 4 from rfl, Nat.mul_one, Nat.add_zero] at hf10_0)
     clear hcl10 hcc10 hfr10 hM10
     go_wp2_with (first | ((with_reducible refine gate_store (t := 3) (p := 16) rfl ?_); refine store_event (t := 3) (p := 16) (v := ?vo_w11) (w1 := (wr.setCell ⟨go5, (x5_1 : Int).toNat * 4, none⟩ (.int .i64 x1_1))) ?hg ?ho ?hn ?hr ?_; (case ho => rfl); (case hg => rfl); (case hn => rfl); (case hr => first | (go_simp; done) | (go_simp; rfl)); intro w11 hw; have hg : wr.grownBy w11 (some go5) := (by rw [hw]; exact HP10.2); have hp_ : Kd.R k41 41 w11 w0.heap.size (fun k_ => (P0_ k_ ∨ w.heap.size ≤ k_)) (.slice (some ⟨go5, 0, none⟩) x0_1.length co9) y252 := (by rw [hw, Ny252.out]; exact HP10.1); clear HP10; replace HB := am ((by rw [hw]; exact below_set (HB.out) GB5.out : Below w0.heap.size w0 w11)); replace HK := am (Kept.of_grown (S := (fun k_ => P0_ k_)) hg hkq (fun k_ e_ => (HO_0.out.1 k_ e_))); replace HO_0 := am (hp_); clear hg hw hp_; have p6 : 0 ≤ (x5_1 : Int) := of_decide_eq_true aq; have q6 : (x5_1 : Int) < ((x0_1.length : Int) : Int) := of_decide_eq_true aq; obtain ⟨ce6, hcl6, hM6, hcc6, hfr6⟩ := Kd.R_elem HO_0.out z41 (x5_1 : Int) p6 q6; obtain rfl := k41_openM hM6; have hx6_0 : w11.cell? ⟨go5, (x5_1 : Int).toNat * 4, none⟩ = some (.int .i64 ((rd_T41 y252 x5_1).f0)) := hcc6 0 _ rfl; have hx6_1 : w11.cell? ⟨go5, (x5_1 : Int).toNat * 4 + 1, none⟩ = some (.int .i64 ((rd_T41 y252 x5_1).f1)) := hcc6 1 _ rfl; have hx6_2 : w11.cell? ⟨go5, (x5_1 : Int).toNat * 4 + 2, none⟩ = some (.int .i64 ((rd_T41 y252 x5_1).f2)) := hcc6 2 _ rfl; have hx6_3 : w11.cell? ⟨go5, (x5_1 : Int).toNat * 4 + 3, none⟩ = some (.int .i64 ((rd_T41 y252 x5_1).f3)) := hcc6 3 _ rfl; have hf6_0 : w11.frozen? ⟨go5, (x5_1 : Int).toNat * 4, none⟩ = false := hfr6 0; have hf6_1 : w11.frozen? ⟨go5, (x5_1 : Int).toNat * 4 + 1, none⟩ = false := hfr6 1; have hf6_2 : w11.frozen? ⟨go5, (x5_1 : Int).toNat * 4 + 2, none⟩ = false := hfr6 2; have hf6_3 : w11.frozen? ⟨go5, (x5_1 : Int).toNat * 4 + 3, none⟩ = false := hfr6 3; clear hcl6 hcc6 hfr6 hM6; replace p6 := eq_true p6; replace q6 := eq_true q6; have HX12 := am (show Kd.R k41 41 w11 w0.heap.size (fun k_ => (P0_ k_ ∨ w.heap.size ≤ k_)) (.slice (some ⟨go5, 0, none⟩) x0_1.length co9) y252 from (rq HO_0)); obtain ⟨ce12, hcl12, hM12, hcc12, hfr12⟩ := Kd.R_elem HX12.out z41 (x5_1 : Int) (of_decide_eq_true aq) (by have h_ : (x5_1 : Int) < ((x0_1.length : Int) : Int) := of_decide_eq_true aq; first | exact h_ | (have e_ := (Kd.R_reads' HO_0.out).1; omega) | simpa using h_); obtain rfl := k41_openM hM12; have HP12 := Kd.R_seg HX12.out (x5_1 : Int) (of_decide_eq_true aq) (by have h_ : (x5_1 : Int) < ((x0_1.length : Int) : Int) := of_decide_eq_true aq; first | exact h_ | (have e_ := (Kd.R_reads' HO_0.out).1; omega) | simpa using h_) (seg := [.int .i64 (wrap64 (x1_1 + 1))]) (j := 1) hcl12 hcc12 (show 2 ≤ 4 from by decide) (x' := (⟨(rd_T41 y252 x5_1).f0, wrap64 (x1_1 + 1), (rd_T41 y252 x5_1).f2, (rd_T41 y252 x5_1).f3⟩ : S41)) (k41_mkM _ _ _ (⟨(rd_T41 y252 x5_1).f0, wrap64 (x1_1 + 1), (rd_T41 y252 x5_1).f2, (rd_T41 y252 x5_1).f3⟩ : S41) ) (fun _ hk => hk); have hx12_1 := hcc12 1 _ rfl; (try simp only [show (k41).sz = 4 from rfl, Nat.mul_one, Nat.add_zero] at hx12_1); have hf12_1 := hfr12 1; (try simp only [show (k41).sz = 4 from rfl, Nat.mul_one, Nat.add_zero] at hf12_1); clear hcl12 hcc12 hfr12 hM12) | ((with_reducible refine gate_store (t := 3) (p := 23) rfl ?_); refine store_event (t := 3) (p := 23) (v := ?vo_w13) (w1 := (w11.setCell ⟨go5, (x5_1 : Int).toNat * 4 + 1, none⟩ (.int .i64 (wrap64 (x1_1 + 1))))) ?hg ?ho ?hn ?hr ?_; (case ho => rfl); (case hg => rfl); (case hn => rfl); (case hr => first | (go_simp; done) | (go_simp; rfl)); intro w13 hw; have hg : w11.grownBy w13 (some go5) := (by rw [hw]; exact HP12.2); have hp_ : Kd.R k41 41 w13 w0.heap.size (fun k_ => (P0_ k_ ∨ w.heap.size ≤ k_)) (.slice (some ⟨go5, 0, none⟩) x0_1.length co9) y253 := (by rw [hw, Ny253.out]; exact HP12.1); clear HP12; replace HB := am ((by rw [hw]; exact below_set (HB.out) GB5.out : Below w0.heap.size w0 w13)); replace HK := am (Kept.of_grown (S := (fun k_ => P0_ k_)) hg hkq (fun k_ e_ => (HO_0.out.1 k_ e_))); replace HO_0 := am (hp_); clear hg hw hp_; have p7 : 0 ≤ (x5_1 : Int) := of_decide_eq_true aq; have q7 : (x5_1 : Int) < ((x0_1.length : Int) : Int) := of_decide_eq_true aq; obtain ⟨ce7, hcl7, hM7, hcc7, hfr7⟩ := Kd.R_elem HO_0.out z41 (x5_1 : Int) p7 q7; obtain rfl := k41_openM hM7; have hx7_0 : w13.cell? ⟨go5, (x5_1 : Int).toNat * 4, none⟩ = some (.int .i64 ((rd_T41 y253 x5_1).f0)) := hcc7 0 _ rfl; have hx7_1 : w13.cell? ⟨go5, (x5_1 : Int).toNat * 4 + 1, none⟩ = some (.int .i64 ((rd_T41 y253 x5_1).f1)) := hcc7 1 _ rfl; have hx7_2 : w13.cell? ⟨go5, (x5_1 : Int).toNat * 4 + 2, none⟩ = some (.int .i64 ((rd_T41 y253 x5_1).f2)) := hcc7 2 _ rfl; have hx7_3 : w13.cell? ⟨go5, (x5_1 : Int).toNat * 4 + 3, none⟩ = some (.int .i64 ((rd_T41 y253 x5_1).f3)) := hcc7 3 _ rfl; have hf7_0 : w13.frozen? ⟨go5, (x5_1 : Int).toNat * 4, none⟩ = false := hfr7 0; have hf7_1 : w13.frozen? ⟨go5, (x5_1 : Int).toNat * 4 + 1, none⟩ = false := hfr7 1; have hf7_2 : w13.frozen? ⟨go5, (x5_1 : Int).toNat * 4 + 2, none⟩ = false := hfr7 2; have hf7_3 : w13.frozen? ⟨go5, (x5_1 : Int).toNat * 4 + 3, none⟩ = false := hfr7 3; clear hcl7 hcc7 hfr7 hM7; replace p7 := eq_true p7; replace q7 := eq_true q7; have HX14 := am (show Kd.R k41 41 w13 w0.heap.size (fun k_ => (P0_ k_ ∨ w.heap.size ≤ k_)) (.slice (some ⟨go5, 0, none⟩) x0_1.length co9) y253 from (rq HO_0)); obtain ⟨ce14, hcl14, hM14, hcc14, hfr14⟩ := Kd.R_elem HX14.out z41 (x5_1 : Int) (of_decide_eq_true aq) (by have h_ : (x5_1 : Int) < ((x0_1.length : Int) : Int) := of_decide_eq_true aq; first | exact h_ | (have e_ := (Kd.R_reads' HO_0.out).1; omega) | simpa using h_); obtain rfl := k41_openM hM14; have HP14 := Kd.R_seg HX14.out (x5_1 : Int) (of_decide_eq_true aq) (by have h_ : (x5_1 : Int) < ((x0_1.length : Int) : Int) := of_decide_eq_true aq; first | exact h_ | (have e_ := (Kd.R_reads' HO_0.out).1; omega) | simpa using h_) (seg := [.int .i64 (wrap64 ((wrap64 (x1_1 + 1)) + 1))]) (j := 2) hcl14 hcc14 (show 3 ≤ 4 from by decide) (x' := (⟨(rd_T41 y253 x5_1).f0, (rd_T41 y253 x5_1).f1, wrap64 ((wrap64 (x1_1 + 1)) + 1), (rd_T41 y253 x5_1).f3⟩ : S41)) (k41_mkM _ _ _ (⟨(rd_T41 y253 x5_1).f0, (rd_T41 y253 x5_1).f1, wrap64 ((wrap64 (x1_1 + 1)) + 1), (rd_T41 y253 x5_1).f3⟩ : S41) ) (fun _ hk => hk); have hx14_2 := hcc14 2 _ rfl; (try simp only [show (k41).sz = 4 from rfl, Nat.mul_one, Nat.add_zero] at hx14_2); have hf14_2 := hfr14 2; (try simp only [show (k41).sz = 4 from rfl, Nat.mul_one, Nat.add_zero] at hf14_2); clear hcl14 hcc14 hfr14 hM14) | ((with_reducible refine gate_store (t := 3) (p := 30) rfl ?_); refine store_event (t := 3) (p := 30) (v := ?vo_w15) (w1 := (w13.setCell ⟨go5, (x5_1 : Int).toNat * 4 + 2, none⟩ (.int .i64 (wrap64 ((wrap64 (x1_1 + 1)) + 1))))) ?hg ?ho ?hn ?hr ?_; (case ho => rfl); (case hg => rfl); (case hn => rfl); (case hr => first | (go_simp; done) | (go_simp; rfl)); intro w15 hw; have hg : w13.grownBy w15 (some go5) := (by rw [hw]; exact HP14.2); have hp_ : Kd.R k41 41 w15 w0.heap.size (fun k_ => (P0_ k_ ∨ w.heap.size ≤ k_)) (.slice (some ⟨go5, 0, none⟩) x0_1.length co9) y254 := (by rw [hw, Ny254.out]; exact HP14.1); clear HP14; replace HB := am ((by rw [hw]; exact below_set (HB.out) GB5.out : Below w0.heap.size w0 w15)); replace HK := am (Kept.of_grown (S := (fun k_ => P0_ k_)) hg hkq (fun k_ e_ => (HO_0.out.1 k_ e_))); replace HO_0 := am (hp_); clear hg hw hp_; have p8 : 0 ≤ (x5_1 : Int) := of_decide_eq_true aq; have q8 : (x5_1 : Int) < ((x0_1.length : Int) : Int) := of_decide_eq_true aq; obtain ⟨ce8, hcl8, hM8, hcc8, hfr8⟩ := Kd.R_elem HO_0.out z41 (x5_1 : Int) p8 q8; obtain rfl := k41_openM hM8; have hx8_0 : w15.cell? ⟨go5, (x5_1 : Int).toNat * 4, none⟩ = some (.int .i64 ((rd_T41 y254 x5_1).f0)) := hcc8 0 _ rfl; have hx8_1 : w15.cell? ⟨go5, (x5_1 : Int).toNat * 4 + 1, none⟩ = some (.int .i64 ((rd_T41 y254 x5_1).f1)) := hcc8 1 _ rfl; have hx8_2 : w15.cell? ⟨go5, (x5_1 : Int).toNat * 4 + 2, none⟩ = some (.int .i64 ((rd_T41 y254 x5_1).f2)) := hcc8 2 _ rfl; have hx8_3 : w15.cell? ⟨go5, (x5_1 : Int).toNat * 4 + 3, none⟩ = some (.int .i64 ((rd_T41 y254 x5_1).f3)) := hcc8 3 _ rfl; have hf8_0 : w15.frozen? ⟨go5, (x5_1 : Int).toNat * 4, none⟩ = false := hfr8 0; have hf8_1 : w15.frozen? ⟨go5, (x5_1 : Int).toNat * 4 + 1, none⟩ = false := hfr8 1; have hf8_2 : w15.frozen? ⟨go5, (x5_1 : Int).toNat * 4 + 2, none⟩ = false := hfr8 2; have hf8_3 : w15.frozen? ⟨go5, (x5_1 : Int).toNat * 4 + 3, none⟩ = false := hfr8 3; clear hcl8 hcc8 hfr8 hM8; replace p8 := eq_true p8; replace q8 := eq_true q8; have HX16 := am (show Kd.R k41 41 w15 w0.heap.size (fun k_ => (P0_ k_ ∨ w.heap.size ≤ k_)) (.slice (some ⟨go5, 0, none⟩) x0_1.length co9) y254 from (rq HO_0)); obtain ⟨ce16, hcl16, hM16, hcc16, hfr16⟩ := Kd.R_elem HX16.out z41 (x5_1 : Int) (of_decide_eq_true aq) (by have h_ : (x5_1 : Int) < ((x0_1.length : Int) : Int) := of_decide_eq_true aq; first | exact h_ | (have e_ := (Kd.R_reads' HO_0.out).1; omega) | simpa using h_); obtain rfl := k41_openM hM16; have HP16 := Kd.R_seg HX16.out (x5_1 : Int) (of_decide_eq_true aq) (by have h_ : (x5_1 : Int) < ((x0_1.length : Int) : Int) := of_decide_eq_true aq; first | exact h_ | (have e_ := (Kd.R_reads' HO_0.out).1; omega) | simpa using h_) (seg := [.int .i64 (wrap64 ((wrap64 ((wrap64 (x1_1 + 1)) + 1)) + 1))]) (j := 3) hcl16 hcc16 (show 4 ≤ 4 from by decide) (x' := (⟨(rd_T41 y254 x5_1).f0, (rd_T41 y254 x5_1).f1, (rd_T41 y254 x5_1).f2, wrap64 ((wrap64 ((wrap64 (x1_1 + 1)) + 1)) + 1)⟩ : S41)) (k41_mkM _ _ _ (⟨(rd_T41 y254 x5_1).f0, (rd_T41 y254 x5_1).f1, (rd_T41 y254 x5_1).f2, wrap64 ((wrap64 ((wrap64 (x1_1 + 1)) + 1)) + 1)⟩ : S41) ) (fun _ hk => hk); have hx16_3 := hcc16 3 _ rfl; (try simp only [show (k41).sz = 4 from rfl, Nat.mul_one, Nat.add_zero] at hx16_3); have hf16_3 := hfr16 3; (try simp only [show (k41).sz = 4 from rfl, Nat.mul_one, Nat.add_zero] at hf16_3); clear hcl16 hcc16 hfr16 hM16) | ((with_reducible refine gate_store (t := 3) (p := 37) rfl ?_); refine store_event (t := 3) (p := 37) (v := ?vo_w17) (w1 := (w15.setCell ⟨go5, (x5_1 : Int).toNat * 4 + 3, none⟩ (.int .i64 (wrap64 ((wrap64 ((wrap64 (x1_1 + 1)) + 1)) + 1))))) ?hg ?ho ?hn ?hr ?_; (case ho => rfl); (case hg => rfl); (case hn => rfl); (case hr => first | (go_simp; done) | (go_simp; rfl)); intro w17 hw; have hg : w15.grownBy w17 (some go5) := (by rw [hw]; exact HP16.2); have hp_ : Kd.R k41 41 w17 w0.heap.size (fun k_ => (P0_ k_ ∨ w.heap.size ≤ k_)) (.slice (some ⟨go5, 0, none⟩) x0_1.length co9) y255 := (by rw [hw, Ny255.out]; exact HP16.1); clear HP16; replace HB := am ((by rw [hw]; exact below_set (HB.out) GB5.out : Below w0.heap.size w0 w17)); replace HK := am (Kept.of_grown (S := (fun k_ => P0_ k_)) hg hkq (fun k_ e_ => (HO_0.out.1 k_ e_))); replace HO_0 := am (hp_); clear hg hw hp_))
     go_roundg k1
     case measure => have := HK1.out; omega
     case rel => exact ⟨(y255), (wrap64 ((wrap64 ((wrap64 ((wrap64 (x1_1 + 1)) + 1)) + 1)) + 1)), (wrap64 (x5_1 + 1)), sq, sq, H', ⟨by have := HK1.out; omega⟩, ⟨rq HO_0⟩, ⟨hkq⟩, ⟨bq⟩⟩
    ·rw [if_neg c4] at H
     exact absurd H (by simp)
   ·rw [if_neg c3] at H
    have c3b0 : decide (x5_1 < (x0_1.length : Int)) = false := decide_eq_false c3
    clear c3
    simp only [Option.some.injEq, Prod.mk.injEq] at H
    obtain ⟨rfl, rfl⟩ := H
    obtain ⟨Ao18, co18, eo18⟩ := Kd.R_slice HO_0.out
    subst eo18
    go_wp2
    go_ret
    exact ⟨eq_, rq HO_0, bq, hkq⟩


/-! ### laws_markShop: function 12 -/
def laws_markShop.f (k : Nat) (l0_0 : List Int) (l0_1 : List (S41)) (a1 : Int) : Option (Int × List Int × (List (S41))) := (laws_markIntS.f k l0_0 a1).bind fun bt257 => ((laws_markLoanS.f k l0_1 bt257.1).bind fun bt259 => (some (bt259.1, bt257.2, bt259.2)))
theorem laws_markShop.mono : ∀ a0 a1 a2 k, LeO (laws_markShop.f k a0 a1 a2) (laws_markShop.f (k + 1) a0 a1 a2) := by
 intro a0 a1 a2 k
 unfold laws_markShop.f
 repeat' first
   | (with_reducible exact laws_markIntS.mono _ _ _)
   | (with_reducible exact laws_markLoanS.mono _ _ _)
   | (with_reducible exact LeO.refl _)
   | (with_reducible exact LeO.none _)
   | (with_reducible refine LeO.ite ?_ ?_)
   | (with_reducible refine LeO.bind ?_ (fun _ => ?_))
   | exact laws_markIntS.mono _ _ _
   | exact laws_markLoanS.mono _ _ _
   | exact LeO.none _
   | refine LeO.ite ?_ ?_
   | refine LeO.bind ?_ (fun _ => ?_)
set_option maxHeartbeats 8000000 in
set_option maxRecDepth 100000 in
theorem laws_markShop.calls (k : Nat) (P0_0_ : Nat → Prop) (u9000_ : Value) (l0_0 : List Int) (P0_1_ : Nat → Prop) (u9001_ : Value) (l0_1 : List (S41)) (a1 : Int) (r1 : Int) (r2 : List Int) (r3 : List (S41)) (w0 w : World) (hB : Below w0.heap.size w0 w) (ho0_0 : Kd.R (Kd.int .i64) 3 w w0.heap.size P0_0_ u9000_ l0_0) (ho0_1 : Kd.R k41 41 w w0.heap.size P0_1_ u9001_ l0_1) (h : laws_markShop.f k l0_0 l0_1 a1 = some (r1, r2, r3)) :
  Calls Try.prog 12 #[.agg #[u9000_, u9001_], .int .i64 a1] w fun e w' => e = .returned (.int .i64 r1) ∧ Kd.R (Kd.int .i64) 3 w' w0.heap.size (fun k_ => ((P0_0_ k_ ∨ P0_1_ k_) ∨ w.heap.size ≤ k_)) u9000_ r2 ∧ Kd.R k41 41 w' w0.heap.size (fun k_ => ((P0_0_ k_ ∨ P0_1_ k_) ∨ w.heap.size ≤ k_)) u9001_ r3 ∧ Below w0.heap.size w0 w' ∧ Kept w w' (fun k_ => P0_0_ k_ ∨ P0_1_ k_) := by
 have hu29 := Try.underlying29
 have HO0_0 := am (show Kd.R (Kd.int .i64) 3 w w0.heap.size (fun k_ => ((P0_0_ k_ ∨ P0_1_ k_) ∨ w.heap.size ≤ k_)) u9000_ l0_0 from Kd.R_mono ho0_0 (fun k_ hk => (.inl (.inl hk))))
 have HO0_1 := am (show Kd.R k41 41 w w0.heap.size (fun k_ => ((P0_0_ k_ ∨ P0_1_ k_) ∨ w.heap.size ≤ k_)) u9001_ l0_1 from Kd.R_mono ho0_1 (fun k_ hk => (.inl (.inr hk))))
 have HK := am (Kept.refl w (fun k_ => P0_0_ k_ ∨ P0_1_ k_))
 have HW0 := am hB.size
 have HB := am hB
 clear hB
 have H : ((laws_markIntS.f k l0_0 a1).bind fun bt257 => ((laws_markLoanS.f k l0_1 bt257.1).bind fun bt259 => (some (bt259.1, bt257.2, bt259.2)))) = some (r1, r2, r3) := h
 clear h
 obtain ⟨⟨t257, t258⟩, A3, H⟩ := bindq H
 try dsimp only at H
 obtain ⟨⟨t259, t260⟩, A4, H⟩ := bindq H
 try dsimp only at H
 simp only [Option.some.injEq, Prod.mk.injEq] at H
 obtain ⟨rfl, rfl, rfl⟩ := H
 obtain ⟨Ao5, co5, eo5⟩ := Kd.R_slice HO0_0.out
 subst eo5
 obtain ⟨Ao6, co6, eo6⟩ := Kd.R_slice HO0_1.out
 subst eo6
 go_enter Try.func12, Try.ntmps12
 go_wp2_with (first | ((with_reducible refine gate_dst (N := 2) rfl ?_); refine box_event ?hg (N := 2) ?hd (cs := #[.slice Ao5 l0_0.length co5, .slice Ao6 l0_1.length co6]) (t := 29) ?hr ?_; (case hd => rfl); (case hg => rfl); (case hr => first | (go_simp; done) | (go_simp; rfl)); intro gb256 hg w7 hbox hb; replace HO0_0 := rb HO0_0 hb; replace HO0_1 := rb HO0_1 hb; have BK256 := am (hbox); have GW256 := am ((by rw [hg]; exact (by first | exact HK.out.1 | exact (show Kept w _ (fun k_ => P0_0_ k_ ∨ P0_1_ k_) from hkq).1) : w.heap.size ≤ gb256)); replace HK := am (Kept.below (S := (fun k_ => P0_0_ k_ ∨ P0_1_ k_)) hkq hb); have GE256 := am ((by rw [hg]; exact (below_size bq) : w0.heap.size ≤ gb256)); replace HB := sb hb; clear hb hbox hg; have ⟨hcz8_0, hcz8_1, hfz8_0, hfz8_1⟩ := bc2 BK256) | ((with_reducible refine gate_callee (f := 31) rfl ?_); refine goesQ (some 8) Try.func31 #[.slice Ao5 l0_0.length co5, .int .i64 a1] ?_; (with_reducible refine (laws_markIntS.calls k (fun k_ => some k_ = (.slice Ao5 l0_0.length co5 : Value).ownBlock) (.slice Ao5 l0_0.length co5) l0_0 a1 t257 t258 w0 _ ?s1 ?s2 A3.out).mono ?_); (case s1 => repeat (first | (with_reducible first | exact HB.out | apply below_alloc | apply pw_below_drewN | apply below_drew1 | refine below_set ?_ GE256.out) | exact HB.out)); (case s2 => exact Kd.R_tight rfl HO0_0.out); rintro e w9 ⟨rfl, hy0, hb, hkp⟩; refine ⟨_, rfl, ?_⟩; replace HO0_1 := am (Kd.R_mono (ok' := fun k_ => ((P0_0_ k_ ∨ P0_1_ k_) ∨ w.heap.size ≤ k_)) (Kd.R_keptB ((Kd.R_apart' HO0_1.out (Kd.R_typed HO0_0.out) (by decide))) hkp (fun k_ hk_ hs_ => (hk_.2) hs_)) (fun k_ hk_ => hk_.1.1)); replace BK256 := am (blk_kept (zq BK256) hkp (fun hs_ => (fun e_ => (Kd.R_ne HO0_0.out BK256.out (by decide)) e_) hs_)); replace HK := am (Kept.then_ (S := (fun k_ => P0_0_ k_ ∨ P0_1_ k_)) (by repeat (first | (with_reducible first | exact HK.out | apply Kept.alloc | apply Kept.drewN | apply Kept.drew | refine Kept.setCell ?_ (.inr GW256.out) _) | exact HK.out)) hkp (fun k_ hs_ => (fun e_ => (HO0_0.out.1 k_ e_.symm)) hs_)); replace HO0_0 := am (Kd.R_reok rfl hy0 (fun k_ e_ => HO0_0.out.1 k_ e_)); replace HB := am (hb); (try clear hb hkp hy0); have ⟨hcz10_0, hcz10_1, hfz10_0, hfz10_1⟩ := bc2 BK256) | ((with_reducible refine gate_callee (f := 32) rfl ?_); refine goesQ (some 12) Try.func32 #[.slice Ao6 l0_1.length co6, .int .i64 t257] ?_; (with_reducible refine (laws_markLoanS.calls k (fun k_ => some k_ = (.slice Ao6 l0_1.length co6 : Value).ownBlock) (.slice Ao6 l0_1.length co6) l0_1 t257 t259 t260 w0 _ ?s1 ?s2 A4.out).mono ?_); (case s1 => repeat (first | (with_reducible first | exact HB.out | apply below_alloc | apply pw_below_drewN | apply below_drew1 | refine below_set ?_ GE256.out) | exact HB.out)); (case s2 => exact Kd.R_tight rfl HO0_1.out); rintro e w11 ⟨rfl, hy0, hb, hkp⟩; refine ⟨_, rfl, ?_⟩; replace HO0_0 := am (Kd.R_mono (ok' := fun k_ => ((P0_0_ k_ ∨ P0_1_ k_) ∨ w.heap.size ≤ k_)) (Kd.R_keptB ((Kd.R_apart' HO0_0.out (Kd.R_typed HO0_1.out) (by decide))) hkp (fun k_ hk_ hs_ => (hk_.2) hs_)) (fun k_ hk_ => hk_.1.1)); replace BK256 := am (blk_kept (zq BK256) hkp (fun hs_ => (fun e_ => (Kd.R_ne HO0_1.out BK256.out (by decide)) e_) hs_)); replace HK := am (Kept.then_ (S := (fun k_ => P0_0_ k_ ∨ P0_1_ k_)) (by repeat (first | (with_reducible first | exact HK.out | apply Kept.alloc | apply Kept.drewN | apply Kept.drew | refine Kept.setCell ?_ (.inr GW256.out) _) | exact HK.out)) hkp (fun k_ hs_ => (fun e_ => (HO0_1.out.1 k_ e_.symm)) hs_)); replace HO0_1 := am (Kd.R_reok rfl hy0 (fun k_ e_ => HO0_1.out.1 k_ e_)); replace HB := am (hb); (try clear hb hkp hy0)))
 go_ret
 exact ⟨eq_, rq HO0_0, rq HO0_1, bq, by repeat (first | (with_reducible first | exact HK.out | apply Kept.alloc | apply Kept.drewN | apply Kept.drew | refine Kept.setCell ?_ (.inr GW256.out) _) | exact HK.out)⟩


/-! ### laws_heldIntS: function 33 -/
def laws_heldIntS.l0 : Nat → List Int → Int → Int → Option (Int)
 | 0, _, _, _ => none
 | k + 1, x0, x1, x5 => if x5 < (x0.length : Int) then (if 0 ≤ x5 then (if (rd x0 x5) = x1 then (laws_heldIntS.l0 k x0 (wrap64 (x1 + 1)) (wrap64 (x5 + 1))) else (some (-1))) else (none)) else (some x1)
def laws_heldIntS.f (k : Nat) (l0 : List Int) (a1 : Int) : Option (Int) := laws_heldIntS.l0 k l0 a1 0
theorem laws_heldIntS.mono_l : ∀ k, (∀ y0 y1 y2, LeO (laws_heldIntS.l0 k y0 y1 y2) (laws_heldIntS.l0 (k + 1) y0 y1 y2))
 | 0 => fun _ _ _ r h => by simp [laws_heldIntS.l0] at h
 | k + 1 => by
  have ih0 := laws_heldIntS.mono_l k
  ·intro y0 y1 y2
   unfold laws_heldIntS.l0
   repeat' first
   | (with_reducible exact ih0 _ _ _)
   | (with_reducible exact LeO.refl _)
   | (with_reducible exact LeO.none _)
   | (with_reducible refine LeO.ite ?_ ?_)
   | (with_reducible refine LeO.bind ?_ (fun _ => ?_))
   | exact ih0 _ _ _
   | exact LeO.none _
   | refine LeO.ite ?_ ?_
   | refine LeO.bind ?_ (fun _ => ?_)
theorem laws_heldIntS.mono : ∀ a0 a1 k, LeO (laws_heldIntS.f k a0 a1) (laws_heldIntS.f (k + 1) a0 a1) := by
 intro a0 a1 k
 have ih0 := laws_heldIntS.mono_l k
 unfold laws_heldIntS.f
 repeat' first
   | (with_reducible exact ih0 _ _ _)
   | (with_reducible exact LeO.refl _)
   | (with_reducible exact LeO.none _)
   | (with_reducible refine LeO.ite ?_ ?_)
   | (with_reducible refine LeO.bind ?_ (fun _ => ?_))
   | exact ih0 _ _ _
   | exact LeO.none _
   | refine LeO.ite ?_ ?_
   | refine LeO.bind ?_ (fun _ => ?_)
set_option maxHeartbeats 8000000 in
set_option maxRecDepth 100000 in
theorem laws_heldIntS.calls (k : Nat) (A0 : Option Addr) (c0 : Nat) (l0 : List Int) (a1 : Int) (r : Int) (w : World) (hr0 : Kd.C (Kd.int .i64) w A0 l0.length l0) (hc0 : l0.length ≤ c0) (h : laws_heldIntS.f k l0 a1 = some r) :
  Calls Try.prog 33 #[.slice A0 l0.length c0, .int .i64 a1] w fun e w' => e = .returned (.int .i64 r) ∧ Drawn0 w w' := by
 have HR0 := am hr0
 have HC0 := am hc0
 clear hr0 hc0
 have H : (laws_heldIntS.l0 k l0 a1 0) = some r := h
 clear h
 have H' := am H
 clear H
 go_enter Try.func33, Try.ntmps33
 go_wp2
 go_loopg [1, 5] k (fun kq v1 v5 w' => ∃ (x1_1 : Int) (x5_1 : Int), v1 = .int .i64 x1_1 ∧ v5 = .int .i64 x5_1 ∧ Aside0 (laws_heldIntS.l0 kq l0 x1_1 x5_1 = some r) ∧ Aside0 (kq ≤ k) ∧ Drawn0 w w')
 case atStart => exact ⟨(a1), (0), sq, sq, H', ⟨Nat.le_refl _⟩, by repeat (first | exact Drawn0.refl _ | apply Drawn0.step)⟩
 case round =>
  clear H'
  obtain ⟨x1_1, x5_1, rfl, rfl, HA, HK1, ⟨m1, rfl⟩⟩ := hrel
  cases gk with
  | zero => exact absurd HA.out (by simp [laws_heldIntS.l0])
  | succ k1 =>
   have H := HA.out
   clear HA
   simp only [laws_heldIntS.l0] at H
   by_cases c3 : x5_1 < (l0.length : Int)
   ·rw [if_pos c3] at H
    have c3b0 : decide (x5_1 < (l0.length : Int)) = true := decide_eq_true c3
    clear c3
    by_cases c4 : 0 ≤ x5_1
    ·rw [if_pos c4] at H
     have c4b0 : decide (0 ≤ x5_1) = true := decide_eq_true c4
     clear c4
     by_cases c5 : (rd l0 x5_1) = x1_1
     ·rw [if_pos c5] at H
      have c5b0 : ((rd l0 x5_1) == x1_1) = true := beq_iff_eq.mpr c5
      have c5b1 : ((rd l0 x5_1) != x1_1) = false := bne_eq_false_iff_eq.mpr c5
      clear c5
      have H' := am H
      clear H
      have p261 : 0 ≤ (x5_1 : Int) := of_decide_eq_true aq
      have q261 : x5_1 < (l0.length : Int) := of_decide_eq_true aq
      obtain ⟨ad261, e261, hx261_0⟩ := Kd.at_int HR0.out x5_1 p261 q261
      cases e261
      replace p261 := eq_true p261
      replace q261 := eq_true q261
      go_wp2
      go_roundg k1
      case measure => have := HK1.out; omega
      case rel => exact ⟨(wrap64 (x1_1 + 1)), (wrap64 (x5_1 + 1)), sq, sq, H', ⟨by have := HK1.out; omega⟩, by repeat (first | exact Drawn0.refl _ | apply Drawn0.step)⟩
     ·rw [if_neg c5] at H
      have c5b0 : ((rd l0 x5_1) == x1_1) = false := beq_eq_false_iff_ne.mpr c5
      have c5b1 : ((rd l0 x5_1) != x1_1) = true := bne_iff_ne.mpr c5
      obtain rfl := Option.some.inj H
      have p261 : 0 ≤ (x5_1 : Int) := of_decide_eq_true aq
      have q261 : x5_1 < (l0.length : Int) := of_decide_eq_true aq
      obtain ⟨ad261, e261, hx261_0⟩ := Kd.at_int HR0.out x5_1 p261 q261
      cases e261
      replace p261 := eq_true p261
      replace q261 := eq_true q261
      go_wp2
      go_ret
      exact ⟨sq, by repeat (first | exact Drawn0.refl _ | apply Drawn0.step)⟩
    ·rw [if_neg c4] at H
     exact absurd H (by simp)
   ·rw [if_neg c3] at H
    have c3b0 : decide (x5_1 < (l0.length : Int)) = false := decide_eq_false c3
    clear c3
    obtain rfl := Option.some.inj H
    go_wp2
    go_ret
    exact ⟨sq, by repeat (first | exact Drawn0.refl _ | apply Drawn0.step)⟩


/-! ### laws_heldLoanS: function 34 -/
def laws_heldLoanS.l0 : Nat → List (S41) → Int → Int → Option (Int)
 | 0, _, _, _ => none
 | k + 1, x0, x1, x5 => if x5 < (x0.length : Int) then (if 0 ≤ x5 then (if ((rd_T41 x0 x5).f0) = x1 then (if ((rd_T41 x0 x5).f1) = (wrap64 (x1 + 1)) then (if ((rd_T41 x0 x5).f2) = (wrap64 ((wrap64 (x1 + 1)) + 1)) then (if ((rd_T41 x0 x5).f3) = (wrap64 ((wrap64 ((wrap64 (x1 + 1)) + 1)) + 1)) then (laws_heldLoanS.l0 k x0 (wrap64 ((wrap64 ((wrap64 ((wrap64 (x1 + 1)) + 1)) + 1)) + 1)) (wrap64 (x5 + 1))) else (some (-1))) else (some (-1))) else (some (-1))) else (some (-1))) else (none)) else (some x1)
def laws_heldLoanS.f (k : Nat) (l0 : List (S41)) (a1 : Int) : Option (Int) := laws_heldLoanS.l0 k l0 a1 0
theorem laws_heldLoanS.mono_l : ∀ k, (∀ y0 y1 y2, LeO (laws_heldLoanS.l0 k y0 y1 y2) (laws_heldLoanS.l0 (k + 1) y0 y1 y2))
 | 0 => fun _ _ _ r h => by simp [laws_heldLoanS.l0] at h
 | k + 1 => by
  have ih0 := laws_heldLoanS.mono_l k
  ·intro y0 y1 y2
   unfold laws_heldLoanS.l0
   repeat' first
   | (with_reducible exact ih0 _ _ _)
   | (with_reducible exact LeO.refl _)
   | (with_reducible exact LeO.none _)
   | (with_reducible refine LeO.ite ?_ ?_)
   | (with_reducible refine LeO.bind ?_ (fun _ => ?_))
   | exact ih0 _ _ _
   | exact LeO.none _
   | refine LeO.ite ?_ ?_
   | refine LeO.bind ?_ (fun _ => ?_)
theorem laws_heldLoanS.mono : ∀ a0 a1 k, LeO (laws_heldLoanS.f k a0 a1) (laws_heldLoanS.f (k + 1) a0 a1) := by
 intro a0 a1 k
 have ih0 := laws_heldLoanS.mono_l k
 unfold laws_heldLoanS.f
 repeat' first
   | (with_reducible exact ih0 _ _ _)
   | (with_reducible exact LeO.refl _)
   | (with_reducible exact LeO.none _)
   | (with_reducible refine LeO.ite ?_ ?_)
   | (with_reducible refine LeO.bind ?_ (fun _ => ?_))
   | exact ih0 _ _ _
   | exact LeO.none _
   | refine LeO.ite ?_ ?_
   | refine LeO.bind ?_ (fun _ => ?_)
set_option maxHeartbeats 8000000 in
set_option maxRecDepth 100000 in
theorem laws_heldLoanS.calls (k : Nat) (A0 : Option Addr) (c0 : Nat) (l0 : List (S41)) (a1 : Int) (r : Int) (w : World) (hr0 : Kd.C k41 w A0 l0.length l0) (hc0 : l0.length ≤ c0) (h : laws_heldLoanS.f k l0 a1 = some r) :
  Calls Try.prog 34 #[.slice A0 l0.length c0, .int .i64 a1] w fun e w' => e = .returned (.int .i64 r) ∧ Drawn0 w w' := by
 have HR0 := am hr0
 have HC0 := am hc0
 clear hr0 hc0
 have H : (laws_heldLoanS.l0 k l0 a1 0) = some r := h
 clear h
 have H' := am H
 clear H
 go_enter Try.func34, Try.ntmps34
 go_wp2
 go_loopg [1, 5] k (fun kq v1 v5 w' => ∃ (x1_1 : Int) (x5_1 : Int), v1 = .int .i64 x1_1 ∧ v5 = .int .i64 x5_1 ∧ Aside0 (laws_heldLoanS.l0 kq l0 x1_1 x5_1 = some r) ∧ Aside0 (kq ≤ k) ∧ Drawn0 w w')
 case atStart => exact ⟨(a1), (0), sq, sq, H', ⟨Nat.le_refl _⟩, by repeat (first | exact Drawn0.refl _ | apply Drawn0.step)⟩
 case round =>
  clear H'
  obtain ⟨x1_1, x5_1, rfl, rfl, HA, HK1, ⟨m1, rfl⟩⟩ := hrel
  cases gk with
  | zero => exact absurd HA.out (by simp [laws_heldLoanS.l0])
  | succ k1 =>
   have H := HA.out
   clear HA
   simp only [laws_heldLoanS.l0] at H
   by_cases c3 : x5_1 < (l0.length : Int)
   ·rw [if_pos c3] at H
    have c3b0 : decide (x5_1 < (l0.length : Int)) = true := decide_eq_true c3
    clear c3
    by_cases c4 : 0 ≤ x5_1
    ·rw [if_pos c4] at H
     have c4b0 : decide (0 ≤ x5_1) = true := decide_eq_true c4
     clear c4
     by_cases c5 : ((rd_T41 l0 x5_1).f0) = x1_1
     ·rw [if_pos c5] at H
      have c5b0 : (((rd_T41 l0 x5_1).f0) == x1_1) = true := beq_iff_eq.mpr c5
      have c5b1 : (((rd_T41 l0 x5_1).f0) != x1_1) = false := bne_eq_false_iff_eq.mpr c5
      clear c5
      by_cases c6 : ((rd_T41 l0 x5_1).f1) = (wrap64 (x1_1 + 1))
      ·rw [if_pos c6] at H
       have c6b0 : (((rd_T41 l0 x5_1).f1) == (wrap64 (x1_1 + 1))) = true := beq_iff_eq.mpr c6
       have c6b1 : (((rd_T41 l0 x5_1).f1) != (wrap64 (x1_1 + 1))) = false := bne_eq_false_iff_eq.mpr c6
       clear c6
       by_cases c7 : ((rd_T41 l0 x5_1).f2) = (wrap64 ((wrap64 (x1_1 + 1)) + 1))
       ·rw [if_pos c7] at H
        have c7b0 : (((rd_T41 l0 x5_1).f2) == (wrap64 ((wrap64 (x1_1 + 1)) + 1))) = true := beq_iff_eq.mpr c7
        have c7b1 : (((rd_T41 l0 x5_1).f2) != (wrap64 ((wrap64 (x1_1 + 1)) + 1))) = false := bne_eq_false_iff_eq.mpr c7
        clear c7
        by_cases c8 : ((rd_T41 l0 x5_1).f3) = (wrap64 ((wrap64 ((wrap64 (x1_1 + 1)) + 1)) + 1))
        ·rw [if_pos c8] at H
         have c8b0 : (((rd_T41 l0 x5_1).f3) == (wrap64 ((wrap64 ((wrap64 (x1_1 + 1)) + 1)) + 1))) = true := beq_iff_eq.mpr c8
         have c8b1 : (((rd_T41 l0 x5_1).f3) != (wrap64 ((wrap64 ((wrap64 (x1_1 + 1)) + 1)) + 1))) = false := bne_eq_false_iff_eq.mpr c8
         clear c8
         have H' := am H
         clear H
         have p262 : 0 ≤ (x5_1 : Int) := of_decide_eq_true aq
         have q262 : x5_1 < (l0.length : Int) := of_decide_eq_true aq
         obtain ⟨ad262, e262, hx262_0, hx262_1, hx262_2, hx262_3⟩ := at_T41 HR0.out x5_1 p262 q262
         cases e262
         replace p262 := eq_true p262
         replace q262 := eq_true q262
         have p263 : 0 ≤ (x5_1 : Int) := of_decide_eq_true aq
         have q263 : x5_1 < (l0.length : Int) := of_decide_eq_true aq
         obtain ⟨ad263, e263, hx263_0, hx263_1, hx263_2, hx263_3⟩ := at_T41 HR0.out x5_1 p263 q263
         obtain rfl : ad262 = ad263 := (by injection e263)
         replace p263 := eq_true p263
         replace q263 := eq_true q263
         have p264 : 0 ≤ (x5_1 : Int) := of_decide_eq_true aq
         have q264 : x5_1 < (l0.length : Int) := of_decide_eq_true aq
         obtain ⟨ad264, e264, hx264_0, hx264_1, hx264_2, hx264_3⟩ := at_T41 HR0.out x5_1 p264 q264
         obtain rfl : ad262 = ad264 := (by injection e264)
         replace p264 := eq_true p264
         replace q264 := eq_true q264
         have p265 : 0 ≤ (x5_1 : Int) := of_decide_eq_true aq
         have q265 : x5_1 < (l0.length : Int) := of_decide_eq_true aq
         obtain ⟨ad265, e265, hx265_0, hx265_1, hx265_2, hx265_3⟩ := at_T41 HR0.out x5_1 p265 q265
         obtain rfl : ad262 = ad265 := (by injection e265)
         replace p265 := eq_true p265
         replace q265 := eq_true q265
         go_wp2
         go_roundg k1
         case measure => have := HK1.out; omega
         case rel => exact ⟨(wrap64 ((wrap64 ((wrap64 ((wrap64 (x1_1 + 1)) + 1)) + 1)) + 1)), (wrap64 (x5_1 + 1)), sq, sq, H', ⟨by have := HK1.out; omega⟩, by repeat (first | exact Drawn0.refl _ | apply Drawn0.step)⟩
        ·rw [if_neg c8] at H
         have c8b0 : (((rd_T41 l0 x5_1).f3) == (wrap64 ((wrap64 ((wrap64 (x1_1 + 1)) + 1)) + 1))) = false := beq_eq_false_iff_ne.mpr c8
         have c8b1 : (((rd_T41 l0 x5_1).f3) != (wrap64 ((wrap64 ((wrap64 (x1_1 + 1)) + 1)) + 1))) = true := bne_iff_ne.mpr c8
         obtain rfl := Option.some.inj H
         have p262 : 0 ≤ (x5_1 : Int) := of_decide_eq_true aq
         have q262 : x5_1 < (l0.length : Int) := of_decide_eq_true aq
         obtain ⟨ad262, e262, hx262_0, hx262_1, hx262_2, hx262_3⟩ := at_T41 HR0.out x5_1 p262 q262
         cases e262
         replace p262 := eq_true p262
         replace q262 := eq_true q262
         have p263 : 0 ≤ (x5_1 : Int) := of_decide_eq_true aq
         have q263 : x5_1 < (l0.length : Int) := of_decide_eq_true aq
         obtain ⟨ad263, e263, hx263_0, hx263_1, hx263_2, hx263_3⟩ := at_T41 HR0.out x5_1 p263 q263
         obtain rfl : ad262 = ad263 := (by injection e263)
         replace p263 := eq_true p263
         replace q263 := eq_true q263
         have p264 : 0 ≤ (x5_1 : Int) := of_decide_eq_true aq
         have q264 : x5_1 < (l0.length : Int) := of_decide_eq_true aq
         obtain ⟨ad264, e264, hx264_0, hx264_1, hx264_2, hx264_3⟩ := at_T41 HR0.out x5_1 p264 q264
         obtain rfl : ad262 = ad264 := (by injection e264)
         replace p264 := eq_true p264
         replace q264 := eq_true q264
         have p265 : 0 ≤ (x5_1 : Int) := of_decide_eq_true aq
         have q265 : x5_1 < (l0.length : Int) := of_decide_eq_true aq
         obtain ⟨ad265, e265, hx265_0, hx265_1, hx265_2, hx265_3⟩ := at_T41 HR0.out x5_1 p265 q265
         obtain rfl : ad262 = ad265 := (by injection e265)
         replace p265 := eq_true p265
         replace q265 := eq_true q265
         go_wp2
         go_ret
         exact ⟨sq, by repeat (first | exact Drawn0.refl _ | apply Drawn0.step)⟩
       ·rw [if_neg c7] at H
        have c7b0 : (((rd_T41 l0 x5_1).f2) == (wrap64 ((wrap64 (x1_1 + 1)) + 1))) = false := beq_eq_false_iff_ne.mpr c7
        have c7b1 : (((rd_T41 l0 x5_1).f2) != (wrap64 ((wrap64 (x1_1 + 1)) + 1))) = true := bne_iff_ne.mpr c7
        obtain rfl := Option.some.inj H
        have p262 : 0 ≤ (x5_1 : Int) := of_decide_eq_true aq
        have q262 : x5_1 < (l0.length : Int) := of_decide_eq_true aq
        obtain ⟨ad262, e262, hx262_0, hx262_1, hx262_2, hx262_3⟩ := at_T41 HR0.out x5_1 p262 q262
        cases e262
        replace p262 := eq_true p262
        replace q262 := eq_true q262
        have p263 : 0 ≤ (x5_1 : Int) := of_decide_eq_true aq
        have q263 : x5_1 < (l0.length : Int) := of_decide_eq_true aq
        obtain ⟨ad263, e263, hx263_0, hx263_1, hx263_2, hx263_3⟩ := at_T41 HR0.out x5_1 p263 q263
        obtain rfl : ad262 = ad263 := (by injection e263)
        replace p263 := eq_true p263
        replace q263 := eq_true q263
        have p264 : 0 ≤ (x5_1 : Int) := of_decide_eq_true aq
        have q264 : x5_1 < (l0.length : Int) := of_decide_eq_true aq
        obtain ⟨ad264, e264, hx264_0, hx264_1, hx264_2, hx264_3⟩ := at_T41 HR0.out x5_1 p264 q264
        obtain rfl : ad262 = ad264 := (by injection e264)
        replace p264 := eq_true p264
        replace q264 := eq_true q264
        go_wp2
        go_ret
        exact ⟨sq, by repeat (first | exact Drawn0.refl _ | apply Drawn0.step)⟩
      ·rw [if_neg c6] at H
       have c6b0 : (((rd_T41 l0 x5_1).f1) == (wrap64 (x1_1 + 1))) = false := beq_eq_false_iff_ne.mpr c6
       have c6b1 : (((rd_T41 l0 x5_1).f1) != (wrap64 (x1_1 + 1))) = true := bne_iff_ne.mpr c6
       obtain rfl := Option.some.inj H
       have p262 : 0 ≤ (x5_1 : Int) := of_decide_eq_true aq
       have q262 : x5_1 < (l0.length : Int) := of_decide_eq_true aq
       obtain ⟨ad262, e262, hx262_0, hx262_1, hx262_2, hx262_3⟩ := at_T41 HR0.out x5_1 p262 q262
       cases e262
       replace p262 := eq_true p262
       replace q262 := eq_true q262
       have p263 : 0 ≤ (x5_1 : Int) := of_decide_eq_true aq
       have q263 : x5_1 < (l0.length : Int) := of_decide_eq_true aq
       obtain ⟨ad263, e263, hx263_0, hx263_1, hx263_2, hx263_3⟩ := at_T41 HR0.out x5_1 p263 q263
       obtain rfl : ad262 = ad263 := (by injection e263)
       replace p263 := eq_true p263
       replace q263 := eq_true q263
       go_wp2
       go_ret
       exact ⟨sq, by repeat (first | exact Drawn0.refl _ | apply Drawn0.step)⟩
     ·rw [if_neg c5] at H
      have c5b0 : (((rd_T41 l0 x5_1).f0) == x1_1) = false := beq_eq_false_iff_ne.mpr c5
      have c5b1 : (((rd_T41 l0 x5_1).f0) != x1_1) = true := bne_iff_ne.mpr c5
      obtain rfl := Option.some.inj H
      have p262 : 0 ≤ (x5_1 : Int) := of_decide_eq_true aq
      have q262 : x5_1 < (l0.length : Int) := of_decide_eq_true aq
      obtain ⟨ad262, e262, hx262_0, hx262_1, hx262_2, hx262_3⟩ := at_T41 HR0.out x5_1 p262 q262
      cases e262
      replace p262 := eq_true p262
      replace q262 := eq_true q262
      go_wp2
      go_ret
      exact ⟨sq, by repeat (first | exact Drawn0.refl _ | apply Drawn0.step)⟩
    ·rw [if_neg c4] at H
     exact absurd H (by simp)
   ·rw [if_neg c3] at H
    have c3b0 : decide (x5_1 < (l0.length : Int)) = false := decide_eq_false c3
    clear c3
    obtain rfl := Option.some.inj H
    go_wp2
    go_ret
    exact ⟨sq, by repeat (first | exact Drawn0.refl _ | apply Drawn0.step)⟩


/-! ### laws_heldShop: function 13 -/
def laws_heldShop.f (k : Nat) (l0_0 : List Int) (l0_1 : List (S41)) (a1 : Int) : Option (Int) := (laws_heldIntS.f k l0_0 a1).bind fun t267 => (if t267 < 0 then (some (-1)) else ((laws_heldLoanS.f k l0_1 t267).bind fun t268 => (if t268 < 0 then (some (-1)) else (some t268))))
theorem laws_heldShop.mono : ∀ a0 a1 a2 k, LeO (laws_heldShop.f k a0 a1 a2) (laws_heldShop.f (k + 1) a0 a1 a2) := by
 intro a0 a1 a2 k
 unfold laws_heldShop.f
 repeat' first
   | (with_reducible exact laws_heldIntS.mono _ _ _)
   | (with_reducible exact laws_heldLoanS.mono _ _ _)
   | (with_reducible exact LeO.refl _)
   | (with_reducible exact LeO.none _)
   | (with_reducible refine LeO.ite ?_ ?_)
   | (with_reducible refine LeO.bind ?_ (fun _ => ?_))
   | exact laws_heldIntS.mono _ _ _
   | exact laws_heldLoanS.mono _ _ _
   | exact LeO.none _
   | refine LeO.ite ?_ ?_
   | refine LeO.bind ?_ (fun _ => ?_)
set_option maxHeartbeats 8000000 in
set_option maxRecDepth 100000 in
theorem laws_heldShop.calls (k : Nat) (A0_0 : Option Addr) (c0_0 : Nat) (l0_0 : List Int) (A0_1 : Option Addr) (c0_1 : Nat) (l0_1 : List (S41)) (a1 : Int) (r : Int) (w : World) (hr0_0 : Kd.C (Kd.int .i64) w A0_0 l0_0.length l0_0) (hc0_0 : l0_0.length ≤ c0_0) (hr0_1 : Kd.C k41 w A0_1 l0_1.length l0_1) (hc0_1 : l0_1.length ≤ c0_1) (h : laws_heldShop.f k l0_0 l0_1 a1 = some r) :
  Calls Try.prog 13 #[.agg #[.slice A0_0 l0_0.length c0_0, .slice A0_1 l0_1.length c0_1], .int .i64 a1] w fun e w' => e = .returned (.int .i64 r) ∧ Below w.heap.size w w' := by
 have hu29 := Try.underlying29
 have HR0_0 := am hr0_0
 have HC0_0 := am hc0_0
 clear hr0_0 hc0_0
 have HR0_1 := am hr0_1
 have HC0_1 := am hc0_1
 clear hr0_1 hc0_1
 have HB := am (Below.refl w.heap.size w)
 have H : ((laws_heldIntS.f k l0_0 a1).bind fun t267 => (if t267 < 0 then (some (-1)) else ((laws_heldLoanS.f k l0_1 t267).bind fun t268 => (if t268 < 0 then (some (-1)) else (some t268))))) = some r := h
 clear h
 obtain ⟨t267, A3, H⟩ := bindq H
 try dsimp only at H
 by_cases c4 : t267 < 0
 ·rw [if_pos c4] at H
  have c4b0 : decide (t267 < 0) = true := decide_eq_true c4
  clear c4
  obtain rfl := Option.some.inj H
  go_enter Try.func13, Try.ntmps13
  go_wp2_with (first | ((with_reducible refine gate_dst (N := 2) rfl ?_); refine box_event ?hg (N := 2) ?hd (cs := #[.slice A0_0 l0_0.length c0_0, .slice A0_1 l0_1.length c0_1]) (t := 29) ?hr ?_; (case hd => rfl); (case hg => rfl); (case hr => first | (go_simp; done) | (go_simp; rfl)); intro gb266 hg w5 hbox hb; have BK266 := am (hbox); have GW266 := am (gq hg); have GE266 := am (gq hg); replace HB := sb hb; clear hb hbox hg; have ⟨hcz6_0, hcz6_1, hfz6_0, hfz6_1⟩ := bc2 BK266) | ((with_reducible refine gate_callee (f := 33) rfl ?_); refine goesQ (some 8) Try.func33 #[.slice A0_0 l0_0.length c0_0, .int .i64 a1] ?_; (with_reducible refine (laws_heldIntS.calls k _ _ l0_0 a1 t267 _ ?s1 ?s2 A3.out).mono ?_); (case s1 => exact cq (Kd.C_below HR0_0.out HB.out)); (case s2 => exact HC0_0.out); rintro e w' ⟨rfl, ⟨nd, rfl⟩⟩; refine ⟨_, rfl, ?_⟩))
  go_ret
  exact ⟨eq_, bq⟩
 ·rw [if_neg c4] at H
  have c4b0 : decide (t267 < 0) = false := decide_eq_false c4
  clear c4
  obtain ⟨t268, A7, H⟩ := bindq H
  try dsimp only at H
  by_cases c8 : t268 < 0
  ·rw [if_pos c8] at H
   have c8b0 : decide (t268 < 0) = true := decide_eq_true c8
   clear c8
   obtain rfl := Option.some.inj H
   go_enter Try.func13, Try.ntmps13
   go_wp2_with (first | ((with_reducible refine gate_dst (N := 2) rfl ?_); refine box_event ?hg (N := 2) ?hd (cs := #[.slice A0_0 l0_0.length c0_0, .slice A0_1 l0_1.length c0_1]) (t := 29) ?hr ?_; (case hd => rfl); (case hg => rfl); (case hr => first | (go_simp; done) | (go_simp; rfl)); intro gb266 hg w9 hbox hb; have BK266 := am (hbox); have GW266 := am (gq hg); have GE266 := am (gq hg); replace HB := sb hb; clear hb hbox hg; have ⟨hcz10_0, hcz10_1, hfz10_0, hfz10_1⟩ := bc2 BK266) | ((with_reducible refine gate_callee (f := 33) rfl ?_); refine goesQ (some 8) Try.func33 #[.slice A0_0 l0_0.length c0_0, .int .i64 a1] ?_; (with_reducible refine (laws_heldIntS.calls k _ _ l0_0 a1 t267 _ ?s1 ?s2 A3.out).mono ?_); (case s1 => exact cq (Kd.C_below HR0_0.out HB.out)); (case s2 => exact HC0_0.out); rintro e w' ⟨rfl, ⟨nd, rfl⟩⟩; refine ⟨_, rfl, ?_⟩) | ((with_reducible refine gate_callee (f := 34) rfl ?_); refine goesQ (some 14) Try.func34 #[.slice A0_1 l0_1.length c0_1, .int .i64 t267] ?_; (with_reducible refine (laws_heldLoanS.calls k _ _ l0_1 t267 t268 _ ?s1 ?s2 A7.out).mono ?_); (case s1 => exact cq (Kd.C_below HR0_1.out bq)); (case s2 => exact HC0_1.out); rintro e w' ⟨rfl, ⟨nd, rfl⟩⟩; refine ⟨_, rfl, ?_⟩))
   go_ret
   exact ⟨eq_, bq⟩
  ·rw [if_neg c8] at H
   have c8b0 : decide (t268 < 0) = false := decide_eq_false c8
   clear c8
   obtain rfl := Option.some.inj H
   go_enter Try.func13, Try.ntmps13
   go_wp2_with (first | ((with_reducible refine gate_dst (N := 2) rfl ?_); refine box_event ?hg (N := 2) ?hd (cs := #[.slice A0_0 l0_0.length c0_0, .slice A0_1 l0_1.length c0_1]) (t := 29) ?hr ?_; (case hd => rfl); (case hg => rfl); (case hr => first | (go_simp; done) | (go_simp; rfl)); intro gb266 hg w11 hbox hb; have BK266 := am (hbox); have GW266 := am (gq hg); have GE266 := am (gq hg); replace HB := sb hb; clear hb hbox hg; have ⟨hcz12_0, hcz12_1, hfz12_0, hfz12_1⟩ := bc2 BK266) | ((with_reducible refine gate_callee (f := 33) rfl ?_); refine goesQ (some 8) Try.func33 #[.slice A0_0 l0_0.length c0_0, .int .i64 a1] ?_; (with_reducible refine (laws_heldIntS.calls k _ _ l0_0 a1 t267 _ ?s1 ?s2 A3.out).mono ?_); (case s1 => exact cq (Kd.C_below HR0_0.out HB.out)); (case s2 => exact HC0_0.out); rintro e w' ⟨rfl, ⟨nd, rfl⟩⟩; refine ⟨_, rfl, ?_⟩) | ((with_reducible refine gate_callee (f := 34) rfl ?_); refine goesQ (some 14) Try.func34 #[.slice A0_1 l0_1.length c0_1, .int .i64 t267] ?_; (with_reducible refine (laws_heldLoanS.calls k _ _ l0_1 t267 t268 _ ?s1 ?s2 A7.out).mono ?_); (case s1 => exact cq (Kd.C_below HR0_1.out bq)); (case s2 => exact HC0_1.out); rintro e w' ⟨rfl, ⟨nd, rfl⟩⟩; refine ⟨_, rfl, ?_⟩))
   go_ret
   exact ⟨eq_, bq⟩



/-! ### laws_FnExactLostParts: function 3 -/
mutual
def laws_FnExactLostParts.j0 : Nat → Int → Bool → Bool → Bool → List Int → List (S39) → List Int → List (S41) → List Int → List (S41) → List Int → List (S41) → Option (Bool)
 | 0, _, _, _, _, _, _, _, _, _, _, _, _ => none
 | k + 1, x1, x7, x10, x44, x270000, x270001, x285000, x285001, x292000, x292001, x300000, x300001 => if x44 = true then (some false) else ((laws_toShop.f k x270000 x270001).bind fun bt301 => ((laws_eqShop.f k x292000 x292001 bt301.1 bt301.2).bind fun t307 => (if t307 = true then ((laws_markShop.f k x292000 x292001 1).bind fun bt308 => (if bt308.1 < 0 then (laws_FnExactLostParts.j1 k x1 x7 true x270000 x270001 x285000 x285001 x300000 x300001) else ((laws_eqShop.f k x300000 x300001 x285000 x285001).bind fun t311 => (if t311 = true then (laws_FnExactLostParts.j1 k x1 x7 (x10 != x7) x270000 x270001 x285000 x285001 x300000 x300001) else (laws_FnExactLostParts.j1 k x1 x7 true x270000 x270001 x285000 x285001 x300000 x300001))))) else (some false))))
def laws_FnExactLostParts.j1 : Nat → Int → Bool → Bool → List Int → List (S39) → List Int → List (S41) → List Int → List (S41) → Option (Bool)
 | 0, _, _, _, _, _, _, _, _, _ => none
 | k + 1, x1, x7, x65, x270000, x270001, x285000, x285001, x300000, x300001 => if x65 = true then (some false) else ((laws_markShop.f k x300000 x300001 1).bind fun bt312 => ((laws_heldShop.f k bt312.2.1 bt312.2.2 1).bind fun t315 => (if t315 < 0 then (some false) else (if t315 = bt312.1 then ((laws_toShop.f k x270000 x270001).bind fun bt316 => ((impl_LostParts.f k bt316.1 bt316.2 x1).bind fun bt322 => ((laws_eqShop.f k bt322.1 bt322.2.1 x285000 x285001).bind fun t330 => (if t330 = true then (laws_FnExactLostParts.j2 k bt312.1 (bt322.2.2 != x7) bt312.2.1 bt312.2.2) else (laws_FnExactLostParts.j2 k bt312.1 true bt312.2.1 bt312.2.2))))) else (some false)))))
def laws_FnExactLostParts.j2 : Nat → Int → Bool → List Int → List (S41) → Option (Bool)
 | 0, _, _, _, _ => none
 | k + 1, x12, x92, x300000, x300001 => if x92 = true then (some false) else ((laws_heldShop.f k x300000 x300001 1).bind fun t331 => (if t331 < 0 then (some false) else (if t331 = x12 then (some true) else (some false))))
end
def laws_FnExactLostParts.f (k : Nat) (l0_0 : List Int) (l0_1 : List (S39)) (a1 : Int) : Option (Bool) := (laws_szShop.f l0_0 l0_1 1048576).bind fun t270 => (if t270 < 0 then (some true) else ((laws_toShop.f k l0_0 l0_1).bind fun bt271 => ((spec_LostParts.f k bt271.1 bt271.2 a1).bind fun bt277 => ((laws_toShop.f k l0_0 l0_1).bind fun bt285 => ((impl_LostParts.f k bt285.1 bt285.2 a1).bind fun bt292 => ((laws_eqShop.f k bt292.1 bt292.2.1 bt277.1 bt277.2.1).bind fun t300 => (if t300 = true then (laws_FnExactLostParts.j0 k a1 bt277.2.2 bt292.2.2 (bt292.2.2 != bt277.2.2) l0_0 l0_1 bt277.1 bt277.2.1 bt285.1 bt285.2 bt292.1 bt292.2.1) else (laws_FnExactLostParts.j0 k a1 bt277.2.2 bt292.2.2 true l0_0 l0_1 bt277.1 bt277.2.1 bt285.1 bt285.2 bt292.1 bt292.2.1))))))))
theorem laws_FnExactLostParts.mono_l : ∀ k, (∀ y0 y1 y2 y3 y4 y5 y6 y7 y8 y9 y10 y11, LeO (laws_FnExactLostParts.j0 k y0 y1 y2 y3 y4 y5 y6 y7 y8 y9 y10 y11) (laws_FnExactLostParts.j0 (k + 1) y0 y1 y2 y3 y4 y5 y6 y7 y8 y9 y10 y11)) ∧ (∀ y0 y1 y2 y3 y4 y5 y6 y7 y8, LeO (laws_FnExactLostParts.j1 k y0 y1 y2 y3 y4 y5 y6 y7 y8) (laws_FnExactLostParts.j1 (k + 1) y0 y1 y2 y3 y4 y5 y6 y7 y8)) ∧ (∀ y0 y1 y2 y3, LeO (laws_FnExactLostParts.j2 k y0 y1 y2 y3) (laws_FnExactLostParts.j2 (k + 1) y0 y1 y2 y3))
 | 0 => ⟨fun _ _ _ _ _ _ _ _ _ _ _ _ r h => by simp [laws_FnExactLostParts.j0] at h, fun _ _ _ _ _ _ _ _ _ r h => by simp [laws_FnExactLostParts.j1] at h, fun _ _ _ _ r h => by simp [laws_FnExactLostParts.j2] at h⟩
 | k + 1 => by
  obtain ⟨ih0, ih1, ih2⟩ := laws_FnExactLostParts.mono_l k
  refine ⟨?_, ?_, ?_⟩
  ·intro y0 y1 y2 y3 y4 y5 y6 y7 y8 y9 y10 y11
   unfold laws_FnExactLostParts.j0
   repeat' first
   | (with_reducible exact ih0 _ _ _ _ _ _ _ _ _ _ _ _)
   | (with_reducible exact ih1 _ _ _ _ _ _ _ _ _)
   | (with_reducible exact ih2 _ _ _ _)
   | (with_reducible exact impl_LostParts.mono _ _ _ _)
   | (with_reducible exact laws_eqShop.mono _ _ _ _ _)
   | (with_reducible exact laws_heldShop.mono _ _ _ _)
   | (with_reducible exact laws_markShop.mono _ _ _ _)
   | (with_reducible exact laws_toShop.mono _ _ _)
   | (with_reducible exact spec_LostParts.mono _ _ _ _)
   | (with_reducible exact LeO.refl _)
   | (with_reducible exact LeO.none _)
   | (with_reducible refine LeO.ite ?_ ?_)
   | (with_reducible refine LeO.bind ?_ (fun _ => ?_))
   | exact ih0 _ _ _ _ _ _ _ _ _ _ _ _
   | exact ih1 _ _ _ _ _ _ _ _ _
   | exact ih2 _ _ _ _
   | exact impl_LostParts.mono _ _ _ _
   | exact laws_eqShop.mono _ _ _ _ _
   | exact laws_heldShop.mono _ _ _ _
   | exact laws_markShop.mono _ _ _ _
   | exact laws_toShop.mono _ _ _
   | exact spec_LostParts.mono _ _ _ _
   | exact LeO.none _
   | refine LeO.ite ?_ ?_
   | refine LeO.bind ?_ (fun _ => ?_)
  ·intro y0 y1 y2 y3 y4 y5 y6 y7 y8
   unfold laws_FnExactLostParts.j1
   repeat' first
   | (with_reducible exact ih0 _ _ _ _ _ _ _ _ _ _ _ _)
   | (with_reducible exact ih1 _ _ _ _ _ _ _ _ _)
   | (with_reducible exact ih2 _ _ _ _)
   | (with_reducible exact impl_LostParts.mono _ _ _ _)
   | (with_reducible exact laws_eqShop.mono _ _ _ _ _)
   | (with_reducible exact laws_heldShop.mono _ _ _ _)
   | (with_reducible exact laws_markShop.mono _ _ _ _)
   | (with_reducible exact laws_toShop.mono _ _ _)
   | (with_reducible exact spec_LostParts.mono _ _ _ _)
   | (with_reducible exact LeO.refl _)
   | (with_reducible exact LeO.none _)
   | (with_reducible refine LeO.ite ?_ ?_)
   | (with_reducible refine LeO.bind ?_ (fun _ => ?_))
   | exact ih0 _ _ _ _ _ _ _ _ _ _ _ _
   | exact ih1 _ _ _ _ _ _ _ _ _
   | exact ih2 _ _ _ _
   | exact impl_LostParts.mono _ _ _ _
   | exact laws_eqShop.mono _ _ _ _ _
   | exact laws_heldShop.mono _ _ _ _
   | exact laws_markShop.mono _ _ _ _
   | exact laws_toShop.mono _ _ _
   | exact spec_LostParts.mono _ _ _ _
   | exact LeO.none _
   | refine LeO.ite ?_ ?_
   | refine LeO.bind ?_ (fun _ => ?_)
  ·intro y0 y1 y2 y3
   unfold laws_FnExactLostParts.j2
   repeat' first
   | (with_reducible exact ih0 _ _ _ _ _ _ _ _ _ _ _ _)
   | (with_reducible exact ih1 _ _ _ _ _ _ _ _ _)
   | (with_reducible exact ih2 _ _ _ _)
   | (with_reducible exact impl_LostParts.mono _ _ _ _)
   | (with_reducible exact laws_eqShop.mono _ _ _ _ _)
   | (with_reducible exact laws_heldShop.mono _ _ _ _)
   | (with_reducible exact laws_markShop.mono _ _ _ _)
   | (with_reducible exact laws_toShop.mono _ _ _)
   | (with_reducible exact spec_LostParts.mono _ _ _ _)
   | (with_reducible exact LeO.refl _)
   | (with_reducible exact LeO.none _)
   | (with_reducible refine LeO.ite ?_ ?_)
   | (with_reducible refine LeO.bind ?_ (fun _ => ?_))
   | exact ih0 _ _ _ _ _ _ _ _ _ _ _ _
   | exact ih1 _ _ _ _ _ _ _ _ _
   | exact ih2 _ _ _ _
   | exact impl_LostParts.mono _ _ _ _
   | exact laws_eqShop.mono _ _ _ _ _
   | exact laws_heldShop.mono _ _ _ _
   | exact laws_markShop.mono _ _ _ _
   | exact laws_toShop.mono _ _ _
   | exact spec_LostParts.mono _ _ _ _
   | exact LeO.none _
   | refine LeO.ite ?_ ?_
   | refine LeO.bind ?_ (fun _ => ?_)
theorem laws_FnExactLostParts.mono : ∀ a0 a1 a2 k, LeO (laws_FnExactLostParts.f k a0 a1 a2) (laws_FnExactLostParts.f (k + 1) a0 a1 a2) := by
 intro a0 a1 a2 k
 obtain ⟨ih0, ih1, ih2⟩ := laws_FnExactLostParts.mono_l k
 unfold laws_FnExactLostParts.f
 repeat' first
   | (with_reducible exact ih0 _ _ _ _ _ _ _ _ _ _ _ _)
   | (with_reducible exact ih1 _ _ _ _ _ _ _ _ _)
   | (with_reducible exact ih2 _ _ _ _)
   | (with_reducible exact impl_LostParts.mono _ _ _ _)
   | (with_reducible exact laws_eqShop.mono _ _ _ _ _)
   | (with_reducible exact laws_heldShop.mono _ _ _ _)
   | (with_reducible exact laws_markShop.mono _ _ _ _)
   | (with_reducible exact laws_toShop.mono _ _ _)
   | (with_reducible exact spec_LostParts.mono _ _ _ _)
   | (with_reducible exact LeO.refl _)
   | (with_reducible exact LeO.none _)
   | (with_reducible refine LeO.ite ?_ ?_)
   | (with_reducible refine LeO.bind ?_ (fun _ => ?_))
   | exact ih0 _ _ _ _ _ _ _ _ _ _ _ _
   | exact ih1 _ _ _ _ _ _ _ _ _
   | exact ih2 _ _ _ _
   | exact impl_LostParts.mono _ _ _ _
   | exact laws_eqShop.mono _ _ _ _ _
   | exact laws_heldShop.mono _ _ _ _
   | exact laws_markShop.mono _ _ _ _
   | exact laws_toShop.mono _ _ _
   | exact spec_LostParts.mono _ _ _ _
   | exact LeO.none _
   | refine LeO.ite ?_ ?_
   | refine LeO.bind ?_ (fun _ => ?_)
set_option maxHeartbeats 8000000 in
set_option maxRecDepth 100000 in
theorem laws_FnExactLostParts.calls (k : Nat) (A0_0 : Option Addr) (c0_0 : Nat) (l0_0 : List Int) (A0_1 : Option Addr) (c0_1 : Nat) (l0_1 : List (S39)) (a1 : Int) (r : Bool) (w : World) (hr0_0 : Kd.C (Kd.int .i64) w A0_0 l0_0.length l0_0) (hc0_0 : l0_0.length ≤ c0_0) (hr0_1 : Kd.C k39 w A0_1 l0_1.length l0_1) (hc0_1 : l0_1.length ≤ c0_1) (h : laws_FnExactLostParts.f k l0_0 l0_1 a1 = some r) :
  Calls Try.prog 3 #[.agg #[.slice A0_0 l0_0.length c0_0, .slice A0_1 l0_1.length c0_1], .int .i64 a1] w fun e w' => e = .returned (.bool r) ∧ Below w.heap.size w w' := by
 have hu25 := Try.underlying25
 have hu29 := Try.underlying29
 have HR0_0 := am hr0_0
 have HC0_0 := am hc0_0
 clear hr0_0 hc0_0
 have HR0_1 := am hr0_1
 have HC0_1 := am hc0_1
 clear hr0_1 hc0_1
 have HB := am (Below.refl w.heap.size w)
 have H : ((laws_szShop.f l0_0 l0_1 1048576).bind fun t270 => (if t270 < 0 then (some true) else ((laws_toShop.f k l0_0 l0_1).bind fun bt271 => ((spec_LostParts.f k bt271.1 bt271.2 a1).bind fun bt277 => ((laws_toShop.f k l0_0 l0_1).bind fun bt285 => ((impl_LostParts.f k bt285.1 bt285.2 a1).bind fun bt292 => ((laws_eqShop.f k bt292.1 bt292.2.1 bt277.1 bt277.2.1).bind fun t300 => (if t300 = true then (laws_FnExactLostParts.j0 k a1 bt277.2.2 bt292.2.2 (bt292.2.2 != bt277.2.2) l0_0 l0_1 bt277.1 bt277.2.1 bt285.1 bt285.2 bt292.1 bt292.2.1) else (laws_FnExactLostParts.j0 k a1 bt277.2.2 bt292.2.2 true l0_0 l0_1 bt277.1 bt277.2.1 bt285.1 bt285.2 bt292.1 bt292.2.1))))))))) = some r := h
 clear h
 obtain ⟨t270, A3, H⟩ := bindq H
 try dsimp only at H
 by_cases c4 : t270 < 0
 ·rw [if_pos c4] at H
  have c4b0 : decide (t270 < 0) = true := decide_eq_true c4
  clear c4
  obtain rfl := Option.some.inj H
  go_enter Try.func3, Try.ntmps3
  go_wp2_with (first | ((with_reducible refine gate_dst (N := 2) rfl ?_); refine box_event ?hg (N := 2) ?hd (cs := #[.slice A0_0 l0_0.length c0_0, .slice A0_1 l0_1.length c0_1]) (t := 25) ?hr ?_; (case hd => rfl); (case hg => rfl); (case hr => first | (go_simp; done) | (go_simp; rfl)); intro gb269 hg w5 hbox hb; have BK269 := am (hbox); have GW269 := am (gq hg); have GE269 := am (gq hg); replace HB := sb hb; clear hb hbox hg; have ⟨hcz6_0, hcz6_1, hfz6_0, hfz6_1⟩ := bc2 BK269) | ((with_reducible refine gate_callee (f := 7) rfl ?_); refine goesQ (some 18) Try.func7 #[.agg #[.slice A0_0 l0_0.length c0_0, .slice A0_1 l0_1.length c0_1], .int .i64 1048576] ?_; (with_reducible refine (laws_szShop.calls _ _ l0_0 _ _ l0_1 1048576 t270 _ ?s1 ?s2 ?s3 ?s4 A3.out).mono ?_); (case s1 => exact cq (Kd.C_below HR0_0.out HB.out)); (case s2 => exact HC0_0.out); (case s3 => exact cq (Kd.C_below HR0_1.out HB.out)); (case s4 => exact HC0_1.out); rintro e w7 ⟨rfl, hb⟩; refine ⟨_, rfl, ?_⟩; replace BK269 := zb BK269 hb; replace HB := sb hb; (try clear hb)))
  go_ret
  exact ⟨eq_, bq⟩
 ·rw [if_neg c4] at H
  have c4b0 : decide (t270 < 0) = false := decide_eq_false c4
  clear c4
  obtain ⟨⟨t271, t274⟩, A8, H⟩ := bindq H
  try dsimp only at H
  obtain ⟨⟨t277, t280, t283⟩, A9, H⟩ := bindq H
  try dsimp only at H
  obtain ⟨⟨t285, t288⟩, A10, H⟩ := bindq H
  try dsimp only at H
  obtain ⟨⟨t292, t295, t298⟩, A11, H⟩ := bindq H
  try dsimp only at H
  have HC12 := am H
  clear H
  go_enter Try.func3, Try.ntmps3
  go_upto_region 8 with (first | ((with_reducible refine gate_dst (N := 2) rfl ?_); refine box_event ?hg (N := 2) ?hd (cs := #[.slice A0_0 l0_0.length c0_0, .slice A0_1 l0_1.length c0_1]) (t := 25) ?hr ?_; (case hd => rfl); (case hg => rfl); (case hr => first | (go_simp; done) | (go_simp; rfl)); intro gb269 hg w13 hbox hb; have BK269 := am (hbox); have GW269 := am (gq hg); have GE269 := am (gq hg); replace HB := sb hb; clear hb hbox hg; have ⟨hcz14_0, hcz14_1, hfz14_0, hfz14_1⟩ := bc2 BK269) | ((with_reducible refine gate_callee (f := 7) rfl ?_); refine goesQ (some 18) Try.func7 #[.agg #[.slice A0_0 l0_0.length c0_0, .slice A0_1 l0_1.length c0_1], .int .i64 1048576] ?_; (with_reducible refine (laws_szShop.calls _ _ l0_0 _ _ l0_1 1048576 t270 _ ?s1 ?s2 ?s3 ?s4 A3.out).mono ?_); (case s1 => exact cq (Kd.C_below HR0_0.out HB.out)); (case s2 => exact HC0_0.out); (case s3 => exact cq (Kd.C_below HR0_1.out HB.out)); (case s4 => exact HC0_1.out); rintro e w15 ⟨rfl, hb⟩; refine ⟨_, rfl, ?_⟩; replace BK269 := zb BK269 hb; replace HB := sb hb; (try clear hb); have ⟨hcz16_0, hcz16_1, hfz16_0, hfz16_1⟩ := bc2 BK269) | ((with_reducible refine gate_callee (f := 9) rfl ?_); refine goesQ (some 23) Try.func9 #[.agg #[.slice A0_0 l0_0.length c0_0, .slice A0_1 l0_1.length c0_1]] ?_; (with_reducible refine (laws_toShop.calls k _ _ l0_0 _ _ l0_1 t271 t274 _ ?s1 ?s2 ?s3 ?s4 A8.out).mono ?_); (case s1 => exact cq (Kd.C_below HR0_0.out HB.out)); (case s2 => exact HC0_0.out); (case s3 => exact cq (Kd.C_below HR0_1.out HB.out)); (case s4 => exact HC0_1.out); rintro e w17 ⟨v272, v275, rfl, ho0, ho1, hb⟩; refine ⟨_, rfl, ?_⟩; have HO273 := rl ho0; have HO276 := rl ho1; replace BK269 := zb BK269 hb; replace HB := sb hb; (try clear hb ho0 ho1); obtain ⟨Ao18, co18, eo18⟩ := Kd.R_slice HO273.out; subst eo18; obtain ⟨Ao19, co19, eo19⟩ := Kd.R_slice HO276.out; subst eo19) | ((with_reducible refine gate_callee (f := 8) rfl ?_); refine goesQ (some 25) Try.func8 #[.agg #[.slice Ao18 t271.length co18, .slice Ao19 t274.length co19], .int .i64 a1] ?_; (with_reducible refine (spec_LostParts.calls k _ _ t271 _ _ t274 a1 t277 t280 t283 _ ?s1 ?s2 ?s3 ?s4 A9.out).mono ?_); (case s1 => exact cr HO273); (case s2 => exact rq1 HO273); (case s3 => exact cr HO276); (case s4 => exact rq1 HO276); rintro e w20 ⟨v278, v281, rfl, ho0, ho1, hb⟩; refine ⟨_, rfl, ?_⟩; have HO279 := rl (Kd.R_new' ho0 (lw HO273)); replace HO273 := am (Kd.R_elder' (rq HO273) (Kd.R_base ho0) hb); have HO282 := rl (Kd.R_new' ho1 (lw HO276)); replace HO276 := am (Kd.R_elder' (rq HO276) (Kd.R_base ho1) hb); replace BK269 := zb BK269 hb; replace HB := sb hb; (try clear hb ho0 ho1)) | ((with_reducible refine gate_dst (N := 6) rfl ?_); refine box_event ?hg (N := 6) ?hd (cs := #[.slice none 0 0, .slice none 0 0]) (t := 29) ?hr ?_; (case hd => rfl); (case hg => rfl); (case hr => first | (go_simp; done) | (go_simp; rfl)); intro gb284 hg w21 hbox hb; replace HO273 := rb HO273 hb; replace HO276 := rb HO276 hb; replace HO279 := rb HO279 hb; replace HO282 := rb HO282 hb; have BK284 := am (hbox); have GW284 := am (gq hg); have GE284 := am (gq hg); replace HB := sb hb; have NB269_284 := nl hg BK269; have NB284_269 := ng hg BK269; replace BK269 := zb BK269 hb; clear hb hbox hg; obtain ⟨Ao22, co22, eo22⟩ := Kd.R_slice HO279.out; subst eo22; have hnb23 := NB284_269.out; have hnc23 := NB269_284.out; have ⟨hcz24_0, hcz24_1, hfz24_0, hfz24_1⟩ := bc2 BK284; obtain ⟨Ao25, co25, eo25⟩ := Kd.R_slice HO282.out; subst eo25; have ⟨hcz26_0, hcz26_1, hfz26_0, hfz26_1⟩ := bc2 BK269) | ((with_reducible refine gate_callee (f := 9) rfl ?_); refine goesQ (some 29) Try.func9 #[.agg #[.slice A0_0 l0_0.length c0_0, .slice A0_1 l0_1.length c0_1]] ?_; (with_reducible refine (laws_toShop.calls k _ _ l0_0 _ _ l0_1 t285 t288 _ ?s1 ?s2 ?s3 ?s4 A10.out).mono ?_); (case s1 => exact Kd.C_below HR0_0.out bq); (case s2 => exact HC0_0.out); (case s3 => exact Kd.C_below HR0_1.out bq); (case s4 => exact HC0_1.out); rintro e w27 ⟨v286, v289, rfl, ho0, ho1, hb⟩; refine ⟨_, rfl, ?_⟩; have HO287 := rl (Kd.R_new' (Kd.R_new' ho0 (Kd.R_lt (fq HO273 BK284))) (Kd.R_lt (fq HO279 BK284))); replace HO273 := am (Kd.R_elder' (fq HO273 BK284) (Kd.R_base ho0) hb); replace HO279 := am (Kd.R_elder' (fq HO279 BK284) (Kd.R_base ho0) hb); have HO290 := rl (Kd.R_new' (Kd.R_new' ho1 (Kd.R_lt (fq HO276 BK284))) (Kd.R_lt (fq HO282 BK284))); replace HO276 := am (Kd.R_elder' (fq HO276 BK284) (Kd.R_base ho1) hb); replace HO282 := am (Kd.R_elder' (fq HO282 BK284) (Kd.R_base ho1) hb); replace BK269 := am (blk_below (g := gb269) (o := .cells #[.slice A0_0 l0_0.length c0_0, .slice A0_1 l0_1.length c0_1] 25 (0, 0)) (zp BK269) hb); replace BK284 := am (blk_below (g := gb284) (o := .cells #[.slice Ao22 t277.length co22, .slice Ao25 t280.length co25] 29 (0, 0)) (zp BK284) hb); replace HB := sb hb; (try clear hb ho0 ho1)) | ((with_reducible refine gate_dst (N := 8) rfl ?_); refine box_event ?hg (N := 8) ?hd (cs := #[.slice none 0 0, .slice none 0 0]) (t := 29) ?hr ?_; (case hd => rfl); (case hg => rfl); (case hr => first | (go_simp; done) | (go_simp; rfl)); intro gb291 hg w28 hbox hb; replace HO273 := rb HO273 hb; replace HO276 := rb HO276 hb; replace HO279 := rb HO279 hb; replace HO282 := rb HO282 hb; replace HO287 := rb HO287 hb; replace HO290 := rb HO290 hb; have BK291 := am (hbox); have GW291 := am (gq hg); have GE291 := am (gq hg); replace HB := sb hb; have NB269_291 := nl hg BK269; have NB291_269 := ng hg BK269; replace BK269 := zb BK269 hb; have NB284_291 := nl hg BK284; have NB291_284 := ng hg BK284; replace BK284 := zb BK284 hb; clear hb hbox hg; obtain ⟨Ao29, co29, eo29⟩ := Kd.R_slice HO287.out; subst eo29; have hnb30 := NB291_269.out; have hnc30 := NB269_291.out; have hnb31 := NB291_284.out; have hnc31 := NB284_291.out; have ⟨hcz32_0, hcz32_1, hfz32_0, hfz32_1⟩ := bc2 BK291; obtain ⟨Ao33, co33, eo33⟩ := Kd.R_slice HO290.out; subst eo33) | ((with_reducible refine gate_callee (f := 10) rfl ?_); refine goesQ (some 33) Try.func10 #[.agg #[.slice Ao29 t285.length co29, .slice Ao33 t288.length co33], .int .i64 a1] ?_; (with_reducible refine (impl_LostParts.calls k _ _ t285 _ _ t288 a1 t292 t295 t298 _ ?s1 ?s2 ?s3 ?s4 A11.out).mono ?_); (case s1 => exact cf HO287 BK291); (case s2 => exact rq1 HO287); (case s3 => exact cf HO290 BK291); (case s4 => exact rq1 HO290); rintro e w34 ⟨v293, v296, rfl, ho0, ho1, hb⟩; refine ⟨_, rfl, ?_⟩; have HO294 := rl (Kd.R_new' (Kd.R_new' (Kd.R_new' ho0 (Kd.R_lt (fq HO273 BK291))) (Kd.R_lt (fq HO279 BK291))) (Kd.R_lt (fq HO287 BK291))); replace HO279 := am (Kd.R_elder' (fq HO279 BK291) (Kd.R_base ho0) hb); replace HO287 := am (Kd.R_elder' (fq HO287 BK291) (Kd.R_base ho0) hb); have HO297 := rl (Kd.R_new' (Kd.R_new' (Kd.R_new' ho1 (Kd.R_lt (fq HO276 BK291))) (Kd.R_lt (fq HO282 BK291))) (Kd.R_lt (fq HO290 BK291))); replace HO282 := am (Kd.R_elder' (fq HO282 BK291) (Kd.R_base ho1) hb); replace HO290 := am (Kd.R_elder' (fq HO290 BK291) (Kd.R_base ho1) hb); replace BK269 := am (blk_below (g := gb269) (o := .cells #[.slice A0_0 l0_0.length c0_0, .slice A0_1 l0_1.length c0_1] 25 (0, 0)) (zp BK269) hb); replace BK284 := am (blk_below (g := gb284) (o := .cells #[.slice Ao22 t277.length co22, .slice Ao25 t280.length co25] 29 (0, 0)) (zp BK284) hb); replace BK291 := am (blk_below (g := gb291) (o := .cells #[.slice Ao29 t285.length co29, .slice Ao33 t288.length co33] 29 (0, 0)) (zp BK291) hb); replace HB := sb hb; (try clear hb ho0 ho1)) | ((with_reducible refine gate_dst (N := 9) rfl ?_); refine box_event ?hg (N := 9) ?hd (cs := #[.slice none 0 0, .slice none 0 0]) (t := 29) ?hr ?_; (case hd => rfl); (case hg => rfl); (case hr => first | (go_simp; done) | (go_simp; rfl)); intro gb299 hg w35 hbox hb; replace HO279 := rb HO279 hb; replace HO282 := rb HO282 hb; replace HO287 := rb HO287 hb; replace HO290 := rb HO290 hb; replace HO294 := rb HO294 hb; replace HO297 := rb HO297 hb; have BK299 := am (hbox); have GW299 := am (gq hg); have GE299 := am (gq hg); replace HB := sb hb; have NB269_299 := nl hg BK269; have NB299_269 := ng hg BK269; replace BK269 := zb BK269 hb; have NB284_299 := nl hg BK284; have NB299_284 := ng hg BK284; replace BK284 := zb BK284 hb; have NB291_299 := nl hg BK291; have NB299_291 := ng hg BK291; replace BK291 := zb BK291 hb; clear hb hbox hg; obtain ⟨Ao36, co36, eo36⟩ := Kd.R_slice HO294.out; subst eo36; have hnb37 := NB299_269.out; have hnc37 := NB269_299.out; have hnb38 := NB299_284.out; have hnc38 := NB284_299.out; have hnb39 := NB299_291.out; have hnc39 := NB291_299.out; have ⟨hcz40_0, hcz40_1, hfz40_0, hfz40_1⟩ := bc2 BK299; obtain ⟨Ao41, co41, eo41⟩ := Kd.R_slice HO297.out; subst eo41))
  (try simp only [Act.put, List.setIfInBounds_toArray, List.set_cons_zero, List.set_cons_succ])
  go_cut [44] (fun v44 wc => ∃ (kq : Nat) (x44_11 : Bool), v44 = .bool x44_11 ∧ Aside0 (laws_FnExactLostParts.j0 kq a1 t283 t298 x44_11 l0_0 l0_1 t277 t280 t285 t288 t292 t295 = some r) ∧ Aside0 (kq ≤ k) ∧ Aside0 (Kd.R (Kd.int .i64) 3 wc w.heap.size (fun k_ => some k_ ≠ ((.slice Ao29 t285.length co29) : Value).ownBlock ∧ some k_ ≠ ((.slice Ao36 t292.length co36) : Value).ownBlock) (.slice Ao22 t277.length co22) t277) ∧ Aside0 (Kd.R k41 41 wc w.heap.size (fun k_ => some k_ ≠ ((.slice Ao33 t288.length co33) : Value).ownBlock ∧ some k_ ≠ ((.slice Ao41 t295.length co41) : Value).ownBlock) (.slice Ao25 t280.length co25) t280) ∧ Aside0 (Kd.R (Kd.int .i64) 3 wc w.heap.size (fun k_ => some k_ ≠ ((.slice Ao22 t277.length co22) : Value).ownBlock ∧ some k_ ≠ ((.slice Ao36 t292.length co36) : Value).ownBlock) (.slice Ao29 t285.length co29) t285) ∧ Aside0 (Kd.R k41 41 wc w.heap.size (fun k_ => some k_ ≠ ((.slice Ao25 t280.length co25) : Value).ownBlock ∧ some k_ ≠ ((.slice Ao41 t295.length co41) : Value).ownBlock) (.slice Ao33 t288.length co33) t288) ∧ Aside0 (Kd.R (Kd.int .i64) 3 wc w.heap.size (fun k_ => some k_ ≠ ((.slice Ao22 t277.length co22) : Value).ownBlock ∧ some k_ ≠ ((.slice Ao29 t285.length co29) : Value).ownBlock) (.slice Ao36 t292.length co36) t292) ∧ Aside0 (Kd.R k41 41 wc w.heap.size (fun k_ => some k_ ≠ ((.slice Ao25 t280.length co25) : Value).ownBlock ∧ some k_ ≠ ((.slice Ao33 t288.length co33) : Value).ownBlock) (.slice Ao41 t295.length co41) t295) ∧ Aside0 (wc.heap[gb269]? = some (.cells #[(.slice A0_0 l0_0.length c0_0), (.slice A0_1 l0_1.length c0_1)] 25 (0, 0))) ∧ Aside0 (wc.heap[gb284]? = some (.cells #[(.slice Ao22 t277.length co22), (.slice Ao25 t280.length co25)] 29 (0, 0))) ∧ Aside0 (wc.heap[gb291]? = some (.cells #[(.slice Ao29 t285.length co29), (.slice Ao33 t288.length co33)] 29 (0, 0))) ∧ Aside0 (wc.heap[gb299]? = some (.cells #[(.slice Ao36 t292.length co36), (.slice Ao41 t295.length co41)] 29 (0, 0))) ∧ Aside0 (Below w.heap.size w wc))
  case first =>
   have H := HC12.out
   clear HC12
   obtain ⟨t300, A42, H⟩ := bindq H
   try dsimp only at H
   by_cases c43 : t300 = true
   ·subst c43
    rw [if_pos rfl] at H
    try dsimp only at H
    have H' := am H
    clear H
    have hnb44 := NB299_269.out
    have hnc44 := NB269_299.out
    have hnb45 := NB299_284.out
    have hnc45 := NB284_299.out
    have hnb46 := NB299_291.out
    have hnc46 := NB291_299.out
    have ⟨hcz47_0, hcz47_1, hfz47_0, hfz47_1⟩ := bc2 BK299
    have hnb48 := NB284_269.out
    have hnc48 := NB269_284.out
    have hnb49 := NB284_291.out
    have hnc49 := NB291_284.out
    have ⟨hcz50_0, hcz50_1, hfz50_0, hfz50_1⟩ := bc2 BK284
    go_wp2_with (first | ((with_reducible refine gate_callee (f := 11) rfl ?_); refine goesQ (some 38) Try.func11 #[.agg #[.slice Ao36 t292.length co36, .slice Ao41 t295.length co41], .agg #[.slice Ao22 t277.length co22, .slice Ao25 t280.length co25]] ?_; (with_reducible refine (laws_eqShop.calls k _ _ t292 _ _ t295 _ _ t277 _ _ t280 true _ ?s1 ?s2 ?s3 ?s4 ?s5 ?s6 ?s7 ?s8 A42.out).mono ?_); (case s1 => exact cf HO294 BK299); (case s2 => exact rq1 HO294); (case s3 => exact cf HO297 BK299); (case s4 => exact rq1 HO297); (case s5 => exact cf HO279 BK299); (case s6 => exact rq1 HO279); (case s7 => exact cf HO282 BK299); (case s8 => exact rq1 HO282); rintro e w51 ⟨rfl, hb⟩; refine ⟨_, rfl, ?_⟩; replace HO279 := am (Kd.R_below (fq HO279 BK299) hb); replace HO282 := am (Kd.R_below (fq HO282 BK299) hb); replace HO287 := am (Kd.R_below (fq HO287 BK299) hb); replace HO290 := am (Kd.R_below (fq HO290 BK299) hb); replace HO294 := am (Kd.R_below (fq HO294 BK299) hb); replace HO297 := am (Kd.R_below (fq HO297 BK299) hb); replace BK269 := am (blk_below (g := gb269) (o := .cells #[.slice A0_0 l0_0.length c0_0, .slice A0_1 l0_1.length c0_1] 25 (0, 0)) (zp BK269) hb); replace BK284 := am (blk_below (g := gb284) (o := .cells #[.slice Ao22 t277.length co22, .slice Ao25 t280.length co25] 29 (0, 0)) (zp BK284) hb); replace BK291 := am (blk_below (g := gb291) (o := .cells #[.slice Ao29 t285.length co29, .slice Ao33 t288.length co33] 29 (0, 0)) (zp BK291) hb); replace BK299 := am (blk_below (g := gb299) (o := .cells #[.slice Ao36 t292.length co36, .slice Ao41 t295.length co41] 29 (0, 0)) (zp BK299) hb); replace HB := sb hb; (try clear hb)))
    go_meet
    case rel => exact ⟨_, ((t298 != t283)), sq, H', ⟨by first | omega | exact Nat.le_refl _⟩, ⟨rm HO279⟩, ⟨rm HO282⟩, ⟨rm HO287⟩, ⟨rm HO290⟩, ⟨rm HO294⟩, ⟨rm HO297⟩, ⟨zq BK269⟩, ⟨zq BK284⟩, ⟨zq BK291⟩, ⟨zq BK299⟩, ⟨bq⟩⟩
   ·replace c43 := Bool.eq_false_iff.mpr c43
    subst c43
    rw [if_neg (show ¬ (false = true) by decide)] at H
    try dsimp only at H
    have H' := am H
    clear H
    have hnb52 := NB299_269.out
    have hnc52 := NB269_299.out
    have hnb53 := NB299_284.out
    have hnc53 := NB284_299.out
    have hnb54 := NB299_291.out
    have hnc54 := NB291_299.out
    have ⟨hcz55_0, hcz55_1, hfz55_0, hfz55_1⟩ := bc2 BK299
    have hnb56 := NB284_269.out
    have hnc56 := NB269_284.out
    have hnb57 := NB284_291.out
    have hnc57 := NB291_284.out
    have ⟨hcz58_0, hcz58_1, hfz58_0, hfz58_1⟩ := bc2 BK284
    go_wp2_with (first | ((with_reducible refine gate_callee (f := 11) rfl ?_); refine goesQ (some 38) Try.func11 #[.agg #[.slice Ao36 t292.length co36, .slice Ao41 t295.length co41], .agg #[.slice Ao22 t277.length co22, .slice Ao25 t280.length co25]] ?_; (with_reducible refine (laws_eqShop.calls k _ _ t292 _ _ t295 _ _ t277 _ _ t280 false _ ?s1 ?s2 ?s3 ?s4 ?s5 ?s6 ?s7 ?s8 A42.out).mono ?_); (case s1 => exact cf HO294 BK299); (case s2 => exact rq1 HO294); (case s3 => exact cf HO297 BK299); (case s4 => exact rq1 HO297); (case s5 => exact cf HO279 BK299); (case s6 => exact rq1 HO279); (case s7 => exact cf HO282 BK299); (case s8 => exact rq1 HO282); rintro e w59 ⟨rfl, hb⟩; refine ⟨_, rfl, ?_⟩; replace HO279 := am (Kd.R_below (fq HO279 BK299) hb); replace HO282 := am (Kd.R_below (fq HO282 BK299) hb); replace HO287 := am (Kd.R_below (fq HO287 BK299) hb); replace HO290 := am (Kd.R_below (fq HO290 BK299) hb); replace HO294 := am (Kd.R_below (fq HO294 BK299) hb); replace HO297 := am (Kd.R_below (fq HO297 BK299) hb); replace BK269 := am (blk_below (g := gb269) (o := .cells #[.slice A0_0 l0_0.length c0_0, .slice A0_1 l0_1.length c0_1] 25 (0, 0)) (zp BK269) hb); replace BK284 := am (blk_below (g := gb284) (o := .cells #[.slice Ao22 t277.length co22, .slice Ao25 t280.length co25] 29 (0, 0)) (zp BK284) hb); replace BK291 := am (blk_below (g := gb291) (o := .cells #[.slice Ao29 t285.length co29, .slice Ao33 t288.length co33] 29 (0, 0)) (zp BK291) hb); replace BK299 := am (blk_below (g := gb299) (o := .cells #[.slice Ao36 t292.length co36, .slice Ao41 t295.length co41] 29 (0, 0)) (zp BK299) hb); replace HB := sb hb; (try clear hb)))
    go_meet
    case rel => exact ⟨_, (true), sq, H', ⟨by first | omega | exact Nat.le_refl _⟩, ⟨rm HO279⟩, ⟨rm HO282⟩, ⟨rm HO287⟩, ⟨rm HO290⟩, ⟨rm HO294⟩, ⟨rm HO297⟩, ⟨zq BK269⟩, ⟨zq BK284⟩, ⟨zq BK291⟩, ⟨zq BK299⟩, ⟨bq⟩⟩
  case rest =>
   clear HC12
   try clear c4b0
   try clear c43
   try clear hcz14_0 hcz14_1 hfz14_0 hfz14_1
   try clear hcz16_0 hcz16_1 hfz16_0 hfz16_1
   try clear hcz24_0 hcz24_1 hfz24_0 hfz24_1
   try clear hcz26_0 hcz26_1 hfz26_0 hfz26_1
   try clear hcz32_0 hcz32_1 hfz32_0 hfz32_1
   try clear hcz40_0 hcz40_1 hfz40_0 hfz40_1
   try clear hcz47_0 hcz47_1 hfz47_0 hfz47_1
   try clear hcz50_0 hcz50_1 hfz50_0 hfz50_1
   try clear hcz55_0 hcz55_1 hfz55_0 hfz55_1
   try clear hcz58_0 hcz58_1 hfz58_0 hfz58_1
   try clear hcz6_0 hcz6_1 hfz6_0 hfz6_1
   obtain ⟨kq, x44_11, rfl, HA, HJ11, HO_285000, HO_285001, HO_292000, HO_292001, HO_300000, HO_300001, BK269, BK284, BK291, BK299, HB⟩ := hcut
   cases kq with
   | zero => exact absurd HA.out (by simp [laws_FnExactLostParts.j0])
   | succ kj11 =>
    have H := HA.out
    clear HA
    simp only [laws_FnExactLostParts.j0] at H
    by_cases c60 : x44_11 = true
    ·subst c60
     rw [if_pos rfl] at H
     try dsimp only at H
     obtain rfl := Option.some.inj H
     go_wp2
     go_ret
     exact ⟨eq_, bq⟩
    ·replace c60 := Bool.eq_false_iff.mpr c60
     subst c60
     rw [if_neg (show ¬ (false = true) by decide)] at H
     try dsimp only at H
     obtain ⟨⟨t301, t304⟩, A61, H⟩ := bindq H
     try dsimp only at H
     obtain ⟨t307, A62, H⟩ := bindq H
     try dsimp only at H
     by_cases c63 : t307 = true
     ·subst c63
      rw [if_pos rfl] at H
      try dsimp only at H
      obtain ⟨⟨t308, t309, t310⟩, A64, H⟩ := bindq H
      try dsimp only at H
      have HC65 := am H
      clear H
      try go_wp2
      replace HO_285000 := am (Kd.R_drew HO_285000.out)
      replace HO_285001 := am (Kd.R_drew HO_285001.out)
      replace HO_292000 := am (Kd.R_drew HO_292000.out)
      replace HO_292001 := am (Kd.R_drew HO_292001.out)
      replace HO_300000 := am (Kd.R_drew HO_300000.out)
      replace HO_300001 := am (Kd.R_drew HO_300001.out)
      replace BK269 := am (blk_drew BK269.out)
      replace BK284 := am (blk_drew BK284.out)
      replace BK291 := am (blk_drew BK291.out)
      replace BK299 := am (blk_drew BK299.out)
      replace HB := am (below_drew1 HB.out)
      refine start_ (n := 5) (S := fun w' => w'.cell? ⟨gb291, 0, none⟩ = some (.slice Ao29 t285.length co29) ∧ w'.cell? ⟨gb291, 1, none⟩ = some (.slice Ao33 t288.length co33) ∧ w'.cell? ⟨gb269, 0, none⟩ = some (.slice A0_0 l0_0.length c0_0) ∧ w'.cell? ⟨gb269, 1, none⟩ = some (.slice A0_1 l0_1.length c0_1)) (ds := []) #[false, false, false, false, false] (by kernel_rfl) rfl rfl cl (fun hHeld => ?_)
      generalize wc.drew = w66 at HO_285000 HO_285001 HO_292000 HO_292001 HO_300000 HO_300001 BK269 BK284 BK291 BK299 HB hHeld ⊢
      refine take_ (i := 0) (N := some 45) (v := ?_) (a' := ?_) #[true, false, false, false, false] rfl rfl (by kernel_rfl) (fun _ _ _ h => h) (Or.inl ⟨by rfl, ?_⟩) hHeld ?_ ?_
      rotate_left
      ·rintro w' ⟨s0, s1, s2, s3⟩
       go_simp
       with_reducible rfl
      rotate_left
      ·simp only [Act.put, List.setIfInBounds_toArray, List.set_cons_zero, List.set_cons_succ, i64_w, i32_w]
       rfl
      refine take_ (i := 1) (N := some 46) (v := ?_) (a' := ?_) #[true, true, false, false, false] rfl rfl (by kernel_rfl) (fun _ _ _ h => h) (Or.inl ⟨by rfl, ?_⟩) hHeld ?_ ?_
      rotate_left
      ·rintro w' ⟨s0, s1, s2, s3⟩
       go_simp
       with_reducible rfl
      rotate_left
      ·simp only [Act.put, List.setIfInBounds_toArray, List.set_cons_zero, List.set_cons_succ, i64_w, i32_w]
       rfl
      refine one_ (i := 2) (N := some 47) #[true, true, true, false, false] rfl rfl (by kernel_rfl) (by decide) (fun K hK => ?_)
      refine goes_ Try.func9 (by kernel_rfl) rfl #[.agg #[.slice A0_0 l0_0.length c0_0, .slice A0_1 l0_1.length c0_1]] (by rfl) rfl rfl mq ?_
      with_reducible refine (laws_toShop.calls kj11 _ _ l0_0 _ _ l0_1 t301 t304 _ ?s1 ?s2 ?s3 ?s4 A61.out).mono ?_
      (case s1 => exact cq (Kd.C_below HR0_0.out HB.out))
      (case s2 => exact HC0_0.out)
      (case s3 => exact cq (Kd.C_below HR0_1.out HB.out))
      (case s4 => exact HC0_1.out)
      rintro e w67 ⟨v302, v305, rfl, ho0, ho1, hb⟩
      refine ⟨_, rfl, ?_⟩
      have HO303 := rl (Kd.R_new' (Kd.R_new' (Kd.R_new' ho0 (lw HO_285000)) (lw HO_292000)) (lw HO_300000))
      replace HO_285000 := am (Kd.R_elder' (rq HO_285000) (Kd.R_base ho0) hb)
      replace HO_292000 := am (Kd.R_elder' (rq HO_292000) (Kd.R_base ho0) hb)
      replace HO_300000 := am (Kd.R_elder' (rq HO_300000) (Kd.R_base ho0) hb)
      have HO306 := rl (Kd.R_new' (Kd.R_new' (Kd.R_new' ho1 (lw HO_285001)) (lw HO_292001)) (lw HO_300001))
      replace HO_285001 := am (Kd.R_elder' (rq HO_285001) (Kd.R_base ho1) hb)
      replace HO_292001 := am (Kd.R_elder' (rq HO_292001) (Kd.R_base ho1) hb)
      replace HO_300001 := am (Kd.R_elder' (rq HO_300001) (Kd.R_base ho1) hb)
      replace BK269 := zb BK269 hb
      replace BK284 := zb BK284 hb
      replace BK291 := zb BK291 hb
      replace BK299 := zb BK299 hb
      replace HB := sb hb
      (try clear hb ho0 ho1)
      obtain ⟨Ao68, co68, eo68⟩ := Kd.R_slice HO303.out
      (first | subst eo68 | (injection eo68 with f1_ f2_ f3_; have f4_ := f1_.symm; have f5_ := f3_.symm; clear f1_ f2_ f3_; subst f4_; subst f5_))
      obtain ⟨Ao69, co69, eo69⟩ := Kd.R_slice HO306.out
      (first | subst eo69 | (injection eo69 with f1_ f2_ f3_; have f4_ := f1_.symm; have f5_ := f3_.symm; clear f1_ f2_ f3_; subst f4_; subst f5_))
      refine hK.out _ _ cl (fun hHeld => ?_)
      clear hK K
      refine norm_ (a' := ?_) ?_ ?_
      rotate_left
      ·show Act.put _ (some 47) _ = _
       simp only [Act.put, List.setIfInBounds_toArray, List.set_cons_zero, List.set_cons_succ, i64_w, i32_w]
       rfl
      refine one_ (i := 3) (N := some 48) #[true, true, true, true, false] rfl rfl (by kernel_rfl) (by decide) (fun K hK => ?_)
      refine goes_ Try.func11 (by kernel_rfl) rfl #[.agg #[.slice Ao29 t285.length co29, .slice Ao33 t288.length co33], .agg #[.slice Ao68 t301.length co68, .slice Ao69 t304.length co69]] (by rfl) rfl rfl mq ?_
      with_reducible refine (laws_eqShop.calls kj11 _ _ t285 _ _ t288 _ _ t301 _ _ t304 true _ ?s1 ?s2 ?s3 ?s4 ?s5 ?s6 ?s7 ?s8 A62.out).mono ?_
      (case s1 => exact cr HO_292000)
      (case s2 => exact rq1 HO_292000)
      (case s3 => exact cr HO_292001)
      (case s4 => exact rq1 HO_292001)
      (case s5 => exact cr HO303)
      (case s6 => exact rq1 HO303)
      (case s7 => exact cr HO306)
      (case s8 => exact rq1 HO306)
      rintro e w70 ⟨rfl, hb⟩
      refine ⟨_, rfl, ?_⟩
      replace HO_285000 := rb HO_285000 hb
      replace HO_285001 := rb HO_285001 hb
      replace HO_292000 := rb HO_292000 hb
      replace HO_292001 := rb HO_292001 hb
      replace HO_300000 := rb HO_300000 hb
      replace HO_300001 := rb HO_300001 hb
      replace HO303 := rb HO303 hb
      replace HO306 := rb HO306 hb
      replace BK269 := zb BK269 hb
      replace BK284 := zb BK284 hb
      replace BK291 := zb BK291 hb
      replace BK299 := zb BK299 hb
      replace HB := sb hb
      (try clear hb)
      refine hK.out _ _ cl (fun hHeld => ?_)
      clear hK K
      refine norm_ (a' := ?_) ?_ ?_
      rotate_left
      ·show Act.put _ (some 48) _ = _
       simp only [Act.put, List.setIfInBounds_toArray, List.set_cons_zero, List.set_cons_succ, i64_w, i32_w]
       rfl
      refine pure_ (i := 4) (N := some 49) (v := ?_) (a' := ?_) #[true, true, true, true, true] rfl rfl (by kernel_rfl) (fun _ _ _ h => h) (Or.inl ⟨by rfl, ?_⟩) ?_ ?_
      rotate_left
      ·intro w'
       go_simp
       with_reducible rfl
      rotate_left
      ·simp only [Act.put, List.setIfInBounds_toArray, List.set_cons_zero, List.set_cons_succ, i64_w, i32_w]
       rfl
      refine done_ (by kernel_rfl) ?_
      have hnb71 := NB291_269.out
      have hnc71 := NB269_291.out
      have hnb72 := NB291_284.out
      have hnc72 := NB284_291.out
      have hnb73 := NB291_299.out
      have hnc73 := NB299_291.out
      have ⟨hcz74_0, hcz74_1, hfz74_0, hfz74_1⟩ := bc2 BK291
      go_upto_region 14 with (first | ((with_reducible refine gate_callee (f := 12) rfl ?_); refine goesQ (some 52) Try.func12 #[.agg #[.slice Ao29 t285.length co29, .slice Ao33 t288.length co33], .int .i64 1] ?_; (with_reducible refine (laws_markShop.calls kj11 (fun k_ => some k_ = (.slice Ao29 t285.length co29 : Value).ownBlock) (.slice Ao29 t285.length co29) t285 (fun k_ => some k_ = (.slice Ao33 t288.length co33 : Value).ownBlock) (.slice Ao33 t288.length co33) t288 1 t308 t309 t310 w _ ?s1 ?s2 ?s3 A64.out).mono ?_); (case s1 => repeat (first | (with_reducible first | exact HB.out | apply below_alloc | apply pw_below_drewN | apply below_drew1 | refine below_set ?_ GE269.out | refine below_set ?_ GE284.out | refine below_set ?_ GE291.out | refine below_set ?_ GE299.out) | exact HB.out)); (case s2 => exact Kd.R_tight rfl HO_292000.out); (case s3 => exact Kd.R_tight rfl HO_292001.out); rintro e w75 ⟨rfl, hy0, hy1, hb, hkp⟩; refine ⟨_, rfl, ?_⟩; replace HO_285000 := am (Kd.R_mono (ok' := fun k_ => some k_ ≠ (.slice Ao29 t285.length co29 : Value).ownBlock ∧ some k_ ≠ (.slice Ao36 t292.length co36 : Value).ownBlock ∧ some k_ ≠ (.slice Ao68 t301.length co68 : Value).ownBlock) (Kd.R_keptB ((Kd.R_apart' HO_285000.out (Kd.R_typed HO_292001.out) (by decide))) hkp (fun k_ hk_ hs_ => Or.elim hs_ (fun e_ => (hk_.1.1.1) e_) (fun e_ => (hk_.2) e_))) (fun k_ hk_ => ⟨hk_.1.1.1.1, hk_.1.1.1.2, hk_.1.1.2⟩)); replace HO_285001 := am (Kd.R_mono (ok' := fun k_ => some k_ ≠ (.slice Ao33 t288.length co33 : Value).ownBlock ∧ some k_ ≠ (.slice Ao41 t295.length co41 : Value).ownBlock ∧ some k_ ≠ (.slice Ao69 t304.length co69 : Value).ownBlock) (Kd.R_keptB ((Kd.R_apart' HO_285001.out (Kd.R_typed HO_292000.out) (by decide))) hkp (fun k_ hk_ hs_ => Or.elim hs_ (fun e_ => (hk_.2) e_) (fun e_ => (hk_.1.1.1) e_))) (fun k_ hk_ => ⟨hk_.1.1.1.1, hk_.1.1.1.2, hk_.1.1.2⟩)); replace HO_300000 := am (Kd.R_mono (ok' := fun k_ => some k_ ≠ (.slice Ao22 t277.length co22 : Value).ownBlock ∧ some k_ ≠ (.slice Ao29 t285.length co29 : Value).ownBlock ∧ some k_ ≠ (.slice Ao68 t301.length co68 : Value).ownBlock) (Kd.R_keptB ((Kd.R_apart' HO_300000.out (Kd.R_typed HO_292001.out) (by decide))) hkp (fun k_ hk_ hs_ => Or.elim hs_ (fun e_ => (hk_.1.1.2) e_) (fun e_ => (hk_.2) e_))) (fun k_ hk_ => ⟨hk_.1.1.1.1, hk_.1.1.1.2, hk_.1.1.2⟩)); replace HO_300001 := am (Kd.R_mono (ok' := fun k_ => some k_ ≠ (.slice Ao25 t280.length co25 : Value).ownBlock ∧ some k_ ≠ (.slice Ao33 t288.length co33 : Value).ownBlock ∧ some k_ ≠ (.slice Ao69 t304.length co69 : Value).ownBlock) (Kd.R_keptB ((Kd.R_apart' HO_300001.out (Kd.R_typed HO_292000.out) (by decide))) hkp (fun k_ hk_ hs_ => Or.elim hs_ (fun e_ => (hk_.2) e_) (fun e_ => (hk_.1.1.2) e_))) (fun k_ hk_ => ⟨hk_.1.1.1.1, hk_.1.1.1.2, hk_.1.1.2⟩)); replace BK269 := am (blk_kept (zq BK269) hkp (fun hs_ => Or.elim hs_ (fun e_ => (fun e_ => (Kd.R_ne HO_292000.out BK269.out (by decide)) e_) e_) (fun e_ => (fun e_ => (Kd.R_ne HO_292001.out BK269.out (by decide)) e_) e_))); replace BK284 := am (blk_kept (zq BK284) hkp (fun hs_ => Or.elim hs_ (fun e_ => (fun e_ => (Kd.R_ne HO_292000.out BK284.out (by decide)) e_) e_) (fun e_ => (fun e_ => (Kd.R_ne HO_292001.out BK284.out (by decide)) e_) e_))); replace BK291 := am (blk_kept (zq BK291) hkp (fun hs_ => Or.elim hs_ (fun e_ => (fun e_ => (Kd.R_ne HO_292000.out BK291.out (by decide)) e_) e_) (fun e_ => (fun e_ => (Kd.R_ne HO_292001.out BK291.out (by decide)) e_) e_))); replace BK299 := am (blk_kept (zq BK299) hkp (fun hs_ => Or.elim hs_ (fun e_ => (fun e_ => (Kd.R_ne HO_292000.out BK299.out (by decide)) e_) e_) (fun e_ => (fun e_ => (Kd.R_ne HO_292001.out BK299.out (by decide)) e_) e_))); replace HO303 := am (Kd.R_mono (ok' := fun k_ => some k_ ≠ (.slice Ao22 t277.length co22 : Value).ownBlock ∧ some k_ ≠ (.slice Ao29 t285.length co29 : Value).ownBlock ∧ some k_ ≠ (.slice Ao36 t292.length co36 : Value).ownBlock) (Kd.R_keptB ((Kd.R_apart' HO303.out (Kd.R_typed HO_292001.out) (by decide))) hkp (fun k_ hk_ hs_ => Or.elim hs_ (fun e_ => (hk_.1.1.2) e_) (fun e_ => (hk_.2) e_))) (fun k_ hk_ => ⟨hk_.1.1.1.1.2, hk_.1.1.1.2, hk_.1.1.2⟩)); replace HO_292001 := am (Kd.R_reok rfl hy1 (fun k_ e_ => HO_292001.out.1 k_ e_)); replace HO306 := am (Kd.R_mono (ok' := fun k_ => some k_ ≠ (.slice Ao25 t280.length co25 : Value).ownBlock ∧ some k_ ≠ (.slice Ao33 t288.length co33 : Value).ownBlock ∧ some k_ ≠ (.slice Ao41 t295.length co41 : Value).ownBlock) (Kd.R_keptB ((Kd.R_apart' HO306.out (Kd.R_typed HO_292000.out) (by decide))) hkp (fun k_ hk_ hs_ => Or.elim hs_ (fun e_ => (hk_.2) e_) (fun e_ => (hk_.1.1.2) e_))) (fun k_ hk_ => ⟨hk_.1.1.1.1.2, hk_.1.1.1.2, hk_.1.1.2⟩)); replace HO_292000 := am (Kd.R_reok rfl hy0 (fun k_ e_ => HO_292000.out.1 k_ e_)); replace HB := am (hb); (try clear hb hkp hy0 hy1)))
      (try simp only [Act.put, List.setIfInBounds_toArray, List.set_cons_zero, List.set_cons_succ])
      go_cut [65] (fun v65 wc => ∃ (kq : Nat) (x65_64 : Bool), v65 = .bool x65_64 ∧ Aside0 (laws_FnExactLostParts.j1 kq a1 t283 x65_64 l0_0 l0_1 t277 t280 t292 t295 = some r) ∧ Aside0 (kq ≤ kj11) ∧ Aside0 (Kd.R (Kd.int .i64) 3 wc w.heap.size (fun k_ => some k_ ≠ ((.slice Ao29 t285.length co29) : Value).ownBlock ∧ some k_ ≠ ((.slice Ao36 t292.length co36) : Value).ownBlock) (.slice Ao22 t277.length co22) t277) ∧ Aside0 (Kd.R k41 41 wc w.heap.size (fun k_ => some k_ ≠ ((.slice Ao33 t288.length co33) : Value).ownBlock ∧ some k_ ≠ ((.slice Ao41 t295.length co41) : Value).ownBlock) (.slice Ao25 t280.length co25) t280) ∧ Aside0 (Kd.R (Kd.int .i64) 3 wc w.heap.size (fun k_ => some k_ ≠ ((.slice Ao22 t277.length co22) : Value).ownBlock ∧ some k_ ≠ ((.slice Ao36 t292.length co36) : Value).ownBlock) (.slice Ao29 t285.length co29) t309) ∧ Aside0 (Kd.R k41 41 wc w.heap.size (fun k_ => some k_ ≠ ((.slice Ao25 t280.length co25) : Value).ownBlock ∧ some k_ ≠ ((.slice Ao41 t295.length co41) : Value).ownBlock) (.slice Ao33 t288.length co33) t310) ∧ Aside0 (Kd.R (Kd.int .i64) 3 wc w.heap.size (fun k_ => some k_ ≠ ((.slice Ao22 t277.length co22) : Value).ownBlock ∧ some k_ ≠ ((.slice Ao29 t285.length co29) : Value).ownBlock) (.slice Ao36 t292.length co36) t292) ∧ Aside0 (Kd.R k41 41 wc w.heap.size (fun k_ => some k_ ≠ ((.slice Ao25 t280.length co25) : Value).ownBlock ∧ some k_ ≠ ((.slice Ao33 t288.length co33) : Value).ownBlock) (.slice Ao41 t295.length co41) t295) ∧ Aside0 (wc.heap[gb269]? = some (.cells #[(.slice A0_0 l0_0.length c0_0), (.slice A0_1 l0_1.length c0_1)] 25 (0, 0))) ∧ Aside0 (wc.heap[gb284]? = some (.cells #[(.slice Ao22 t277.length co22), (.slice Ao25 t280.length co25)] 29 (0, 0))) ∧ Aside0 (wc.heap[gb291]? = some (.cells #[(.slice Ao29 t285.length co29), (.slice Ao33 t288.length co33)] 29 (0, 0))) ∧ Aside0 (wc.heap[gb299]? = some (.cells #[(.slice Ao36 t292.length co36), (.slice Ao41 t295.length co41)] 29 (0, 0))) ∧ Aside0 (Below w.heap.size w wc))
      case first =>
       have H := HC65.out
       clear HC65
       by_cases c76 : t308 < 0
       ·rw [if_pos c76] at H
        have c76b0 : decide (t308 < 0) = true := decide_eq_true c76
        clear c76
        (first | rw [c76b0] | (simp only [i64_w, i32_w]; rw [c76b0]) | skip)
        have H' := am H
        clear H
        go_wp2
        go_meet
        case rel => exact ⟨_, (true), sq, H', ⟨by have := HJ11.out; first | omega | exact Nat.le_refl _⟩, ⟨rm HO_285000⟩, ⟨rm HO_285001⟩, ⟨rm HO_292000⟩, ⟨rm HO_292001⟩, ⟨rm HO_300000⟩, ⟨rm HO_300001⟩, ⟨zq BK269⟩, ⟨zq BK284⟩, ⟨zq BK291⟩, ⟨zq BK299⟩, ⟨bq⟩⟩
       ·rw [if_neg c76] at H
        have c76b0 : decide (t308 < 0) = false := decide_eq_false c76
        clear c76
        (first | rw [c76b0] | (simp only [i64_w, i32_w]; rw [c76b0]) | skip)
        obtain ⟨t311, A77, H⟩ := bindq H
        try dsimp only at H
        by_cases c78 : t311 = true
        ·subst c78
         rw [if_pos rfl] at H
         try dsimp only at H
         have H' := am H
         clear H
         have hnb79 := NB299_269.out
         have hnc79 := NB269_299.out
         have hnb80 := NB299_284.out
         have hnc80 := NB284_299.out
         have hnb81 := NB299_291.out
         have hnc81 := NB291_299.out
         have ⟨hcz82_0, hcz82_1, hfz82_0, hfz82_1⟩ := bc2 BK299
         have hnb83 := NB284_269.out
         have hnc83 := NB269_284.out
         have hnb84 := NB284_291.out
         have hnc84 := NB291_284.out
         have ⟨hcz85_0, hcz85_1, hfz85_0, hfz85_1⟩ := bc2 BK284
         go_wp2_with (first | (go_at_call 11; (with_reducible refine (laws_eqShop.calls kj11 _ _ t292 _ _ t295 _ _ t277 _ _ t280 true _ ?s1 ?s2 ?s3 ?s4 ?s5 ?s6 ?s7 ?s8 A77.out).mono ?_); (case s1 => exact cr HO_300000); (case s2 => exact rq1 HO_300000); (case s3 => exact cr HO_300001); (case s4 => exact rq1 HO_300001); (case s5 => exact cr HO_285000); (case s6 => exact rq1 HO_285000); (case s7 => exact cr HO_285001); (case s8 => exact rq1 HO_285001); rintro e w86 ⟨rfl, hb⟩; replace HO_285000 := rb HO_285000 hb; replace HO_285001 := rb HO_285001 hb; replace HO_292000 := rb HO_292000 hb; replace HO_292001 := rb HO_292001 hb; replace HO_300000 := rb HO_300000 hb; replace HO_300001 := rb HO_300001 hb; replace HO303 := rb HO303 hb; replace HO306 := rb HO306 hb; replace BK269 := zb BK269 hb; replace BK284 := zb BK284 hb; replace BK291 := zb BK291 hb; replace BK299 := zb BK299 hb; replace HB := sb hb; (try clear hb)))
         go_meet
         case rel => exact ⟨_, ((t298 != t283)), sq, H', ⟨by have := HJ11.out; first | omega | exact Nat.le_refl _⟩, ⟨rm HO_285000⟩, ⟨rm HO_285001⟩, ⟨rm HO_292000⟩, ⟨rm HO_292001⟩, ⟨rm HO_300000⟩, ⟨rm HO_300001⟩, ⟨zq BK269⟩, ⟨zq BK284⟩, ⟨zq BK291⟩, ⟨zq BK299⟩, ⟨bq⟩⟩
        ·replace c78 := Bool.eq_false_iff.mpr c78
         subst c78
         rw [if_neg (show ¬ (false = true) by decide)] at H
         try dsimp only at H
         have H' := am H
         clear H
         have hnb87 := NB299_269.out
         have hnc87 := NB269_299.out
         have hnb88 := NB299_284.out
         have hnc88 := NB284_299.out
         have hnb89 := NB299_291.out
         have hnc89 := NB291_299.out
         have ⟨hcz90_0, hcz90_1, hfz90_0, hfz90_1⟩ := bc2 BK299
         have hnb91 := NB284_269.out
         have hnc91 := NB269_284.out
         have hnb92 := NB284_291.out
         have hnc92 := NB291_284.out
         have ⟨hcz93_0, hcz93_1, hfz93_0, hfz93_1⟩ := bc2 BK284
         go_wp2_with (first | (go_at_call 11; (with_reducible refine (laws_eqShop.calls kj11 _ _ t292 _ _ t295 _ _ t277 _ _ t280 false _ ?s1 ?s2 ?s3 ?s4 ?s5 ?s6 ?s7 ?s8 A77.out).mono ?_); (case s1 => exact cr HO_300000); (case s2 => exact rq1 HO_300000); (case s3 => exact cr HO_300001); (case s4 => exact rq1 HO_300001); (case s5 => exact cr HO_285000); (case s6 => exact rq1 HO_285000); (case s7 => exact cr HO_285001); (case s8 => exact rq1 HO_285001); rintro e w94 ⟨rfl, hb⟩; replace HO_285000 := rb HO_285000 hb; replace HO_285001 := rb HO_285001 hb; replace HO_292000 := rb HO_292000 hb; replace HO_292001 := rb HO_292001 hb; replace HO_300000 := rb HO_300000 hb; replace HO_300001 := rb HO_300001 hb; replace HO303 := rb HO303 hb; replace HO306 := rb HO306 hb; replace BK269 := zb BK269 hb; replace BK284 := zb BK284 hb; replace BK291 := zb BK291 hb; replace BK299 := zb BK299 hb; replace HB := sb hb; (try clear hb)))
         go_meet
         case rel => exact ⟨_, (true), sq, H', ⟨by have := HJ11.out; first | omega | exact Nat.le_refl _⟩, ⟨rm HO_285000⟩, ⟨rm HO_285001⟩, ⟨rm HO_292000⟩, ⟨rm HO_292001⟩, ⟨rm HO_300000⟩, ⟨rm HO_300001⟩, ⟨zq BK269⟩, ⟨zq BK284⟩, ⟨zq BK291⟩, ⟨zq BK299⟩, ⟨bq⟩⟩
      case rest =>
       clear HC65
       try clear c4b0
       try clear c43
       try clear c60
       try clear c63
       try clear c76b0
       try clear c78
       try clear hcz14_0 hcz14_1 hfz14_0 hfz14_1
       try clear hcz16_0 hcz16_1 hfz16_0 hfz16_1
       try clear hcz24_0 hcz24_1 hfz24_0 hfz24_1
       try clear hcz26_0 hcz26_1 hfz26_0 hfz26_1
       try clear hcz32_0 hcz32_1 hfz32_0 hfz32_1
       try clear hcz40_0 hcz40_1 hfz40_0 hfz40_1
       try clear hcz47_0 hcz47_1 hfz47_0 hfz47_1
       try clear hcz50_0 hcz50_1 hfz50_0 hfz50_1
       try clear hcz55_0 hcz55_1 hfz55_0 hfz55_1
       try clear hcz58_0 hcz58_1 hfz58_0 hfz58_1
       try clear hcz6_0 hcz6_1 hfz6_0 hfz6_1
       try clear hcz74_0 hcz74_1 hfz74_0 hfz74_1
       try clear hcz82_0 hcz82_1 hfz82_0 hfz82_1
       try clear hcz85_0 hcz85_1 hfz85_0 hfz85_1
       try clear hcz90_0 hcz90_1 hfz90_0 hfz90_1
       try clear hcz93_0 hcz93_1 hfz93_0 hfz93_1
       obtain ⟨kq, x65_64, rfl, HA, HJ64, HO_285000, HO_285001, HO_292000, HO_292001, HO_300000, HO_300001, BK269, BK284, BK291, BK299, HB⟩ := hcut
       have hl292000_64 := (Kd.R_reads' HO_292000.out).1
       rw [hl292000_64] at HO_292000
       (try simp only [hl292000_64])
       (try simp only [hl292000_64] at BK269)
       (try simp only [hl292000_64] at BK284)
       (try simp only [hl292000_64] at BK291)
       (try simp only [hl292000_64] at BK299)
       (try simp only [hl292000_64] at HO_285000)
       (try simp only [hl292000_64] at HO_285001)
       (try simp only [hl292000_64] at HO_292001)
       (try simp only [hl292000_64] at HO_300000)
       (try simp only [hl292000_64] at HO_300001)
       have hl292001_64 := (Kd.R_reads' HO_292001.out).1
       rw [hl292001_64] at HO_292001
       (try simp only [hl292001_64])
       (try simp only [hl292001_64] at BK269)
       (try simp only [hl292001_64] at BK284)
       (try simp only [hl292001_64] at BK291)
       (try simp only [hl292001_64] at BK299)
       (try simp only [hl292001_64] at HO_285000)
       (try simp only [hl292001_64] at HO_285001)
       (try simp only [hl292001_64] at HO_292000)
       (try simp only [hl292001_64] at HO_300000)
       (try simp only [hl292001_64] at HO_300001)
       cases kq with
       | zero => exact absurd HA.out (by simp [laws_FnExactLostParts.j1])
       | succ kj64 =>
        have H := HA.out
        clear HA
        simp only [laws_FnExactLostParts.j1] at H
        by_cases c95 : x65_64 = true
        ·subst c95
         rw [if_pos rfl] at H
         try dsimp only at H
         obtain rfl := Option.some.inj H
         go_wp2
         go_ret
         exact ⟨eq_, bq⟩
        ·replace c95 := Bool.eq_false_iff.mpr c95
         subst c95
         rw [if_neg (show ¬ (false = true) by decide)] at H
         try dsimp only at H
         obtain ⟨⟨t312, t313, t314⟩, A96, H⟩ := bindq H
         try dsimp only at H
         obtain ⟨t315, A97, H⟩ := bindq H
         try dsimp only at H
         by_cases c98 : t315 < 0
         ·rw [if_pos c98] at H
          have c98b0 : decide (t315 < 0) = true := decide_eq_true c98
          clear c98
          obtain rfl := Option.some.inj H
          have hnb99 := NB299_269.out
          have hnc99 := NB269_299.out
          have hnb100 := NB299_284.out
          have hnc100 := NB284_299.out
          have hnb101 := NB299_291.out
          have hnc101 := NB291_299.out
          have ⟨hcz102_0, hcz102_1, hfz102_0, hfz102_1⟩ := bc2 BK299
          go_wp2_with (first | ((with_reducible refine gate_callee (f := 12) rfl ?_); refine goesQ (some 68) Try.func12 #[.agg #[.slice Ao36 t292.length co36, .slice Ao41 t295.length co41], .int .i64 1] ?_; (with_reducible refine (laws_markShop.calls kj64 (fun k_ => some k_ = (.slice Ao36 t292.length co36 : Value).ownBlock) (.slice Ao36 t292.length co36) t292 (fun k_ => some k_ = (.slice Ao41 t295.length co41 : Value).ownBlock) (.slice Ao41 t295.length co41) t295 1 t312 t313 t314 w _ ?s1 ?s2 ?s3 A96.out).mono ?_); (case s1 => repeat (first | (with_reducible first | exact HB.out | apply below_alloc | apply pw_below_drewN | apply below_drew1 | refine below_set ?_ GE269.out | refine below_set ?_ GE284.out | refine below_set ?_ GE291.out | refine below_set ?_ GE299.out) | exact HB.out)); (case s2 => exact Kd.R_tight rfl HO_300000.out); (case s3 => exact Kd.R_tight rfl HO_300001.out); rintro e w103 ⟨rfl, hy0, hy1, hb, hkp⟩; refine ⟨_, rfl, ?_⟩; replace HO_285000 := am (Kd.R_mono (ok' := fun k_ => some k_ ≠ (.slice Ao29 t309.length co29 : Value).ownBlock ∧ some k_ ≠ (.slice Ao36 t292.length co36 : Value).ownBlock) (Kd.R_keptB ((Kd.R_apart' HO_285000.out (Kd.R_typed HO_300001.out) (by decide))) hkp (fun k_ hk_ hs_ => Or.elim hs_ (fun e_ => (hk_.1.2) e_) (fun e_ => (hk_.2) e_))) (fun k_ hk_ => ⟨hk_.1.1.1, hk_.1.1.2⟩)); replace HO_285001 := am (Kd.R_mono (ok' := fun k_ => some k_ ≠ (.slice Ao33 t310.length co33 : Value).ownBlock ∧ some k_ ≠ (.slice Ao41 t295.length co41 : Value).ownBlock) (Kd.R_keptB ((Kd.R_apart' HO_285001.out (Kd.R_typed HO_300000.out) (by decide))) hkp (fun k_ hk_ hs_ => Or.elim hs_ (fun e_ => (hk_.2) e_) (fun e_ => (hk_.1.2) e_))) (fun k_ hk_ => ⟨hk_.1.1.1, hk_.1.1.2⟩)); replace HO_292000 := am (Kd.R_mono (ok' := fun k_ => some k_ ≠ (.slice Ao22 t277.length co22 : Value).ownBlock ∧ some k_ ≠ (.slice Ao36 t292.length co36 : Value).ownBlock) (Kd.R_keptB ((Kd.R_apart' HO_292000.out (Kd.R_typed HO_300001.out) (by decide))) hkp (fun k_ hk_ hs_ => Or.elim hs_ (fun e_ => (hk_.1.2) e_) (fun e_ => (hk_.2) e_))) (fun k_ hk_ => ⟨hk_.1.1.1, hk_.1.1.2⟩)); replace HO_292001 := am (Kd.R_mono (ok' := fun k_ => some k_ ≠ (.slice Ao25 t280.length co25 : Value).ownBlock ∧ some k_ ≠ (.slice Ao41 t295.length co41 : Value).ownBlock) (Kd.R_keptB ((Kd.R_apart' HO_292001.out (Kd.R_typed HO_300000.out) (by decide))) hkp (fun k_ hk_ hs_ => Or.elim hs_ (fun e_ => (hk_.2) e_) (fun e_ => (hk_.1.2) e_))) (fun k_ hk_ => ⟨hk_.1.1.1, hk_.1.1.2⟩)); replace BK269 := am (blk_kept (zq BK269) hkp (fun hs_ => Or.elim hs_ (fun e_ => (fun e_ => (Kd.R_ne HO_300000.out BK269.out (by decide)) e_) e_) (fun e_ => (fun e_ => (Kd.R_ne HO_300001.out BK269.out (by decide)) e_) e_))); replace BK284 := am (blk_kept (zq BK284) hkp (fun hs_ => Or.elim hs_ (fun e_ => (fun e_ => (Kd.R_ne HO_300000.out BK284.out (by decide)) e_) e_) (fun e_ => (fun e_ => (Kd.R_ne HO_300001.out BK284.out (by decide)) e_) e_))); replace BK291 := am (blk_kept (zq BK291) hkp (fun hs_ => Or.elim hs_ (fun e_ => (fun e_ => (Kd.R_ne HO_300000.out BK291.out (by decide)) e_) e_) (fun e_ => (fun e_ => (Kd.R_ne HO_300001.out BK291.out (by decide)) e_) e_))); replace BK299 := am (blk_kept (zq BK299) hkp (fun hs_ => Or.elim hs_ (fun e_ => (fun e_ => (Kd.R_ne HO_300000.out BK299.out (by decide)) e_) e_) (fun e_ => (fun e_ => (Kd.R_ne HO_300001.out BK299.out (by decide)) e_) e_))); replace HO_300000 := am (Kd.R_reok rfl hy0 (fun k_ e_ => HO_300000.out.1 k_ e_)); replace HO_300001 := am (Kd.R_reok rfl hy1 (fun k_ e_ => HO_300001.out.1 k_ e_)); replace HB := am (hb); (try clear hb hkp hy0 hy1); have ⟨hcz104_0, hcz104_1, hfz104_0, hfz104_1⟩ := bc2 BK299) | ((with_reducible refine gate_callee (f := 13) rfl ?_); refine goesL_ (some 71) rfl rfl Try.func13 (by kernel_rfl) rfl #[.agg #[.slice Ao36 t313.length co36, .slice Ao41 t314.length co41], .int .i64 1] rfl (by (try simp only [List.map_toArray, List.map_cons, List.map_nil]); first | done | (rw [show t313.length = t292.length from (Kd.R_reads' HO_300000.out).1.symm, show t314.length = t295.length from (Kd.R_reads' HO_300001.out).1.symm] <;> rfl) | rfl | (simp only [List.length_drop, List.length_take]; rfl)) ?_; (with_reducible refine (laws_heldShop.calls kj64 _ _ t313 _ _ t314 1 t315 _ ?s1 ?s2 ?s3 ?s4 A97.out).mono ?_); (case s1 => exact cr HO_300000); (case s2 => rw [show t313.length = t292.length from (Kd.R_reads' HO_300000.out).1.symm]; exact rq1 HO_300000); (case s3 => exact cr HO_300001); (case s4 => rw [show t314.length = t295.length from (Kd.R_reads' HO_300001.out).1.symm]; exact rq1 HO_300001); rintro e w105 ⟨rfl, hb⟩; refine ⟨_, rfl, ?_⟩; replace HO_285000 := rb HO_285000 hb; replace HO_285001 := rb HO_285001 hb; replace HO_292000 := rb HO_292000 hb; replace HO_292001 := rb HO_292001 hb; replace HO_300000 := rb HO_300000 hb; replace HO_300001 := rb HO_300001 hb; replace BK269 := zb BK269 hb; replace BK284 := zb BK284 hb; replace BK291 := zb BK291 hb; replace BK299 := zb BK299 hb; replace HB := sb hb; (try clear hb)))
          go_ret
          exact ⟨eq_, bq⟩
         ·rw [if_neg c98] at H
          have c98b0 : decide (t315 < 0) = false := decide_eq_false c98
          clear c98
          by_cases c106 : t315 = t312
          ·rw [if_pos c106] at H
           have c106b0 : (t315 == t312) = true := beq_iff_eq.mpr c106
           have c106b1 : (t315 != t312) = false := bne_eq_false_iff_eq.mpr c106
           clear c106
           obtain ⟨⟨t316, t319⟩, A107, H⟩ := bindq H
           try dsimp only at H
           obtain ⟨⟨t322, t325, t328⟩, A108, H⟩ := bindq H
           try dsimp only at H
           have HC109 := am H
           clear H
           have hnb110 := NB299_269.out
           have hnc110 := NB269_299.out
           have hnb111 := NB299_284.out
           have hnc111 := NB284_299.out
           have hnb112 := NB299_291.out
           have hnc112 := NB291_299.out
           have ⟨hcz113_0, hcz113_1, hfz113_0, hfz113_1⟩ := bc2 BK299
           go_upto_region 25 with (first | ((with_reducible refine gate_callee (f := 12) rfl ?_); refine goesQ (some 68) Try.func12 #[.agg #[.slice Ao36 t292.length co36, .slice Ao41 t295.length co41], .int .i64 1] ?_; (with_reducible refine (laws_markShop.calls kj64 (fun k_ => some k_ = (.slice Ao36 t292.length co36 : Value).ownBlock) (.slice Ao36 t292.length co36) t292 (fun k_ => some k_ = (.slice Ao41 t295.length co41 : Value).ownBlock) (.slice Ao41 t295.length co41) t295 1 t312 t313 t314 w _ ?s1 ?s2 ?s3 A96.out).mono ?_); (case s1 => repeat (first | (with_reducible first | exact HB.out | apply below_alloc | apply pw_below_drewN | apply below_drew1 | refine below_set ?_ GE269.out | refine below_set ?_ GE284.out | refine below_set ?_ GE291.out | refine below_set ?_ GE299.out) | exact HB.out)); (case s2 => exact Kd.R_tight rfl HO_300000.out); (case s3 => exact Kd.R_tight rfl HO_300001.out); rintro e w114 ⟨rfl, hy0, hy1, hb, hkp⟩; refine ⟨_, rfl, ?_⟩; replace HO_285000 := am (Kd.R_mono (ok' := fun k_ => some k_ ≠ (.slice Ao29 t309.length co29 : Value).ownBlock ∧ some k_ ≠ (.slice Ao36 t292.length co36 : Value).ownBlock) (Kd.R_keptB ((Kd.R_apart' HO_285000.out (Kd.R_typed HO_300001.out) (by decide))) hkp (fun k_ hk_ hs_ => Or.elim hs_ (fun e_ => (hk_.1.2) e_) (fun e_ => (hk_.2) e_))) (fun k_ hk_ => ⟨hk_.1.1.1, hk_.1.1.2⟩)); replace HO_285001 := am (Kd.R_mono (ok' := fun k_ => some k_ ≠ (.slice Ao33 t310.length co33 : Value).ownBlock ∧ some k_ ≠ (.slice Ao41 t295.length co41 : Value).ownBlock) (Kd.R_keptB ((Kd.R_apart' HO_285001.out (Kd.R_typed HO_300000.out) (by decide))) hkp (fun k_ hk_ hs_ => Or.elim hs_ (fun e_ => (hk_.2) e_) (fun e_ => (hk_.1.2) e_))) (fun k_ hk_ => ⟨hk_.1.1.1, hk_.1.1.2⟩)); replace HO_292000 := am (Kd.R_mono (ok' := fun k_ => some k_ ≠ (.slice Ao22 t277.length co22 : Value).ownBlock ∧ some k_ ≠ (.slice Ao36 t292.length co36 : Value).ownBlock) (Kd.R_keptB ((Kd.R_apart' HO_292000.out (Kd.R_typed HO_300001.out) (by decide))) hkp (fun k_ hk_ hs_ => Or.elim hs_ (fun e_ => (hk_.1.2) e_) (fun e_ => (hk_.2) e_))) (fun k_ hk_ => ⟨hk_.1.1.1, hk_.1.1.2⟩)); replace HO_292001 := am (Kd.R_mono (ok' := fun k_ => some k_ ≠ (.slice Ao25 t280.length co25 : Value).ownBlock ∧ some k_ ≠ (.slice Ao41 t295.length co41 : Value).ownBlock) (Kd.R_keptB ((Kd.R_apart' HO_292001.out (Kd.R_typed HO_300000.out) (by decide))) hkp (fun k_ hk_ hs_ => Or.elim hs_ (fun e_ => (hk_.2) e_) (fun e_ => (hk_.1.2) e_))) (fun k_ hk_ => ⟨hk_.1.1.1, hk_.1.1.2⟩)); replace BK269 := am (blk_kept (zq BK269) hkp (fun hs_ => Or.elim hs_ (fun e_ => (fun e_ => (Kd.R_ne HO_300000.out BK269.out (by decide)) e_) e_) (fun e_ => (fun e_ => (Kd.R_ne HO_300001.out BK269.out (by decide)) e_) e_))); replace BK284 := am (blk_kept (zq BK284) hkp (fun hs_ => Or.elim hs_ (fun e_ => (fun e_ => (Kd.R_ne HO_300000.out BK284.out (by decide)) e_) e_) (fun e_ => (fun e_ => (Kd.R_ne HO_300001.out BK284.out (by decide)) e_) e_))); replace BK291 := am (blk_kept (zq BK291) hkp (fun hs_ => Or.elim hs_ (fun e_ => (fun e_ => (Kd.R_ne HO_300000.out BK291.out (by decide)) e_) e_) (fun e_ => (fun e_ => (Kd.R_ne HO_300001.out BK291.out (by decide)) e_) e_))); replace BK299 := am (blk_kept (zq BK299) hkp (fun hs_ => Or.elim hs_ (fun e_ => (fun e_ => (Kd.R_ne HO_300000.out BK299.out (by decide)) e_) e_) (fun e_ => (fun e_ => (Kd.R_ne HO_300001.out BK299.out (by decide)) e_) e_))); replace HO_300000 := am (Kd.R_reok rfl hy0 (fun k_ e_ => HO_300000.out.1 k_ e_)); replace HO_300001 := am (Kd.R_reok rfl hy1 (fun k_ e_ => HO_300001.out.1 k_ e_)); replace HB := am (hb); (try clear hb hkp hy0 hy1); have ⟨hcz115_0, hcz115_1, hfz115_0, hfz115_1⟩ := bc2 BK299) | ((with_reducible refine gate_callee (f := 13) rfl ?_); refine goesL_ (some 71) rfl rfl Try.func13 (by kernel_rfl) rfl #[.agg #[.slice Ao36 t313.length co36, .slice Ao41 t314.length co41], .int .i64 1] rfl (by (try simp only [List.map_toArray, List.map_cons, List.map_nil]); first | done | (rw [show t313.length = t292.length from (Kd.R_reads' HO_300000.out).1.symm, show t314.length = t295.length from (Kd.R_reads' HO_300001.out).1.symm] <;> rfl) | rfl | (simp only [List.length_drop, List.length_take]; rfl)) ?_; (with_reducible refine (laws_heldShop.calls kj64 _ _ t313 _ _ t314 1 t315 _ ?s1 ?s2 ?s3 ?s4 A97.out).mono ?_); (case s1 => exact cr HO_300000); (case s2 => rw [show t313.length = t292.length from (Kd.R_reads' HO_300000.out).1.symm]; exact rq1 HO_300000); (case s3 => exact cr HO_300001); (case s4 => rw [show t314.length = t295.length from (Kd.R_reads' HO_300001.out).1.symm]; exact rq1 HO_300001); rintro e w116 ⟨rfl, hb⟩; refine ⟨_, rfl, ?_⟩; replace HO_285000 := rb HO_285000 hb; replace HO_285001 := rb HO_285001 hb; replace HO_292000 := rb HO_292000 hb; replace HO_292001 := rb HO_292001 hb; replace HO_300000 := rb HO_300000 hb; replace HO_300001 := rb HO_300001 hb; replace BK269 := zb BK269 hb; replace BK284 := zb BK284 hb; replace BK291 := zb BK291 hb; replace BK299 := zb BK299 hb; replace HB := sb hb; (try clear hb); have hnb117 := NB269_284.out; have hnc117 := NB284_269.out; have hnb118 := NB269_291.out; have hnc118 := NB291_269.out; have ⟨hcz119_0, hcz119_1, hfz119_0, hfz119_1⟩ := bc2 BK269) | ((with_reducible refine gate_callee (f := 9) rfl ?_); refine goesQ (some 79) Try.func9 #[.agg #[.slice A0_0 l0_0.length c0_0, .slice A0_1 l0_1.length c0_1]] ?_; (with_reducible refine (laws_toShop.calls kj64 _ _ l0_0 _ _ l0_1 t316 t319 _ ?s1 ?s2 ?s3 ?s4 A107.out).mono ?_); (case s1 => exact cq (Kd.C_below HR0_0.out HB.out)); (case s2 => exact HC0_0.out); (case s3 => exact cq (Kd.C_below HR0_1.out HB.out)); (case s4 => exact HC0_1.out); rintro e w120 ⟨v317, v320, rfl, ho0, ho1, hb⟩; refine ⟨_, rfl, ?_⟩; have HO318 := rl (Kd.R_new' (Kd.R_new' (Kd.R_new' ho0 (lw HO_285000)) (lw HO_292000)) (lw HO_300000)); replace HO_285000 := am (Kd.R_elder' (rq HO_285000) (Kd.R_base ho0) hb); replace HO_292000 := am (Kd.R_elder' (rq HO_292000) (Kd.R_base ho0) hb); replace HO_300000 := am (Kd.R_elder' (rq HO_300000) (Kd.R_base ho0) hb); have HO321 := rl (Kd.R_new' (Kd.R_new' (Kd.R_new' ho1 (lw HO_285001)) (lw HO_292001)) (lw HO_300001)); replace HO_285001 := am (Kd.R_elder' (rq HO_285001) (Kd.R_base ho1) hb); replace HO_292001 := am (Kd.R_elder' (rq HO_292001) (Kd.R_base ho1) hb); replace HO_300001 := am (Kd.R_elder' (rq HO_300001) (Kd.R_base ho1) hb); replace BK269 := zb BK269 hb; replace BK284 := zb BK284 hb; replace BK291 := zb BK291 hb; replace BK299 := zb BK299 hb; replace HB := sb hb; (try clear hb ho0 ho1); obtain ⟨Ao121, co121, eo121⟩ := Kd.R_slice HO318.out; subst eo121; obtain ⟨Ao122, co122, eo122⟩ := Kd.R_slice HO321.out; subst eo122) | ((with_reducible refine gate_callee (f := 10) rfl ?_); refine goesQ (some 81) Try.func10 #[.agg #[.slice Ao121 t316.length co121, .slice Ao122 t319.length co122], .int .i64 a1] ?_; (with_reducible refine (impl_LostParts.calls kj64 _ _ t316 _ _ t319 a1 t322 t325 t328 _ ?s1 ?s2 ?s3 ?s4 A108.out).mono ?_); (case s1 => exact cr HO318); (case s2 => exact rq1 HO318); (case s3 => exact cr HO321); (case s4 => exact rq1 HO321); rintro e w123 ⟨v323, v326, rfl, ho0, ho1, hb⟩; refine ⟨_, rfl, ?_⟩; have HO324 := rl (Kd.R_new' (Kd.R_new' (Kd.R_new' (Kd.R_new' ho0 (lw HO_285000)) (lw HO_292000)) (lw HO_300000)) (lw HO318)); replace HO_285000 := am (Kd.R_elder' (rq HO_285000) (Kd.R_base ho0) hb); replace HO_292000 := am (Kd.R_elder' (rq HO_292000) (Kd.R_base ho0) hb); replace HO_300000 := am (Kd.R_elder' (rq HO_300000) (Kd.R_base ho0) hb); have HO327 := rl (Kd.R_new' (Kd.R_new' (Kd.R_new' (Kd.R_new' ho1 (lw HO_285001)) (lw HO_292001)) (lw HO_300001)) (lw HO321)); replace HO_285001 := am (Kd.R_elder' (rq HO_285001) (Kd.R_base ho1) hb); replace HO_292001 := am (Kd.R_elder' (rq HO_292001) (Kd.R_base ho1) hb); replace HO_300001 := am (Kd.R_elder' (rq HO_300001) (Kd.R_base ho1) hb); replace BK269 := zb BK269 hb; replace BK284 := zb BK284 hb; replace BK291 := zb BK291 hb; replace BK299 := zb BK299 hb; replace HB := sb hb; (try clear hb ho0 ho1)) | ((with_reducible refine gate_dst (N := 14) rfl ?_); refine box_event ?hg (N := 14) ?hd (cs := #[.slice none 0 0, .slice none 0 0]) (t := 29) ?hr ?_; (case hd => rfl); (case hg => rfl); (case hr => first | (go_simp; done) | (go_simp; rfl)); intro gb329 hg w124 hbox hb; replace HO_285000 := rb HO_285000 hb; replace HO_285001 := rb HO_285001 hb; replace HO_292000 := rb HO_292000 hb; replace HO_292001 := rb HO_292001 hb; replace HO_300000 := rb HO_300000 hb; replace HO_300001 := rb HO_300001 hb; replace HO324 := rb HO324 hb; replace HO327 := rb HO327 hb; have BK329 := am (hbox); have GW329 := am (gq hg); have GE329 := am (gq hg); replace HB := sb hb; have NB269_329 := nl hg BK269; have NB329_269 := ng hg BK269; replace BK269 := zb BK269 hb; have NB284_329 := nl hg BK284; have NB329_284 := ng hg BK284; replace BK284 := zb BK284 hb; have NB291_329 := nl hg BK291; have NB329_291 := ng hg BK291; replace BK291 := zb BK291 hb; have NB299_329 := nl hg BK299; have NB329_299 := ng hg BK299; replace BK299 := zb BK299 hb; clear hb hbox hg; obtain ⟨Ao125, co125, eo125⟩ := Kd.R_slice HO324.out; subst eo125; have hnb126 := NB329_269.out; have hnc126 := NB269_329.out; have hnb127 := NB329_284.out; have hnc127 := NB284_329.out; have hnb128 := NB329_291.out; have hnc128 := NB291_329.out; have hnb129 := NB329_299.out; have hnc129 := NB299_329.out; have ⟨hcz130_0, hcz130_1, hfz130_0, hfz130_1⟩ := bc2 BK329; obtain ⟨Ao131, co131, eo131⟩ := Kd.R_slice HO327.out; subst eo131))
           (try simp only [Act.put, List.setIfInBounds_toArray, List.set_cons_zero, List.set_cons_succ])
           go_cut [92] (fun v92 wc => ∃ (kq : Nat) (x92_108 : Bool), v92 = .bool x92_108 ∧ Aside0 (laws_FnExactLostParts.j2 kq t312 x92_108 t313 t314 = some r) ∧ Aside0 (kq ≤ kj64) ∧ Aside0 (Kd.R (Kd.int .i64) 3 wc w.heap.size (fun k_ => some k_ ≠ ((.slice Ao29 t309.length co29) : Value).ownBlock ∧ some k_ ≠ ((.slice Ao36 t292.length co36) : Value).ownBlock ∧ some k_ ≠ ((.slice Ao125 t322.length co125) : Value).ownBlock) (.slice Ao22 t277.length co22) t277) ∧ Aside0 (Kd.R k41 41 wc w.heap.size (fun k_ => some k_ ≠ ((.slice Ao33 t310.length co33) : Value).ownBlock ∧ some k_ ≠ ((.slice Ao41 t295.length co41) : Value).ownBlock ∧ some k_ ≠ ((.slice Ao131 t325.length co131) : Value).ownBlock) (.slice Ao25 t280.length co25) t280) ∧ Aside0 (Kd.R (Kd.int .i64) 3 wc w.heap.size (fun k_ => some k_ ≠ ((.slice Ao22 t277.length co22) : Value).ownBlock ∧ some k_ ≠ ((.slice Ao36 t292.length co36) : Value).ownBlock ∧ some k_ ≠ ((.slice Ao125 t322.length co125) : Value).ownBlock) (.slice Ao29 t309.length co29) t309) ∧ Aside0 (Kd.R k41 41 wc w.heap.size (fun k_ => some k_ ≠ ((.slice Ao25 t280.length co25) : Value).ownBlock ∧ some k_ ≠ ((.slice Ao41 t295.length co41) : Value).ownBlock ∧ some k_ ≠ ((.slice Ao131 t325.length co131) : Value).ownBlock) (.slice Ao33 t310.length co33) t310) ∧ Aside0 (Kd.R (Kd.int .i64) 3 wc w.heap.size (fun k_ => some k_ ≠ ((.slice Ao22 t277.length co22) : Value).ownBlock ∧ some k_ ≠ ((.slice Ao29 t309.length co29) : Value).ownBlock ∧ some k_ ≠ ((.slice Ao125 t322.length co125) : Value).ownBlock) (.slice Ao36 t292.length co36) t313) ∧ Aside0 (Kd.R k41 41 wc w.heap.size (fun k_ => some k_ ≠ ((.slice Ao25 t280.length co25) : Value).ownBlock ∧ some k_ ≠ ((.slice Ao33 t310.length co33) : Value).ownBlock ∧ some k_ ≠ ((.slice Ao131 t325.length co131) : Value).ownBlock) (.slice Ao41 t295.length co41) t314) ∧ Aside0 (Kd.R (Kd.int .i64) 3 wc w.heap.size (fun k_ => some k_ ≠ ((.slice Ao22 t277.length co22) : Value).ownBlock ∧ some k_ ≠ ((.slice Ao29 t309.length co29) : Value).ownBlock ∧ some k_ ≠ ((.slice Ao36 t292.length co36) : Value).ownBlock) (.slice Ao125 t322.length co125) t322) ∧ Aside0 (Kd.R k41 41 wc w.heap.size (fun k_ => some k_ ≠ ((.slice Ao25 t280.length co25) : Value).ownBlock ∧ some k_ ≠ ((.slice Ao33 t310.length co33) : Value).ownBlock ∧ some k_ ≠ ((.slice Ao41 t295.length co41) : Value).ownBlock) (.slice Ao131 t325.length co131) t325) ∧ Aside0 (wc.heap[gb269]? = some (.cells #[(.slice A0_0 l0_0.length c0_0), (.slice A0_1 l0_1.length c0_1)] 25 (0, 0))) ∧ Aside0 (wc.heap[gb284]? = some (.cells #[(.slice Ao22 t277.length co22), (.slice Ao25 t280.length co25)] 29 (0, 0))) ∧ Aside0 (wc.heap[gb291]? = some (.cells #[(.slice Ao29 t309.length co29), (.slice Ao33 t310.length co33)] 29 (0, 0))) ∧ Aside0 (wc.heap[gb299]? = some (.cells #[(.slice Ao36 t292.length co36), (.slice Ao41 t295.length co41)] 29 (0, 0))) ∧ Aside0 (wc.heap[gb329]? = some (.cells #[(.slice Ao125 t322.length co125), (.slice Ao131 t325.length co131)] 29 (0, 0))) ∧ Aside0 (Below w.heap.size w wc))
           case first =>
            have H := HC109.out
            clear HC109
            obtain ⟨t330, A132, H⟩ := bindq H
            try dsimp only at H
            by_cases c133 : t330 = true
            ·subst c133
             rw [if_pos rfl] at H
             try dsimp only at H
             have H' := am H
             clear H
             have hnb134 := NB329_269.out
             have hnc134 := NB269_329.out
             have hnb135 := NB329_284.out
             have hnc135 := NB284_329.out
             have hnb136 := NB329_291.out
             have hnc136 := NB291_329.out
             have hnb137 := NB329_299.out
             have hnc137 := NB299_329.out
             have ⟨hcz138_0, hcz138_1, hfz138_0, hfz138_1⟩ := bc2 BK329
             have hnb139 := NB284_269.out
             have hnc139 := NB269_284.out
             have hnb140 := NB284_291.out
             have hnc140 := NB291_284.out
             have hnb141 := NB284_299.out
             have hnc141 := NB299_284.out
             have ⟨hcz142_0, hcz142_1, hfz142_0, hfz142_1⟩ := bc2 BK284
             go_wp2_with (first | ((with_reducible refine gate_callee (f := 11) rfl ?_); refine goesQ (some 86) Try.func11 #[.agg #[.slice Ao125 t322.length co125, .slice Ao131 t325.length co131], .agg #[.slice Ao22 t277.length co22, .slice Ao25 t280.length co25]] ?_; (with_reducible refine (laws_eqShop.calls kj64 _ _ t322 _ _ t325 _ _ t277 _ _ t280 true _ ?s1 ?s2 ?s3 ?s4 ?s5 ?s6 ?s7 ?s8 A132.out).mono ?_); (case s1 => exact cf HO324 BK329); (case s2 => exact rq1 HO324); (case s3 => exact cf HO327 BK329); (case s4 => exact rq1 HO327); (case s5 => exact cf HO_285000 BK329); (case s6 => exact rq1 HO_285000); (case s7 => exact cf HO_285001 BK329); (case s8 => exact rq1 HO_285001); rintro e w143 ⟨rfl, hb⟩; refine ⟨_, rfl, ?_⟩; replace HO_285000 := am (Kd.R_below (fq HO_285000 BK329) hb); replace HO_285001 := am (Kd.R_below (fq HO_285001 BK329) hb); replace HO_292000 := am (Kd.R_below (fq HO_292000 BK329) hb); replace HO_292001 := am (Kd.R_below (fq HO_292001 BK329) hb); replace HO_300000 := am (Kd.R_below (fq HO_300000 BK329) hb); replace HO_300001 := am (Kd.R_below (fq HO_300001 BK329) hb); replace HO324 := am (Kd.R_below (fq HO324 BK329) hb); replace HO327 := am (Kd.R_below (fq HO327 BK329) hb); replace BK269 := am (blk_below (g := gb269) (o := .cells #[.slice A0_0 l0_0.length c0_0, .slice A0_1 l0_1.length c0_1] 25 (0, 0)) (zp BK269) hb); replace BK284 := am (blk_below (g := gb284) (o := .cells #[.slice Ao22 t277.length co22, .slice Ao25 t280.length co25] 29 (0, 0)) (zp BK284) hb); replace BK291 := am (blk_below (g := gb291) (o := .cells #[.slice Ao29 t309.length co29, .slice Ao33 t310.length co33] 29 (0, 0)) (zp BK291) hb); replace BK299 := am (blk_below (g := gb299) (o := .cells #[.slice Ao36 t292.length co36, .slice Ao41 t295.length co41] 29 (0, 0)) (zp BK299) hb); replace BK329 := am (blk_below (g := gb329) (o := .cells #[.slice Ao125 t322.length co125, .slice Ao131 t325.length co131] 29 (0, 0)) (zp BK329) hb); replace HB := sb hb; (try clear hb)))
             go_meet
             case rel => exact ⟨_, ((t328 != t283)), sq, H', ⟨by have := HJ11.out; have := HJ64.out; first | omega | exact Nat.le_refl _⟩, ⟨by (try simp only [hl292000_64]); (try simp only [hl292001_64]); (with_reducible repeat (first | apply Kd.R_alloc | apply Kd.R_drewN | apply Kd.R_drew)); exact Kd.R_mono HO_285000.out (fun _ hk => ⟨hk.1.1.1, ⟨hk.1.1.2, hk.2⟩⟩)⟩, ⟨by (try simp only [hl292000_64]); (try simp only [hl292001_64]); (with_reducible repeat (first | apply Kd.R_alloc | apply Kd.R_drewN | apply Kd.R_drew)); exact Kd.R_mono HO_285001.out (fun _ hk => ⟨hk.1.1.1, ⟨hk.1.1.2, hk.2⟩⟩)⟩, ⟨by (try simp only [hl292000_64]); (try simp only [hl292001_64]); (with_reducible repeat (first | apply Kd.R_alloc | apply Kd.R_drewN | apply Kd.R_drew)); exact Kd.R_mono HO_292000.out (fun _ hk => ⟨hk.1.1.1, ⟨hk.1.1.2, hk.2⟩⟩)⟩, ⟨by (try simp only [hl292000_64]); (try simp only [hl292001_64]); (with_reducible repeat (first | apply Kd.R_alloc | apply Kd.R_drewN | apply Kd.R_drew)); exact Kd.R_mono HO_292001.out (fun _ hk => ⟨hk.1.1.1, ⟨hk.1.1.2, hk.2⟩⟩)⟩, ⟨by (try simp only [hl292000_64]); (try simp only [hl292001_64]); (with_reducible repeat (first | apply Kd.R_alloc | apply Kd.R_drewN | apply Kd.R_drew)); exact Kd.R_mono HO_300000.out (fun _ hk => ⟨hk.1.1.1, ⟨hk.1.1.2, hk.2⟩⟩)⟩, ⟨by (try simp only [hl292000_64]); (try simp only [hl292001_64]); (with_reducible repeat (first | apply Kd.R_alloc | apply Kd.R_drewN | apply Kd.R_drew)); exact Kd.R_mono HO_300001.out (fun _ hk => ⟨hk.1.1.1, ⟨hk.1.1.2, hk.2⟩⟩)⟩, ⟨by (try simp only [hl292000_64]); (try simp only [hl292001_64]); (with_reducible repeat (first | apply Kd.R_alloc | apply Kd.R_drewN | apply Kd.R_drew)); exact Kd.R_mono HO324.out (fun _ hk => ⟨hk.1.1.1.2, ⟨hk.1.1.2, hk.1.2⟩⟩)⟩, ⟨by (try simp only [hl292000_64]); (try simp only [hl292001_64]); (with_reducible repeat (first | apply Kd.R_alloc | apply Kd.R_drewN | apply Kd.R_drew)); exact Kd.R_mono HO327.out (fun _ hk => ⟨hk.1.1.1.2, ⟨hk.1.1.2, hk.1.2⟩⟩)⟩, ⟨by (try simp only [hl292000_64]); (try simp only [hl292001_64]); (with_reducible repeat (first | refine blk_drewN ?_ _ | refine blk_drew ?_ | refine blk_alloc ?_ _)); exact BK269.out⟩, ⟨by (try simp only [hl292000_64]); (try simp only [hl292001_64]); (with_reducible repeat (first | refine blk_drewN ?_ _ | refine blk_drew ?_ | refine blk_alloc ?_ _)); exact BK284.out⟩, ⟨by (try simp only [hl292000_64]); (try simp only [hl292001_64]); (with_reducible repeat (first | refine blk_drewN ?_ _ | refine blk_drew ?_ | refine blk_alloc ?_ _)); exact BK291.out⟩, ⟨by (try simp only [hl292000_64]); (try simp only [hl292001_64]); (with_reducible repeat (first | refine blk_drewN ?_ _ | refine blk_drew ?_ | refine blk_alloc ?_ _)); exact BK299.out⟩, ⟨by (try simp only [hl292000_64]); (try simp only [hl292001_64]); (with_reducible repeat (first | refine blk_drewN ?_ _ | refine blk_drew ?_ | refine blk_alloc ?_ _)); exact BK329.out⟩, ⟨bq⟩⟩
            ·replace c133 := Bool.eq_false_iff.mpr c133
             subst c133
             rw [if_neg (show ¬ (false = true) by decide)] at H
             try dsimp only at H
             have H' := am H
             clear H
             have hnb144 := NB329_269.out
             have hnc144 := NB269_329.out
             have hnb145 := NB329_284.out
             have hnc145 := NB284_329.out
             have hnb146 := NB329_291.out
             have hnc146 := NB291_329.out
             have hnb147 := NB329_299.out
             have hnc147 := NB299_329.out
             have ⟨hcz148_0, hcz148_1, hfz148_0, hfz148_1⟩ := bc2 BK329
             have hnb149 := NB284_269.out
             have hnc149 := NB269_284.out
             have hnb150 := NB284_291.out
             have hnc150 := NB291_284.out
             have hnb151 := NB284_299.out
             have hnc151 := NB299_284.out
             have ⟨hcz152_0, hcz152_1, hfz152_0, hfz152_1⟩ := bc2 BK284
             go_wp2_with (first | ((with_reducible refine gate_callee (f := 11) rfl ?_); refine goesQ (some 86) Try.func11 #[.agg #[.slice Ao125 t322.length co125, .slice Ao131 t325.length co131], .agg #[.slice Ao22 t277.length co22, .slice Ao25 t280.length co25]] ?_; (with_reducible refine (laws_eqShop.calls kj64 _ _ t322 _ _ t325 _ _ t277 _ _ t280 false _ ?s1 ?s2 ?s3 ?s4 ?s5 ?s6 ?s7 ?s8 A132.out).mono ?_); (case s1 => exact cf HO324 BK329); (case s2 => exact rq1 HO324); (case s3 => exact cf HO327 BK329); (case s4 => exact rq1 HO327); (case s5 => exact cf HO_285000 BK329); (case s6 => exact rq1 HO_285000); (case s7 => exact cf HO_285001 BK329); (case s8 => exact rq1 HO_285001); rintro e w153 ⟨rfl, hb⟩; refine ⟨_, rfl, ?_⟩; replace HO_285000 := am (Kd.R_below (fq HO_285000 BK329) hb); replace HO_285001 := am (Kd.R_below (fq HO_285001 BK329) hb); replace HO_292000 := am (Kd.R_below (fq HO_292000 BK329) hb); replace HO_292001 := am (Kd.R_below (fq HO_292001 BK329) hb); replace HO_300000 := am (Kd.R_below (fq HO_300000 BK329) hb); replace HO_300001 := am (Kd.R_below (fq HO_300001 BK329) hb); replace HO324 := am (Kd.R_below (fq HO324 BK329) hb); replace HO327 := am (Kd.R_below (fq HO327 BK329) hb); replace BK269 := am (blk_below (g := gb269) (o := .cells #[.slice A0_0 l0_0.length c0_0, .slice A0_1 l0_1.length c0_1] 25 (0, 0)) (zp BK269) hb); replace BK284 := am (blk_below (g := gb284) (o := .cells #[.slice Ao22 t277.length co22, .slice Ao25 t280.length co25] 29 (0, 0)) (zp BK284) hb); replace BK291 := am (blk_below (g := gb291) (o := .cells #[.slice Ao29 t309.length co29, .slice Ao33 t310.length co33] 29 (0, 0)) (zp BK291) hb); replace BK299 := am (blk_below (g := gb299) (o := .cells #[.slice Ao36 t292.length co36, .slice Ao41 t295.length co41] 29 (0, 0)) (zp BK299) hb); replace BK329 := am (blk_below (g := gb329) (o := .cells #[.slice Ao125 t322.length co125, .slice Ao131 t325.length co131] 29 (0, 0)) (zp BK329) hb); replace HB := sb hb; (try clear hb)))
             go_meet
             case rel => exact ⟨_, (true), sq, H', ⟨by have := HJ11.out; have := HJ64.out; first | omega | exact Nat.le_refl _⟩, ⟨by (try simp only [hl292000_64]); (try simp only [hl292001_64]); (with_reducible repeat (first | apply Kd.R_alloc | apply Kd.R_drewN | apply Kd.R_drew)); exact Kd.R_mono HO_285000.out (fun _ hk => ⟨hk.1.1.1, ⟨hk.1.1.2, hk.2⟩⟩)⟩, ⟨by (try simp only [hl292000_64]); (try simp only [hl292001_64]); (with_reducible repeat (first | apply Kd.R_alloc | apply Kd.R_drewN | apply Kd.R_drew)); exact Kd.R_mono HO_285001.out (fun _ hk => ⟨hk.1.1.1, ⟨hk.1.1.2, hk.2⟩⟩)⟩, ⟨by (try simp only [hl292000_64]); (try simp only [hl292001_64]); (with_reducible repeat (first | apply Kd.R_alloc | apply Kd.R_drewN | apply Kd.R_drew)); exact Kd.R_mono HO_292000.out (fun _ hk => ⟨hk.1.1.1, ⟨hk.1.1.2, hk.2⟩⟩)⟩, ⟨by (try simp only [hl292000_64]); (try simp only [hl292001_64]); (with_reducible repeat (first | apply Kd.R_alloc | apply Kd.R_drewN | apply Kd.R_drew)); exact Kd.R_mono HO_292001.out (fun _ hk => ⟨hk.1.1.1, ⟨hk.1.1.2, hk.2⟩⟩)⟩, ⟨by (try simp only [hl292000_64]); (try simp only [hl292001_64]); (with_reducible repeat (first | apply Kd.R_alloc | apply Kd.R_drewN | apply Kd.R_drew)); exact Kd.R_mono HO_300000.out (fun _ hk => ⟨hk.1.1.1, ⟨hk.1.1.2, hk.2⟩⟩)⟩, ⟨by (try simp only [hl292000_64]); (try simp only [hl292001_64]); (with_reducible repeat (first | apply Kd.R_alloc | apply Kd.R_drewN | apply Kd.R_drew)); exact Kd.R_mono HO_300001.out (fun _ hk => ⟨hk.1.1.1, ⟨hk.1.1.2, hk.2⟩⟩)⟩, ⟨by (try simp only [hl292000_64]); (try simp only [hl292001_64]); (with_reducible repeat (first | apply Kd.R_alloc | apply Kd.R_drewN | apply Kd.R_drew)); exact Kd.R_mono HO324.out (fun _ hk => ⟨hk.1.1.1.2, ⟨hk.1.1.2, hk.1.2⟩⟩)⟩, ⟨by (try simp only [hl292000_64]); (try simp only [hl292001_64]); (with_reducible repeat (first | apply Kd.R_alloc | apply Kd.R_drewN | apply Kd.R_drew)); exact Kd.R_mono HO327.out (fun _ hk => ⟨hk.1.1.1.2, ⟨hk.1.1.2, hk.1.2⟩⟩)⟩, ⟨by (try simp only [hl292000_64]); (try simp only [hl292001_64]); (with_reducible repeat (first | refine blk_drewN ?_ _ | refine blk_drew ?_ | refine blk_alloc ?_ _)); exact BK269.out⟩, ⟨by (try simp only [hl292000_64]); (try simp only [hl292001_64]); (with_reducible repeat (first | refine blk_drewN ?_ _ | refine blk_drew ?_ | refine blk_alloc ?_ _)); exact BK284.out⟩, ⟨by (try simp only [hl292000_64]); (try simp only [hl292001_64]); (with_reducible repeat (first | refine blk_drewN ?_ _ | refine blk_drew ?_ | refine blk_alloc ?_ _)); exact BK291.out⟩, ⟨by (try simp only [hl292000_64]); (try simp only [hl292001_64]); (with_reducible repeat (first | refine blk_drewN ?_ _ | refine blk_drew ?_ | refine blk_alloc ?_ _)); exact BK299.out⟩, ⟨by (try simp only [hl292000_64]); (try simp only [hl292001_64]); (with_reducible repeat (first | refine blk_drewN ?_ _ | refine blk_drew ?_ | refine blk_alloc ?_ _)); exact BK329.out⟩, ⟨bq⟩⟩
           case rest =>
            clear HC109
            try clear c4b0
            try clear c43
            try clear c60
            try clear c63
            try clear c76b0
            try clear c78
            try clear c95
            try clear c98b0
            try clear c106b0
            try clear c106b1
            try clear c133
            try clear hcz102_0 hcz102_1 hfz102_0 hfz102_1
            try clear hcz104_0 hcz104_1 hfz104_0 hfz104_1
            try clear hcz113_0 hcz113_1 hfz113_0 hfz113_1
            try clear hcz115_0 hcz115_1 hfz115_0 hfz115_1
            try clear hcz119_0 hcz119_1 hfz119_0 hfz119_1
            try clear hcz130_0 hcz130_1 hfz130_0 hfz130_1
            try clear hcz138_0 hcz138_1 hfz138_0 hfz138_1
            try clear hcz142_0 hcz142_1 hfz142_0 hfz142_1
            try clear hcz148_0 hcz148_1 hfz148_0 hfz148_1
            try clear hcz14_0 hcz14_1 hfz14_0 hfz14_1
            try clear hcz152_0 hcz152_1 hfz152_0 hfz152_1
            try clear hcz16_0 hcz16_1 hfz16_0 hfz16_1
            try clear hcz24_0 hcz24_1 hfz24_0 hfz24_1
            try clear hcz26_0 hcz26_1 hfz26_0 hfz26_1
            try clear hcz32_0 hcz32_1 hfz32_0 hfz32_1
            try clear hcz40_0 hcz40_1 hfz40_0 hfz40_1
            try clear hcz47_0 hcz47_1 hfz47_0 hfz47_1
            try clear hcz50_0 hcz50_1 hfz50_0 hfz50_1
            try clear hcz55_0 hcz55_1 hfz55_0 hfz55_1
            try clear hcz58_0 hcz58_1 hfz58_0 hfz58_1
            try clear hcz6_0 hcz6_1 hfz6_0 hfz6_1
            try clear hcz74_0 hcz74_1 hfz74_0 hfz74_1
            try clear hcz82_0 hcz82_1 hfz82_0 hfz82_1
            try clear hcz85_0 hcz85_1 hfz85_0 hfz85_1
            try clear hcz90_0 hcz90_1 hfz90_0 hfz90_1
            try clear hcz93_0 hcz93_1 hfz93_0 hfz93_1
            obtain ⟨kq, x92_108, rfl, HA, HJ108, HO_285000, HO_285001, HO_292000, HO_292001, HO_300000, HO_300001, HO_330000, HO_330001, BK269, BK284, BK291, BK299, BK329, HB⟩ := hcut
            have hl300000_108 := (Kd.R_reads' HO_300000.out).1
            rw [hl300000_108] at HO_300000
            (try simp only [hl300000_108])
            (try simp only [hl300000_108] at BK269)
            (try simp only [hl300000_108] at BK284)
            (try simp only [hl300000_108] at BK291)
            (try simp only [hl300000_108] at BK299)
            (try simp only [hl300000_108] at BK329)
            (try simp only [hl300000_108] at HO_285000)
            (try simp only [hl300000_108] at HO_285001)
            (try simp only [hl300000_108] at HO_292000)
            (try simp only [hl300000_108] at HO_292001)
            (try simp only [hl300000_108] at HO_300001)
            (try simp only [hl300000_108] at HO_330000)
            (try simp only [hl300000_108] at HO_330001)
            have hl300001_108 := (Kd.R_reads' HO_300001.out).1
            rw [hl300001_108] at HO_300001
            (try simp only [hl300001_108])
            (try simp only [hl300001_108] at BK269)
            (try simp only [hl300001_108] at BK284)
            (try simp only [hl300001_108] at BK291)
            (try simp only [hl300001_108] at BK299)
            (try simp only [hl300001_108] at BK329)
            (try simp only [hl300001_108] at HO_285000)
            (try simp only [hl300001_108] at HO_285001)
            (try simp only [hl300001_108] at HO_292000)
            (try simp only [hl300001_108] at HO_292001)
            (try simp only [hl300001_108] at HO_300000)
            (try simp only [hl300001_108] at HO_330000)
            (try simp only [hl300001_108] at HO_330001)
            cases kq with
            | zero => exact absurd HA.out (by simp [laws_FnExactLostParts.j2])
            | succ kj108 =>
             have H := HA.out
             clear HA
             simp only [laws_FnExactLostParts.j2] at H
             by_cases c154 : x92_108 = true
             ·subst c154
              rw [if_pos rfl] at H
              try dsimp only at H
              obtain rfl := Option.some.inj H
              go_wp2
              go_ret
              exact ⟨eq_, bq⟩
             ·replace c154 := Bool.eq_false_iff.mpr c154
              subst c154
              rw [if_neg (show ¬ (false = true) by decide)] at H
              try dsimp only at H
              obtain ⟨t331, A155, H⟩ := bindq H
              try dsimp only at H
              by_cases c156 : t331 < 0
              ·rw [if_pos c156] at H
               have c156b0 : decide (t331 < 0) = true := decide_eq_true c156
               clear c156
               obtain rfl := Option.some.inj H
               have hnb157 := NB299_269.out
               have hnc157 := NB269_299.out
               have hnb158 := NB299_284.out
               have hnc158 := NB284_299.out
               have hnb159 := NB299_291.out
               have hnc159 := NB291_299.out
               have hnb160 := NB299_329.out
               have hnc160 := NB329_299.out
               have ⟨hcz161_0, hcz161_1, hfz161_0, hfz161_1⟩ := bc2 BK299
               go_wp2_with (first | ((with_reducible refine gate_callee (f := 13) rfl ?_); refine goesQ (some 95) Try.func13 #[.agg #[.slice Ao36 t313.length co36, .slice Ao41 t314.length co41], .int .i64 1] ?_; (with_reducible refine (laws_heldShop.calls kj108 _ _ t313 _ _ t314 1 t331 _ ?s1 ?s2 ?s3 ?s4 A155.out).mono ?_); (case s1 => exact cr HO_300000); (case s2 => exact rq1 HO_300000); (case s3 => exact cr HO_300001); (case s4 => exact rq1 HO_300001); rintro e w162 ⟨rfl, hb⟩; refine ⟨_, rfl, ?_⟩; replace HO_285000 := rb HO_285000 hb; replace HO_285001 := rb HO_285001 hb; replace HO_292000 := rb HO_292000 hb; replace HO_292001 := rb HO_292001 hb; replace HO_300000 := rb HO_300000 hb; replace HO_300001 := rb HO_300001 hb; replace BK269 := zb BK269 hb; replace BK284 := zb BK284 hb; replace BK291 := zb BK291 hb; replace BK299 := zb BK299 hb; replace BK329 := zb BK329 hb; replace HB := sb hb; (try clear hb)))
               go_ret
               exact ⟨eq_, bq⟩
              ·rw [if_neg c156] at H
               have c156b0 : decide (t331 < 0) = false := decide_eq_false c156
               clear c156
               by_cases c163 : t331 = t312
               ·rw [if_pos c163] at H
                have c163b0 : (t331 == t312) = true := beq_iff_eq.mpr c163
                have c163b1 : (t331 != t312) = false := bne_eq_false_iff_eq.mpr c163
                clear c163
                obtain rfl := Option.some.inj H
                have hnb164 := NB299_269.out
                have hnc164 := NB269_299.out
                have hnb165 := NB299_284.out
                have hnc165 := NB284_299.out
                have hnb166 := NB299_291.out
                have hnc166 := NB291_299.out
                have hnb167 := NB299_329.out
                have hnc167 := NB329_299.out
                have ⟨hcz168_0, hcz168_1, hfz168_0, hfz168_1⟩ := bc2 BK299
                go_wp2_with (first | ((with_reducible refine gate_callee (f := 13) rfl ?_); refine goesQ (some 95) Try.func13 #[.agg #[.slice Ao36 t313.length co36, .slice Ao41 t314.length co41], .int .i64 1] ?_; (with_reducible refine (laws_heldShop.calls kj108 _ _ t313 _ _ t314 1 t331 _ ?s1 ?s2 ?s3 ?s4 A155.out).mono ?_); (case s1 => exact cr HO_300000); (case s2 => exact rq1 HO_300000); (case s3 => exact cr HO_300001); (case s4 => exact rq1 HO_300001); rintro e w169 ⟨rfl, hb⟩; refine ⟨_, rfl, ?_⟩; replace HO_285000 := rb HO_285000 hb; replace HO_285001 := rb HO_285001 hb; replace HO_292000 := rb HO_292000 hb; replace HO_292001 := rb HO_292001 hb; replace HO_300000 := rb HO_300000 hb; replace HO_300001 := rb HO_300001 hb; replace BK269 := zb BK269 hb; replace BK284 := zb BK284 hb; replace BK291 := zb BK291 hb; replace BK299 := zb BK299 hb; replace BK329 := zb BK329 hb; replace HB := sb hb; (try clear hb)))
                go_ret
                exact ⟨eq_, bq⟩
               ·rw [if_neg c163] at H
                have c163b0 : (t331 == t312) = false := beq_eq_false_iff_ne.mpr c163
                have c163b1 : (t331 != t312) = true := bne_iff_ne.mpr c163
                obtain rfl := Option.some.inj H
                have hnb170 := NB299_269.out
                have hnc170 := NB269_299.out
                have hnb171 := NB299_284.out
                have hnc171 := NB284_299.out
                have hnb172 := NB299_291.out
                have hnc172 := NB291_299.out
                have hnb173 := NB299_329.out
                have hnc173 := NB329_299.out
                have ⟨hcz174_0, hcz174_1, hfz174_0, hfz174_1⟩ := bc2 BK299
                go_wp2_with (first | ((with_reducible refine gate_callee (f := 13) rfl ?_); refine goesQ (some 95) Try.func13 #[.agg #[.slice Ao36 t313.length co36, .slice Ao41 t314.length co41], .int .i64 1] ?_; (with_reducible refine (laws_heldShop.calls kj108 _ _ t313 _ _ t314 1 t331 _ ?s1 ?s2 ?s3 ?s4 A155.out).mono ?_); (case s1 => exact cr HO_300000); (case s2 => exact rq1 HO_300000); (case s3 => exact cr HO_300001); (case s4 => exact rq1 HO_300001); rintro e w175 ⟨rfl, hb⟩; refine ⟨_, rfl, ?_⟩; replace HO_285000 := rb HO_285000 hb; replace HO_285001 := rb HO_285001 hb; replace HO_292000 := rb HO_292000 hb; replace HO_292001 := rb HO_292001 hb; replace HO_300000 := rb HO_300000 hb; replace HO_300001 := rb HO_300001 hb; replace BK269 := zb BK269 hb; replace BK284 := zb BK284 hb; replace BK291 := zb BK291 hb; replace BK299 := zb BK299 hb; replace BK329 := zb BK329 hb; replace HB := sb hb; (try clear hb)))
                go_ret
                exact ⟨eq_, bq⟩
          ·rw [if_neg c106] at H
           have c106b0 : (t315 == t312) = false := beq_eq_false_iff_ne.mpr c106
           have c106b1 : (t315 != t312) = true := bne_iff_ne.mpr c106
           obtain rfl := Option.some.inj H
           have hnb176 := NB299_269.out
           have hnc176 := NB269_299.out
           have hnb177 := NB299_284.out
           have hnc177 := NB284_299.out
           have hnb178 := NB299_291.out
           have hnc178 := NB291_299.out
           have ⟨hcz179_0, hcz179_1, hfz179_0, hfz179_1⟩ := bc2 BK299
           go_wp2_with (first | ((with_reducible refine gate_callee (f := 12) rfl ?_); refine goesQ (some 68) Try.func12 #[.agg #[.slice Ao36 t292.length co36, .slice Ao41 t295.length co41], .int .i64 1] ?_; (with_reducible refine (laws_markShop.calls kj64 (fun k_ => some k_ = (.slice Ao36 t292.length co36 : Value).ownBlock) (.slice Ao36 t292.length co36) t292 (fun k_ => some k_ = (.slice Ao41 t295.length co41 : Value).ownBlock) (.slice Ao41 t295.length co41) t295 1 t312 t313 t314 w _ ?s1 ?s2 ?s3 A96.out).mono ?_); (case s1 => repeat (first | (with_reducible first | exact HB.out | apply below_alloc | apply pw_below_drewN | apply below_drew1 | refine below_set ?_ GE269.out | refine below_set ?_ GE284.out | refine below_set ?_ GE291.out | refine below_set ?_ GE299.out) | exact HB.out)); (case s2 => exact Kd.R_tight rfl HO_300000.out); (case s3 => exact Kd.R_tight rfl HO_300001.out); rintro e w180 ⟨rfl, hy0, hy1, hb, hkp⟩; refine ⟨_, rfl, ?_⟩; replace HO_285000 := am (Kd.R_mono (ok' := fun k_ => some k_ ≠ (.slice Ao29 t309.length co29 : Value).ownBlock ∧ some k_ ≠ (.slice Ao36 t292.length co36 : Value).ownBlock) (Kd.R_keptB ((Kd.R_apart' HO_285000.out (Kd.R_typed HO_300001.out) (by decide))) hkp (fun k_ hk_ hs_ => Or.elim hs_ (fun e_ => (hk_.1.2) e_) (fun e_ => (hk_.2) e_))) (fun k_ hk_ => ⟨hk_.1.1.1, hk_.1.1.2⟩)); replace HO_285001 := am (Kd.R_mono (ok' := fun k_ => some k_ ≠ (.slice Ao33 t310.length co33 : Value).ownBlock ∧ some k_ ≠ (.slice Ao41 t295.length co41 : Value).ownBlock) (Kd.R_keptB ((Kd.R_apart' HO_285001.out (Kd.R_typed HO_300000.out) (by decide))) hkp (fun k_ hk_ hs_ => Or.elim hs_ (fun e_ => (hk_.2) e_) (fun e_ => (hk_.1.2) e_))) (fun k_ hk_ => ⟨hk_.1.1.1, hk_.1.1.2⟩)); replace HO_292000 := am (Kd.R_mono (ok' := fun k_ => some k_ ≠ (.slice Ao22 t277.length co22 : Value).ownBlock ∧ some k_ ≠ (.slice Ao36 t292.length co36 : Value).ownBlock) (Kd.R_keptB ((Kd.R_apart' HO_292000.out (Kd.R_typed HO_300001.out) (by decide))) hkp (fun k_ hk_ hs_ => Or.elim hs_ (fun e_ => (hk_.1.2) e_) (fun e_ => (hk_.2) e_))) (fun k_ hk_ => ⟨hk_.1.1.1, hk_.1.1.2⟩)); replace HO_292001 := am (Kd.R_mono (ok' := fun k_ => some k_ ≠ (.slice Ao25 t280.length co25 : Value).ownBlock ∧ some k_ ≠ (.slice Ao41 t295.length co41 : Value).ownBlock) (Kd.R_keptB ((Kd.R_apart' HO_292001.out (Kd.R_typed HO_300000.out) (by decide))) hkp (fun k_ hk_ hs_ => Or.elim hs_ (fun e_ => (hk_.2) e_) (fun e_ => (hk_.1.2) e_))) (fun k_ hk_ => ⟨hk_.1.1.1, hk_.1.1.2⟩)); replace BK269 := am (blk_kept (zq BK269) hkp (fun hs_ => Or.elim hs_ (fun e_ => (fun e_ => (Kd.R_ne HO_300000.out BK269.out (by decide)) e_) e_) (fun e_ => (fun e_ => (Kd.R_ne HO_300001.out BK269.out (by decide)) e_) e_))); replace BK284 := am (blk_kept (zq BK284) hkp (fun hs_ => Or.elim hs_ (fun e_ => (fun e_ => (Kd.R_ne HO_300000.out BK284.out (by decide)) e_) e_) (fun e_ => (fun e_ => (Kd.R_ne HO_300001.out BK284.out (by decide)) e_) e_))); replace BK291 := am (blk_kept (zq BK291) hkp (fun hs_ => Or.elim hs_ (fun e_ => (fun e_ => (Kd.R_ne HO_300000.out BK291.out (by decide)) e_) e_) (fun e_ => (fun e_ => (Kd.R_ne HO_300001.out BK291.out (by decide)) e_) e_))); replace BK299 := am (blk_kept (zq BK299) hkp (fun hs_ => Or.elim hs_ (fun e_ => (fun e_ => (Kd.R_ne HO_300000.out BK299.out (by decide)) e_) e_) (fun e_ => (fun e_ => (Kd.R_ne HO_300001.out BK299.out (by decide)) e_) e_))); replace HO_300000 := am (Kd.R_reok rfl hy0 (fun k_ e_ => HO_300000.out.1 k_ e_)); replace HO_300001 := am (Kd.R_reok rfl hy1 (fun k_ e_ => HO_300001.out.1 k_ e_)); replace HB := am (hb); (try clear hb hkp hy0 hy1); have ⟨hcz181_0, hcz181_1, hfz181_0, hfz181_1⟩ := bc2 BK299) | ((with_reducible refine gate_callee (f := 13) rfl ?_); refine goesL_ (some 71) rfl rfl Try.func13 (by kernel_rfl) rfl #[.agg #[.slice Ao36 t313.length co36, .slice Ao41 t314.length co41], .int .i64 1] rfl (by (try simp only [List.map_toArray, List.map_cons, List.map_nil]); first | done | (rw [show t313.length = t292.length from (Kd.R_reads' HO_300000.out).1.symm, show t314.length = t295.length from (Kd.R_reads' HO_300001.out).1.symm] <;> rfl) | rfl | (simp only [List.length_drop, List.length_take]; rfl)) ?_; (with_reducible refine (laws_heldShop.calls kj64 _ _ t313 _ _ t314 1 t315 _ ?s1 ?s2 ?s3 ?s4 A97.out).mono ?_); (case s1 => exact cr HO_300000); (case s2 => rw [show t313.length = t292.length from (Kd.R_reads' HO_300000.out).1.symm]; exact rq1 HO_300000); (case s3 => exact cr HO_300001); (case s4 => rw [show t314.length = t295.length from (Kd.R_reads' HO_300001.out).1.symm]; exact rq1 HO_300001); rintro e w182 ⟨rfl, hb⟩; refine ⟨_, rfl, ?_⟩; replace HO_285000 := rb HO_285000 hb; replace HO_285001 := rb HO_285001 hb; replace HO_292000 := rb HO_292000 hb; replace HO_292001 := rb HO_292001 hb; replace HO_300000 := rb HO_300000 hb; replace HO_300001 := rb HO_300001 hb; replace BK269 := zb BK269 hb; replace BK284 := zb BK284 hb; replace BK291 := zb BK291 hb; replace BK299 := zb BK299 hb; replace HB := sb hb; (try clear hb)))
           go_ret
           exact ⟨eq_, bq⟩
     ·replace c63 := Bool.eq_false_iff.mpr c63
      subst c63
      rw [if_neg (show ¬ (false = true) by decide)] at H
      try dsimp only at H
      obtain rfl := Option.some.inj H
      try go_wp2
      replace HO_285000 := am (Kd.R_drew HO_285000.out)
      replace HO_285001 := am (Kd.R_drew HO_285001.out)
      replace HO_292000 := am (Kd.R_drew HO_292000.out)
      replace HO_292001 := am (Kd.R_drew HO_292001.out)
      replace HO_300000 := am (Kd.R_drew HO_300000.out)
      replace HO_300001 := am (Kd.R_drew HO_300001.out)
      replace BK269 := am (blk_drew BK269.out)
      replace BK284 := am (blk_drew BK284.out)
      replace BK291 := am (blk_drew BK291.out)
      replace BK299 := am (blk_drew BK299.out)
      replace HB := am (below_drew1 HB.out)
      refine start_ (n := 5) (S := fun w' => w'.cell? ⟨gb291, 0, none⟩ = some (.slice Ao29 t285.length co29) ∧ w'.cell? ⟨gb291, 1, none⟩ = some (.slice Ao33 t288.length co33) ∧ w'.cell? ⟨gb269, 0, none⟩ = some (.slice A0_0 l0_0.length c0_0) ∧ w'.cell? ⟨gb269, 1, none⟩ = some (.slice A0_1 l0_1.length c0_1)) (ds := []) #[false, false, false, false, false] (by kernel_rfl) rfl rfl cl (fun hHeld => ?_)
      generalize wc.drew = w183 at HO_285000 HO_285001 HO_292000 HO_292001 HO_300000 HO_300001 BK269 BK284 BK291 BK299 HB hHeld ⊢
      refine take_ (i := 0) (N := some 45) (v := ?_) (a' := ?_) #[true, false, false, false, false] rfl rfl (by kernel_rfl) (fun _ _ _ h => h) (Or.inl ⟨by rfl, ?_⟩) hHeld ?_ ?_
      rotate_left
      ·rintro w' ⟨s0, s1, s2, s3⟩
       go_simp
       with_reducible rfl
      rotate_left
      ·simp only [Act.put, List.setIfInBounds_toArray, List.set_cons_zero, List.set_cons_succ, i64_w, i32_w]
       rfl
      refine take_ (i := 1) (N := some 46) (v := ?_) (a' := ?_) #[true, true, false, false, false] rfl rfl (by kernel_rfl) (fun _ _ _ h => h) (Or.inl ⟨by rfl, ?_⟩) hHeld ?_ ?_
      rotate_left
      ·rintro w' ⟨s0, s1, s2, s3⟩
       go_simp
       with_reducible rfl
      rotate_left
      ·simp only [Act.put, List.setIfInBounds_toArray, List.set_cons_zero, List.set_cons_succ, i64_w, i32_w]
       rfl
      refine one_ (i := 2) (N := some 47) #[true, true, true, false, false] rfl rfl (by kernel_rfl) (by decide) (fun K hK => ?_)
      refine goes_ Try.func9 (by kernel_rfl) rfl #[.agg #[.slice A0_0 l0_0.length c0_0, .slice A0_1 l0_1.length c0_1]] (by rfl) rfl rfl mq ?_
      with_reducible refine (laws_toShop.calls kj11 _ _ l0_0 _ _ l0_1 t301 t304 _ ?s1 ?s2 ?s3 ?s4 A61.out).mono ?_
      (case s1 => exact cq (Kd.C_below HR0_0.out HB.out))
      (case s2 => exact HC0_0.out)
      (case s3 => exact cq (Kd.C_below HR0_1.out HB.out))
      (case s4 => exact HC0_1.out)
      rintro e w184 ⟨v302, v305, rfl, ho0, ho1, hb⟩
      refine ⟨_, rfl, ?_⟩
      have HO303 := rl (Kd.R_new' (Kd.R_new' (Kd.R_new' ho0 (lw HO_285000)) (lw HO_292000)) (lw HO_300000))
      replace HO_292000 := am (Kd.R_elder' (rq HO_292000) (Kd.R_base ho0) hb)
      have HO306 := rl (Kd.R_new' (Kd.R_new' (Kd.R_new' ho1 (lw HO_285001)) (lw HO_292001)) (lw HO_300001))
      replace HO_292001 := am (Kd.R_elder' (rq HO_292001) (Kd.R_base ho1) hb)
      replace BK269 := zb BK269 hb
      replace BK284 := zb BK284 hb
      replace BK291 := zb BK291 hb
      replace BK299 := zb BK299 hb
      replace HB := sb hb
      (try clear hb ho0 ho1)
      obtain ⟨Ao185, co185, eo185⟩ := Kd.R_slice HO303.out
      (first | subst eo185 | (injection eo185 with f1_ f2_ f3_; have f4_ := f1_.symm; have f5_ := f3_.symm; clear f1_ f2_ f3_; subst f4_; subst f5_))
      obtain ⟨Ao186, co186, eo186⟩ := Kd.R_slice HO306.out
      (first | subst eo186 | (injection eo186 with f1_ f2_ f3_; have f4_ := f1_.symm; have f5_ := f3_.symm; clear f1_ f2_ f3_; subst f4_; subst f5_))
      refine hK.out _ _ cl (fun hHeld => ?_)
      clear hK K
      refine norm_ (a' := ?_) ?_ ?_
      rotate_left
      ·show Act.put _ (some 47) _ = _
       simp only [Act.put, List.setIfInBounds_toArray, List.set_cons_zero, List.set_cons_succ, i64_w, i32_w]
       rfl
      refine one_ (i := 3) (N := some 48) #[true, true, true, true, false] rfl rfl (by kernel_rfl) (by decide) (fun K hK => ?_)
      refine goes_ Try.func11 (by kernel_rfl) rfl #[.agg #[.slice Ao29 t285.length co29, .slice Ao33 t288.length co33], .agg #[.slice Ao185 t301.length co185, .slice Ao186 t304.length co186]] (by rfl) rfl rfl mq ?_
      with_reducible refine (laws_eqShop.calls kj11 _ _ t285 _ _ t288 _ _ t301 _ _ t304 false _ ?s1 ?s2 ?s3 ?s4 ?s5 ?s6 ?s7 ?s8 A62.out).mono ?_
      (case s1 => exact cr HO_292000)
      (case s2 => exact rq1 HO_292000)
      (case s3 => exact cr HO_292001)
      (case s4 => exact rq1 HO_292001)
      (case s5 => exact cr HO303)
      (case s6 => exact rq1 HO303)
      (case s7 => exact cr HO306)
      (case s8 => exact rq1 HO306)
      rintro e w187 ⟨rfl, hb⟩
      refine ⟨_, rfl, ?_⟩
      replace BK269 := zb BK269 hb
      replace BK284 := zb BK284 hb
      replace BK291 := zb BK291 hb
      replace BK299 := zb BK299 hb
      replace HB := sb hb
      (try clear hb)
      refine hK.out _ _ cl (fun hHeld => ?_)
      clear hK K
      refine norm_ (a' := ?_) ?_ ?_
      rotate_left
      ·show Act.put _ (some 48) _ = _
       simp only [Act.put, List.setIfInBounds_toArray, List.set_cons_zero, List.set_cons_succ, i64_w, i32_w]
       rfl
      refine pure_ (i := 4) (N := some 49) (v := ?_) (a' := ?_) #[true, true, true, true, true] rfl rfl (by kernel_rfl) (fun _ _ _ h => h) (Or.inl ⟨by rfl, ?_⟩) ?_ ?_
      rotate_left
      ·intro w'
       go_simp
       with_reducible rfl
      rotate_left
      ·simp only [Act.put, List.setIfInBounds_toArray, List.set_cons_zero, List.set_cons_succ, i64_w, i32_w]
       rfl
      refine done_ (by kernel_rfl) ?_
      try go_wp2
      go_ret
      exact ⟨eq_, bq⟩



end Go.Proofs.Ytokigipkoeeddaa.Pall
