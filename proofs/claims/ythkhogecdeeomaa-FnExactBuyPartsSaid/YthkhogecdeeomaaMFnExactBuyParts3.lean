-- written by the kit's print program, put together by a program
import Derived.Test.YthkhogecdeeomaaMFnExactBuyParts2
namespace Go.Proofs.Ythkhogecdeeomaa.Pall
open Go.RowKit Go.Proofs.YthkhogecdeeomaaW.PrintWords Go.Proofs.YthkhogecdeeomaaW.PrintLast Go.Proofs.YthkhogecdeeomaaW.PrintMore
attribute [local go_sem] max2_int min2_int max_two min_two max_three min_three max_four min_four   -- for this text's walks alone
set_option linter.unusedVariables false
set_option linter.unusedSimpArgs false
/-! ### laws_FnExactBuyParts: function 9 -/
mutual
def laws_FnExactBuyParts.j0 : Nat → Int → Int → Bool → Bool → Bool → List Int → List (S48) → List Int → List (S50) → List Int → List (S50) → List Int → List (S50) → Option (Bool)
  | 0, _, _, _, _, _, _, _, _, _, _, _, _, _ => none
  | k + 1, x1, x2, x9, x12, x48, x273000, x273001, x288000, x288001, x295000, x295001, x303000, x303001 => if x48 = true then (some false) else ((laws_toShop.f k x273000 x273001).bind fun bt304 => ((laws_eqShop.f k x295000 x295001 bt304.1 bt304.2).bind fun t310 => (if t310 = true then ((laws_markShop.f k x295000 x295001 1).bind fun bt311 => (if bt311.1 < 0 then (laws_FnExactBuyParts.j1 k x1 x2 x9 true x273000 x273001 x288000 x288001 x303000 x303001) else ((laws_eqShop.f k x303000 x303001 x288000 x288001).bind fun t314 => (if t314 = true then (laws_FnExactBuyParts.j1 k x1 x2 x9 (x12 != x9) x273000 x273001 x288000 x288001 x303000 x303001) else (laws_FnExactBuyParts.j1 k x1 x2 x9 true x273000 x273001 x288000 x288001 x303000 x303001))))) else (some false))))
def laws_FnExactBuyParts.j1 : Nat → Int → Int → Bool → Bool → List Int → List (S48) → List Int → List (S50) → List Int → List (S50) → Option (Bool)
  | 0, _, _, _, _, _, _, _, _, _, _ => none
  | k + 1, x1, x2, x9, x69, x273000, x273001, x288000, x288001, x303000, x303001 => if x69 = true then (some false) else ((laws_markShop.f k x303000 x303001 1).bind fun bt315 => ((laws_heldShop.f k bt315.2.1 bt315.2.2 1).bind fun t318 => (if t318 < 0 then (some false) else (if t318 = bt315.1 then ((laws_toShop.f k x273000 x273001).bind fun bt319 => ((impl_BuyParts.f k bt319.1 bt319.2 x1 x2).bind fun bt325 => ((laws_eqShop.f k bt325.1 bt325.2.1 x288000 x288001).bind fun t333 => (if t333 = true then (laws_FnExactBuyParts.j2 k bt315.1 (bt325.2.2 != x9) bt315.2.1 bt315.2.2) else (laws_FnExactBuyParts.j2 k bt315.1 true bt315.2.1 bt315.2.2))))) else (some false)))))
def laws_FnExactBuyParts.j2 : Nat → Int → Bool → List Int → List (S50) → Option (Bool)
  | 0, _, _, _, _ => none
  | k + 1, x14, x97, x303000, x303001 => if x97 = true then (some false) else ((laws_heldShop.f k x303000 x303001 1).bind fun t334 => (if t334 < 0 then (some false) else (if t334 = x14 then (some true) else (some false))))
end
def laws_FnExactBuyParts.f (k : Nat) (l0_0 : List Int) (l0_1 : List (S48)) (a1 : Int) (a2 : Int) : Option (Bool) := (laws_szShop.f l0_0 l0_1 1048576).bind fun t273 => (if t273 < 0 then (some true) else ((laws_toShop.f k l0_0 l0_1).bind fun bt274 => ((spec_BuyParts.f k bt274.1 bt274.2 a1 a2).bind fun bt280 => ((laws_toShop.f k l0_0 l0_1).bind fun bt288 => ((impl_BuyParts.f k bt288.1 bt288.2 a1 a2).bind fun bt295 => ((laws_eqShop.f k bt295.1 bt295.2.1 bt280.1 bt280.2.1).bind fun t303 => (if t303 = true then (laws_FnExactBuyParts.j0 k a1 a2 bt280.2.2 bt295.2.2 (bt295.2.2 != bt280.2.2) l0_0 l0_1 bt280.1 bt280.2.1 bt288.1 bt288.2 bt295.1 bt295.2.1) else (laws_FnExactBuyParts.j0 k a1 a2 bt280.2.2 bt295.2.2 true l0_0 l0_1 bt280.1 bt280.2.1 bt288.1 bt288.2 bt295.1 bt295.2.1))))))))
theorem laws_FnExactBuyParts.mono_l : ∀ k, (∀ y0 y1 y2 y3 y4 y5 y6 y7 y8 y9 y10 y11 y12, LeO (laws_FnExactBuyParts.j0 k y0 y1 y2 y3 y4 y5 y6 y7 y8 y9 y10 y11 y12) (laws_FnExactBuyParts.j0 (k + 1) y0 y1 y2 y3 y4 y5 y6 y7 y8 y9 y10 y11 y12)) ∧ (∀ y0 y1 y2 y3 y4 y5 y6 y7 y8 y9, LeO (laws_FnExactBuyParts.j1 k y0 y1 y2 y3 y4 y5 y6 y7 y8 y9) (laws_FnExactBuyParts.j1 (k + 1) y0 y1 y2 y3 y4 y5 y6 y7 y8 y9)) ∧ (∀ y0 y1 y2 y3, LeO (laws_FnExactBuyParts.j2 k y0 y1 y2 y3) (laws_FnExactBuyParts.j2 (k + 1) y0 y1 y2 y3))
  | 0 => ⟨fun _ _ _ _ _ _ _ _ _ _ _ _ _ r h => by simp [laws_FnExactBuyParts.j0] at h, fun _ _ _ _ _ _ _ _ _ _ r h => by simp [laws_FnExactBuyParts.j1] at h, fun _ _ _ _ r h => by simp [laws_FnExactBuyParts.j2] at h⟩
  | k + 1 => by
    obtain ⟨ih0, ih1, ih2⟩ := laws_FnExactBuyParts.mono_l k
    refine ⟨?_, ?_, ?_⟩
    · intro y0 y1 y2 y3 y4 y5 y6 y7 y8 y9 y10 y11 y12
      unfold laws_FnExactBuyParts.j0
      repeat' first
      | (with_reducible exact ih0 _ _ _ _ _ _ _ _ _ _ _ _ _)
      | (with_reducible exact ih1 _ _ _ _ _ _ _ _ _ _)
      | (with_reducible exact ih2 _ _ _ _)
      | (with_reducible exact impl_BuyParts.mono _ _ _ _ _)
      | (with_reducible exact laws_eqShop.mono _ _ _ _ _)
      | (with_reducible exact laws_heldShop.mono _ _ _ _)
      | (with_reducible exact laws_markShop.mono _ _ _ _)
      | (with_reducible exact laws_toShop.mono _ _ _)
      | (with_reducible exact spec_BuyParts.mono _ _ _ _ _)
      | (with_reducible exact LeO.refl _)
      | (with_reducible exact LeO.none _)
      | (with_reducible refine LeO.ite ?_ ?_)
      | (with_reducible refine LeO.bind ?_ (fun _ => ?_))
      | exact ih0 _ _ _ _ _ _ _ _ _ _ _ _ _
      | exact ih1 _ _ _ _ _ _ _ _ _ _
      | exact ih2 _ _ _ _
      | exact impl_BuyParts.mono _ _ _ _ _
      | exact laws_eqShop.mono _ _ _ _ _
      | exact laws_heldShop.mono _ _ _ _
      | exact laws_markShop.mono _ _ _ _
      | exact laws_toShop.mono _ _ _
      | exact spec_BuyParts.mono _ _ _ _ _
      | exact LeO.none _
      | refine LeO.ite ?_ ?_
      | refine LeO.bind ?_ (fun _ => ?_)
    · intro y0 y1 y2 y3 y4 y5 y6 y7 y8 y9
      unfold laws_FnExactBuyParts.j1
      repeat' first
      | (with_reducible exact ih0 _ _ _ _ _ _ _ _ _ _ _ _ _)
      | (with_reducible exact ih1 _ _ _ _ _ _ _ _ _ _)
      | (with_reducible exact ih2 _ _ _ _)
      | (with_reducible exact impl_BuyParts.mono _ _ _ _ _)
      | (with_reducible exact laws_eqShop.mono _ _ _ _ _)
      | (with_reducible exact laws_heldShop.mono _ _ _ _)
      | (with_reducible exact laws_markShop.mono _ _ _ _)
      | (with_reducible exact laws_toShop.mono _ _ _)
      | (with_reducible exact spec_BuyParts.mono _ _ _ _ _)
      | (with_reducible exact LeO.refl _)
      | (with_reducible exact LeO.none _)
      | (with_reducible refine LeO.ite ?_ ?_)
      | (with_reducible refine LeO.bind ?_ (fun _ => ?_))
      | exact ih0 _ _ _ _ _ _ _ _ _ _ _ _ _
      | exact ih1 _ _ _ _ _ _ _ _ _ _
      | exact ih2 _ _ _ _
      | exact impl_BuyParts.mono _ _ _ _ _
      | exact laws_eqShop.mono _ _ _ _ _
      | exact laws_heldShop.mono _ _ _ _
      | exact laws_markShop.mono _ _ _ _
      | exact laws_toShop.mono _ _ _
      | exact spec_BuyParts.mono _ _ _ _ _
      | exact LeO.none _
      | refine LeO.ite ?_ ?_
      | refine LeO.bind ?_ (fun _ => ?_)
    · intro y0 y1 y2 y3
      unfold laws_FnExactBuyParts.j2
      repeat' first
      | (with_reducible exact ih0 _ _ _ _ _ _ _ _ _ _ _ _ _)
      | (with_reducible exact ih1 _ _ _ _ _ _ _ _ _ _)
      | (with_reducible exact ih2 _ _ _ _)
      | (with_reducible exact impl_BuyParts.mono _ _ _ _ _)
      | (with_reducible exact laws_eqShop.mono _ _ _ _ _)
      | (with_reducible exact laws_heldShop.mono _ _ _ _)
      | (with_reducible exact laws_markShop.mono _ _ _ _)
      | (with_reducible exact laws_toShop.mono _ _ _)
      | (with_reducible exact spec_BuyParts.mono _ _ _ _ _)
      | (with_reducible exact LeO.refl _)
      | (with_reducible exact LeO.none _)
      | (with_reducible refine LeO.ite ?_ ?_)
      | (with_reducible refine LeO.bind ?_ (fun _ => ?_))
      | exact ih0 _ _ _ _ _ _ _ _ _ _ _ _ _
      | exact ih1 _ _ _ _ _ _ _ _ _ _
      | exact ih2 _ _ _ _
      | exact impl_BuyParts.mono _ _ _ _ _
      | exact laws_eqShop.mono _ _ _ _ _
      | exact laws_heldShop.mono _ _ _ _
      | exact laws_markShop.mono _ _ _ _
      | exact laws_toShop.mono _ _ _
      | exact spec_BuyParts.mono _ _ _ _ _
      | exact LeO.none _
      | refine LeO.ite ?_ ?_
      | refine LeO.bind ?_ (fun _ => ?_)
theorem laws_FnExactBuyParts.mono : ∀ a0 a1 a2 a3 k, LeO (laws_FnExactBuyParts.f k a0 a1 a2 a3) (laws_FnExactBuyParts.f (k + 1) a0 a1 a2 a3) := by
  intro a0 a1 a2 a3 k
  obtain ⟨ih0, ih1, ih2⟩ := laws_FnExactBuyParts.mono_l k
  unfold laws_FnExactBuyParts.f
  repeat' first
      | (with_reducible exact ih0 _ _ _ _ _ _ _ _ _ _ _ _ _)
      | (with_reducible exact ih1 _ _ _ _ _ _ _ _ _ _)
      | (with_reducible exact ih2 _ _ _ _)
      | (with_reducible exact impl_BuyParts.mono _ _ _ _ _)
      | (with_reducible exact laws_eqShop.mono _ _ _ _ _)
      | (with_reducible exact laws_heldShop.mono _ _ _ _)
      | (with_reducible exact laws_markShop.mono _ _ _ _)
      | (with_reducible exact laws_toShop.mono _ _ _)
      | (with_reducible exact spec_BuyParts.mono _ _ _ _ _)
      | (with_reducible exact LeO.refl _)
      | (with_reducible exact LeO.none _)
      | (with_reducible refine LeO.ite ?_ ?_)
      | (with_reducible refine LeO.bind ?_ (fun _ => ?_))
      | exact ih0 _ _ _ _ _ _ _ _ _ _ _ _ _
      | exact ih1 _ _ _ _ _ _ _ _ _ _
      | exact ih2 _ _ _ _
      | exact impl_BuyParts.mono _ _ _ _ _
      | exact laws_eqShop.mono _ _ _ _ _
      | exact laws_heldShop.mono _ _ _ _
      | exact laws_markShop.mono _ _ _ _
      | exact laws_toShop.mono _ _ _
      | exact spec_BuyParts.mono _ _ _ _ _
      | exact LeO.none _
      | refine LeO.ite ?_ ?_
      | refine LeO.bind ?_ (fun _ => ?_)
set_option maxHeartbeats 8000000 in
set_option maxRecDepth 100000 in
theorem laws_FnExactBuyParts.calls (k : Nat) (A0_0 : Option Addr) (c0_0 : Nat) (l0_0 : List Int) (A0_1 : Option Addr) (c0_1 : Nat) (l0_1 : List (S48)) (a1 : Int) (a2 : Int) (r : Bool) (w : World) (hr0_0 : Kd.C (Kd.int .i64) w A0_0 l0_0.length l0_0) (hc0_0 : l0_0.length ≤ c0_0) (hr0_1 : Kd.C k48 w A0_1 l0_1.length l0_1) (hc0_1 : l0_1.length ≤ c0_1) (h : laws_FnExactBuyParts.f k l0_0 l0_1 a1 a2 = some r) :
    Calls Try.prog 9 #[.agg #[.slice A0_0 l0_0.length c0_0, .slice A0_1 l0_1.length c0_1], .int .i64 a1, .int .i64 a2] w fun e w' => e = .returned (.bool r) ∧ Below w.heap.size w w' := by
  have hu25 := Try.underlying25
  have hu31 := Try.underlying31
  have HR0_0 := Aside0.mk hr0_0
  have HC0_0 := Aside0.mk hc0_0
  clear hr0_0 hc0_0
  have HR0_1 := Aside0.mk hr0_1
  have HC0_1 := Aside0.mk hc0_1
  clear hr0_1 hc0_1
  have HB := Aside0.mk (Below.refl w.heap.size w)
  have H : ((laws_szShop.f l0_0 l0_1 1048576).bind fun t273 => (if t273 < 0 then (some true) else ((laws_toShop.f k l0_0 l0_1).bind fun bt274 => ((spec_BuyParts.f k bt274.1 bt274.2 a1 a2).bind fun bt280 => ((laws_toShop.f k l0_0 l0_1).bind fun bt288 => ((impl_BuyParts.f k bt288.1 bt288.2 a1 a2).bind fun bt295 => ((laws_eqShop.f k bt295.1 bt295.2.1 bt280.1 bt280.2.1).bind fun t303 => (if t303 = true then (laws_FnExactBuyParts.j0 k a1 a2 bt280.2.2 bt295.2.2 (bt295.2.2 != bt280.2.2) l0_0 l0_1 bt280.1 bt280.2.1 bt288.1 bt288.2 bt295.1 bt295.2.1) else (laws_FnExactBuyParts.j0 k a1 a2 bt280.2.2 bt295.2.2 true l0_0 l0_1 bt280.1 bt280.2.1 bt288.1 bt288.2 bt295.1 bt295.2.1))))))))) = some r := h
  clear h
  replace H := Option.bind_eq_some_iff.mp H
  obtain ⟨t273, A40, H⟩ := H
  replace H : (if t273 < 0 then (some true) else ((laws_toShop.f k l0_0 l0_1).bind fun bt274 => ((spec_BuyParts.f k bt274.1 bt274.2 a1 a2).bind fun bt280 => ((laws_toShop.f k l0_0 l0_1).bind fun bt288 => ((impl_BuyParts.f k bt288.1 bt288.2 a1 a2).bind fun bt295 => ((laws_eqShop.f k bt295.1 bt295.2.1 bt280.1 bt280.2.1).bind fun t303 => (if t303 = true then (laws_FnExactBuyParts.j0 k a1 a2 bt280.2.2 bt295.2.2 (bt295.2.2 != bt280.2.2) l0_0 l0_1 bt280.1 bt280.2.1 bt288.1 bt288.2 bt295.1 bt295.2.1) else (laws_FnExactBuyParts.j0 k a1 a2 bt280.2.2 bt295.2.2 true l0_0 l0_1 bt280.1 bt280.2.1 bt288.1 bt288.2 bt295.1 bt295.2.1)))))))) = some r := H
  have A4 := Aside0.mk A40
  clear A40
  by_cases c5 : t273 < 0
  · rw [if_pos c5] at H
    have c5b0 : decide (t273 < 0) = true := decide_eq_true c5
    clear c5
    obtain rfl := Option.some.inj H
    go_enter Try.func9, Try.ntmps9
    go_wp2_with (first | ((with_reducible refine gate_dst (N := 3) rfl ?_); refine box_event ?hg (N := 3) ?hd (cs := #[.slice A0_0 l0_0.length c0_0, .slice A0_1 l0_1.length c0_1]) (t := 25) ?hr ?_; (case hd => rfl); (case hg => rfl); (case hr => first | (go_simp; done) | (go_simp; rfl)); intro gb272 hg w6 hbox hb; have n0_ := Aside0.mk (below_step (by repeat (first | (with_reducible first | exact HB.out | apply below_alloc | apply pw_below_drewN | apply below_drew1) | exact HB.out)) hb); have n1_ := Aside0.mk (hbox); have n2_ := Aside0.mk ((by rw [hg]; exact (below_size (by repeat (first | (with_reducible first | exact HB.out | apply below_alloc | apply pw_below_drewN | apply below_drew1) | exact HB.out))) : w.heap.size ≤ gb272)); have n3_ := Aside0.mk ((by rw [hg]; exact (below_size (by repeat (first | (with_reducible first | exact HB.out | apply below_alloc | apply pw_below_drewN | apply below_drew1) | exact HB.out))) : w.heap.size ≤ gb272)); clear HB; have HB := n0_; have BK272 := n1_; have GW272 := n2_; have GE272 := n3_; clear n0_ n1_ n2_ n3_; clear hb hbox hg; have hcz7_0 : w6.cell? ⟨gb272, 0, none⟩ = some (.slice A0_0 l0_0.length c0_0) := (blk_cell BK272.out 0).trans rfl; have hcz7_1 : w6.cell? ⟨gb272, 1, none⟩ = some (.slice A0_1 l0_1.length c0_1) := (blk_cell BK272.out 1).trans rfl; have hfz7_0 := blk_frozen BK272.out 0; have hfz7_1 := blk_frozen BK272.out 1) | ((with_reducible refine gate_callee (f := 13) rfl ?_); refine goesL_ (some 20) rfl rfl Try.func13 (by kernel_rfl) rfl #[.agg #[.slice A0_0 l0_0.length c0_0, .slice A0_1 l0_1.length c0_1], .int .i64 1048576] rfl (by (try simp only [List.map_toArray, List.map_cons, List.map_nil]); first | done | rfl | (simp only [List.length_drop, List.length_take]; rfl)) ?_; (with_reducible refine (laws_szShop.calls _ _ l0_0 _ _ l0_1 1048576 t273 _ ?side1 ?side2 ?side3 ?side4 A4.out).mono ?_); (case side1 => repeat (first | exact (Kd.C_below HR0_0.out HB.out) | (with_reducible refine Kd.C_alloc ?_ _) | (with_reducible refine Kd.C_drewN ?_ _) | (with_reducible refine Kd.C_drew ?_))); (case side2 => exact HC0_0.out); (case side3 => repeat (first | exact (Kd.C_below HR0_1.out HB.out) | (with_reducible refine Kd.C_alloc ?_ _) | (with_reducible refine Kd.C_drewN ?_ _) | (with_reducible refine Kd.C_drew ?_))); (case side4 => exact HC0_1.out); rintro e w8 ⟨rfl, hb⟩; refine ⟨_, rfl, ?_⟩; have n0_ := Aside0.mk (blk_below (g := gb272) (o := .cells #[.slice A0_0 l0_0.length c0_0, .slice A0_1 l0_1.length c0_1] 25 (0, 0)) (by (with_reducible repeat (first | refine blk_drewN ?_ _ | refine blk_drew ?_ | refine blk_alloc ?_ _)); exact BK272.out) hb); have n1_ := Aside0.mk (below_step (by repeat (first | (with_reducible first | exact HB.out | apply below_alloc | apply pw_below_drewN | apply below_drew1 | refine below_set ?_ GE272.out) | exact HB.out)) hb); clear BK272; clear HB; have BK272 := n0_; have HB := n1_; clear n0_ n1_; (try clear hb); (try clear hb2); (try clear hk); (try clear hi)))
    go_ret
    exact ⟨by first | rfl | (simp [errW_none, errW_some] <;> rfl) | (simp [*, errW_none, errW_some] <;> rfl), by repeat (first | (with_reducible first | exact HB.out | apply below_alloc | apply pw_below_drewN | apply below_drew1 | refine below_set ?_ GE272.out) | exact HB.out)⟩
  · rw [if_neg c5] at H
    have c5b0 : decide (t273 < 0) = false := decide_eq_false c5
    clear c5
    replace H := Option.bind_eq_some_iff.mp H
    obtain ⟨⟨t274, t277⟩, A90, H⟩ := H
    replace H : ((spec_BuyParts.f k t274 t277 a1 a2).bind fun bt280 => ((laws_toShop.f k l0_0 l0_1).bind fun bt288 => ((impl_BuyParts.f k bt288.1 bt288.2 a1 a2).bind fun bt295 => ((laws_eqShop.f k bt295.1 bt295.2.1 bt280.1 bt280.2.1).bind fun t303 => (if t303 = true then (laws_FnExactBuyParts.j0 k a1 a2 bt280.2.2 bt295.2.2 (bt295.2.2 != bt280.2.2) l0_0 l0_1 bt280.1 bt280.2.1 bt288.1 bt288.2 bt295.1 bt295.2.1) else (laws_FnExactBuyParts.j0 k a1 a2 bt280.2.2 bt295.2.2 true l0_0 l0_1 bt280.1 bt280.2.1 bt288.1 bt288.2 bt295.1 bt295.2.1)))))) = some r := H
    have A9 := Aside0.mk A90
    clear A90
    replace H := Option.bind_eq_some_iff.mp H
    obtain ⟨⟨t280, t283, t286⟩, A100, H⟩ := H
    replace H : ((laws_toShop.f k l0_0 l0_1).bind fun bt288 => ((impl_BuyParts.f k bt288.1 bt288.2 a1 a2).bind fun bt295 => ((laws_eqShop.f k bt295.1 bt295.2.1 t280 t283).bind fun t303 => (if t303 = true then (laws_FnExactBuyParts.j0 k a1 a2 t286 bt295.2.2 (bt295.2.2 != t286) l0_0 l0_1 t280 t283 bt288.1 bt288.2 bt295.1 bt295.2.1) else (laws_FnExactBuyParts.j0 k a1 a2 t286 bt295.2.2 true l0_0 l0_1 t280 t283 bt288.1 bt288.2 bt295.1 bt295.2.1))))) = some r := H
    have A10 := Aside0.mk A100
    clear A100
    replace H := Option.bind_eq_some_iff.mp H
    obtain ⟨⟨t288, t291⟩, A110, H⟩ := H
    replace H : ((impl_BuyParts.f k t288 t291 a1 a2).bind fun bt295 => ((laws_eqShop.f k bt295.1 bt295.2.1 t280 t283).bind fun t303 => (if t303 = true then (laws_FnExactBuyParts.j0 k a1 a2 t286 bt295.2.2 (bt295.2.2 != t286) l0_0 l0_1 t280 t283 t288 t291 bt295.1 bt295.2.1) else (laws_FnExactBuyParts.j0 k a1 a2 t286 bt295.2.2 true l0_0 l0_1 t280 t283 t288 t291 bt295.1 bt295.2.1)))) = some r := H
    have A11 := Aside0.mk A110
    clear A110
    replace H := Option.bind_eq_some_iff.mp H
    obtain ⟨⟨t295, t298, t301⟩, A120, H⟩ := H
    replace H : ((laws_eqShop.f k t295 t298 t280 t283).bind fun t303 => (if t303 = true then (laws_FnExactBuyParts.j0 k a1 a2 t286 t301 (t301 != t286) l0_0 l0_1 t280 t283 t288 t291 t295 t298) else (laws_FnExactBuyParts.j0 k a1 a2 t286 t301 true l0_0 l0_1 t280 t283 t288 t291 t295 t298))) = some r := H
    have A12 := Aside0.mk A120
    clear A120
    have HC13 := Aside0.mk H
    clear H
    go_enter Try.func9, Try.ntmps9
    go_upto_region 8 with (first | ((with_reducible refine gate_dst (N := 3) rfl ?_); refine box_event ?hg (N := 3) ?hd (cs := #[.slice A0_0 l0_0.length c0_0, .slice A0_1 l0_1.length c0_1]) (t := 25) ?hr ?_; (case hd => rfl); (case hg => rfl); (case hr => first | (go_simp; done) | (go_simp; rfl)); intro gb272 hg w14 hbox hb; have n0_ := Aside0.mk (below_step (by repeat (first | (with_reducible first | exact HB.out | apply below_alloc | apply pw_below_drewN | apply below_drew1) | exact HB.out)) hb); have n1_ := Aside0.mk (hbox); have n2_ := Aside0.mk ((by rw [hg]; exact (below_size (by repeat (first | (with_reducible first | exact HB.out | apply below_alloc | apply pw_below_drewN | apply below_drew1) | exact HB.out))) : w.heap.size ≤ gb272)); have n3_ := Aside0.mk ((by rw [hg]; exact (below_size (by repeat (first | (with_reducible first | exact HB.out | apply below_alloc | apply pw_below_drewN | apply below_drew1) | exact HB.out))) : w.heap.size ≤ gb272)); clear HB; have HB := n0_; have BK272 := n1_; have GW272 := n2_; have GE272 := n3_; clear n0_ n1_ n2_ n3_; clear hb hbox hg; have hcz15_0 : w14.cell? ⟨gb272, 0, none⟩ = some (.slice A0_0 l0_0.length c0_0) := (blk_cell BK272.out 0).trans rfl; have hcz15_1 : w14.cell? ⟨gb272, 1, none⟩ = some (.slice A0_1 l0_1.length c0_1) := (blk_cell BK272.out 1).trans rfl; have hfz15_0 := blk_frozen BK272.out 0; have hfz15_1 := blk_frozen BK272.out 1) | ((with_reducible refine gate_callee (f := 13) rfl ?_); refine goesL_ (some 20) rfl rfl Try.func13 (by kernel_rfl) rfl #[.agg #[.slice A0_0 l0_0.length c0_0, .slice A0_1 l0_1.length c0_1], .int .i64 1048576] rfl (by (try simp only [List.map_toArray, List.map_cons, List.map_nil]); first | done | rfl | (simp only [List.length_drop, List.length_take]; rfl)) ?_; (with_reducible refine (laws_szShop.calls _ _ l0_0 _ _ l0_1 1048576 t273 _ ?side1 ?side2 ?side3 ?side4 A4.out).mono ?_); (case side1 => repeat (first | exact (Kd.C_below HR0_0.out HB.out) | (with_reducible refine Kd.C_alloc ?_ _) | (with_reducible refine Kd.C_drewN ?_ _) | (with_reducible refine Kd.C_drew ?_))); (case side2 => exact HC0_0.out); (case side3 => repeat (first | exact (Kd.C_below HR0_1.out HB.out) | (with_reducible refine Kd.C_alloc ?_ _) | (with_reducible refine Kd.C_drewN ?_ _) | (with_reducible refine Kd.C_drew ?_))); (case side4 => exact HC0_1.out); rintro e w16 ⟨rfl, hb⟩; refine ⟨_, rfl, ?_⟩; have n0_ := Aside0.mk (blk_below (g := gb272) (o := .cells #[.slice A0_0 l0_0.length c0_0, .slice A0_1 l0_1.length c0_1] 25 (0, 0)) (by (with_reducible repeat (first | refine blk_drewN ?_ _ | refine blk_drew ?_ | refine blk_alloc ?_ _)); exact BK272.out) hb); have n1_ := Aside0.mk (below_step (by repeat (first | (with_reducible first | exact HB.out | apply below_alloc | apply pw_below_drewN | apply below_drew1 | refine below_set ?_ GE272.out) | exact HB.out)) hb); clear BK272; clear HB; have BK272 := n0_; have HB := n1_; clear n0_ n1_; (try clear hb); (try clear hb2); (try clear hk); (try clear hi); have hcz17_0 : w16.cell? ⟨gb272, 0, none⟩ = some (.slice A0_0 l0_0.length c0_0) := (blk_cell BK272.out 0).trans rfl; have hcz17_1 : w16.cell? ⟨gb272, 1, none⟩ = some (.slice A0_1 l0_1.length c0_1) := (blk_cell BK272.out 1).trans rfl; have hfz17_0 := blk_frozen BK272.out 0; have hfz17_1 := blk_frozen BK272.out 1) | ((with_reducible refine gate_callee (f := 15) rfl ?_); refine goesL_ (some 25) rfl rfl Try.func15 (by kernel_rfl) rfl #[.agg #[.slice A0_0 l0_0.length c0_0, .slice A0_1 l0_1.length c0_1]] rfl (by (try simp only [List.map_toArray, List.map_cons, List.map_nil]); first | done | rfl | (simp only [List.length_drop, List.length_take]; rfl)) ?_; (with_reducible refine (laws_toShop.calls k _ _ l0_0 _ _ l0_1 t274 t277 _ ?side1 ?side2 ?side3 ?side4 A9.out).mono ?_); (case side1 => repeat (first | exact (Kd.C_below HR0_0.out HB.out) | (with_reducible refine Kd.C_alloc ?_ _) | (with_reducible refine Kd.C_drewN ?_ _) | (with_reducible refine Kd.C_drew ?_))); (case side2 => exact HC0_0.out); (case side3 => repeat (first | exact (Kd.C_below HR0_1.out HB.out) | (with_reducible refine Kd.C_alloc ?_ _) | (with_reducible refine Kd.C_drewN ?_ _) | (with_reducible refine Kd.C_drew ?_))); (case side4 => exact HC0_1.out); rintro e w18 ⟨v275, v278, rfl, ho0, ho1, hb⟩; refine ⟨_, rfl, ?_⟩; have n0_ := Aside0.mk (Kd.R_lower ho0 (below_size (by repeat (first | (with_reducible first | exact HB.out | apply below_alloc | apply pw_below_drewN | apply below_drew1 | refine below_set ?_ GE272.out) | exact HB.out)))); have n1_ := Aside0.mk (Kd.R_lower ho1 (below_size (by repeat (first | (with_reducible first | exact HB.out | apply below_alloc | apply pw_below_drewN | apply below_drew1 | refine below_set ?_ GE272.out) | exact HB.out)))); have n2_ := Aside0.mk (blk_below (g := gb272) (o := .cells #[.slice A0_0 l0_0.length c0_0, .slice A0_1 l0_1.length c0_1] 25 (0, 0)) (by (with_reducible repeat (first | refine blk_drewN ?_ _ | refine blk_drew ?_ | refine blk_alloc ?_ _)); exact BK272.out) hb); have n3_ := Aside0.mk (below_step (by repeat (first | (with_reducible first | exact HB.out | apply below_alloc | apply pw_below_drewN | apply below_drew1 | refine below_set ?_ GE272.out) | exact HB.out)) hb); clear BK272; clear HB; have HO276 := n0_; have HO279 := n1_; have BK272 := n2_; have HB := n3_; clear n0_ n1_ n2_ n3_; (try clear hb); (try clear hb2); (try clear hk); (try clear hi); (try clear ho0); (try clear ho1); obtain ⟨Ao19, co19, eo19⟩ := Kd.R_slice HO276.out; subst eo19; obtain ⟨Ao20, co20, eo20⟩ := Kd.R_slice HO279.out; subst eo20) | ((with_reducible refine gate_callee (f := 33) rfl ?_); refine goesL_ (some 28) rfl rfl Try.func33 (by kernel_rfl) rfl #[.agg #[.slice Ao19 t274.length co19, .slice Ao20 t277.length co20], .int .i64 a1, .int .i64 a2] rfl (by (try simp only [List.map_toArray, List.map_cons, List.map_nil]); first | done | rfl | (simp only [List.length_drop, List.length_take]; rfl)) ?_; (with_reducible refine (spec_BuyParts.calls k _ _ t274 _ _ t277 a1 a2 t280 t283 t286 _ ?side1 ?side2 ?side3 ?side4 A10.out).mono ?_); (case side1 => repeat (first | exact (Kd.R_reads' HO276.out).2.2 | (with_reducible refine Kd.C_alloc ?_ _) | (with_reducible refine Kd.C_drewN ?_ _) | (with_reducible refine Kd.C_drew ?_))); (case side2 => exact (Kd.R_reads' HO276.out).2.1); (case side3 => repeat (first | exact (Kd.R_reads' HO279.out).2.2 | (with_reducible refine Kd.C_alloc ?_ _) | (with_reducible refine Kd.C_drewN ?_ _) | (with_reducible refine Kd.C_drew ?_))); (case side4 => exact (Kd.R_reads' HO279.out).2.1); rintro e w21 ⟨v281, v284, rfl, ho0, ho1, hb⟩; refine ⟨_, rfl, ?_⟩; have n0_ := Aside0.mk (Kd.R_elder' (by (with_reducible repeat (first | apply Kd.R_alloc | apply Kd.R_drewN | apply Kd.R_drew)); exact HO276.out) (Kd.R_base ho0) hb); have n1_ := Aside0.mk (Kd.R_elder' (by (with_reducible repeat (first | apply Kd.R_alloc | apply Kd.R_drewN | apply Kd.R_drew)); exact HO279.out) (Kd.R_base ho1) hb); have n2_ := Aside0.mk (Kd.R_lower (Kd.R_new' ho0 (Kd.R_lt (by (with_reducible repeat (first | apply Kd.R_alloc | apply Kd.R_drewN | apply Kd.R_drew)); exact HO276.out))) (below_size (by repeat (first | (with_reducible first | exact HB.out | apply below_alloc | apply pw_below_drewN | apply below_drew1 | refine below_set ?_ GE272.out) | exact HB.out)))); have n3_ := Aside0.mk (Kd.R_lower (Kd.R_new' ho1 (Kd.R_lt (by (with_reducible repeat (first | apply Kd.R_alloc | apply Kd.R_drewN | apply Kd.R_drew)); exact HO279.out))) (below_size (by repeat (first | (with_reducible first | exact HB.out | apply below_alloc | apply pw_below_drewN | apply below_drew1 | refine below_set ?_ GE272.out) | exact HB.out)))); have n4_ := Aside0.mk (blk_below (g := gb272) (o := .cells #[.slice A0_0 l0_0.length c0_0, .slice A0_1 l0_1.length c0_1] 25 (0, 0)) (by (with_reducible repeat (first | refine blk_drewN ?_ _ | refine blk_drew ?_ | refine blk_alloc ?_ _)); exact BK272.out) hb); have n5_ := Aside0.mk (below_step (by repeat (first | (with_reducible first | exact HB.out | apply below_alloc | apply pw_below_drewN | apply below_drew1 | refine below_set ?_ GE272.out) | exact HB.out)) hb); clear HO276; clear HO279; clear BK272; clear HB; have HO276 := n0_; have HO279 := n1_; have HO282 := n2_; have HO285 := n3_; have BK272 := n4_; have HB := n5_; clear n0_ n1_ n2_ n3_ n4_ n5_; (try clear hb); (try clear hb2); (try clear hk); (try clear hi); (try clear ho0); (try clear ho1)) | ((with_reducible refine gate_dst (N := 8) rfl ?_); refine box_event ?hg (N := 8) ?hd (cs := #[.slice none 0 0, .slice none 0 0]) (t := 31) ?hr ?_; (case hd => rfl); (case hg => rfl); (case hr => first | (go_simp; done) | (go_simp; rfl)); intro gb287 hg w22 hbox hb; have n0_ := Aside0.mk (Kd.R_below (by (with_reducible repeat (first | apply Kd.R_alloc | apply Kd.R_drewN | apply Kd.R_drew)); exact HO276.out) hb); have n1_ := Aside0.mk (Kd.R_below (by (with_reducible repeat (first | apply Kd.R_alloc | apply Kd.R_drewN | apply Kd.R_drew)); exact HO279.out) hb); have n2_ := Aside0.mk (Kd.R_below (by (with_reducible repeat (first | apply Kd.R_alloc | apply Kd.R_drewN | apply Kd.R_drew)); exact HO282.out) hb); have n3_ := Aside0.mk (Kd.R_below (by (with_reducible repeat (first | apply Kd.R_alloc | apply Kd.R_drewN | apply Kd.R_drew)); exact HO285.out) hb); have n4_ := Aside0.mk (blk_below (g := gb272) (o := .cells #[.slice A0_0 l0_0.length c0_0, .slice A0_1 l0_1.length c0_1] 25 (0, 0)) (by (with_reducible repeat (first | refine blk_drewN ?_ _ | refine blk_drew ?_ | refine blk_alloc ?_ _)); exact BK272.out) hb); have n5_ := Aside0.mk (below_step (by repeat (first | (with_reducible first | exact HB.out | apply below_alloc | apply pw_below_drewN | apply below_drew1 | refine below_set ?_ GE272.out) | exact HB.out)) hb); have n6_ := Aside0.mk (hbox); have n7_ := Aside0.mk ((by rw [hg]; exact (below_size (by repeat (first | (with_reducible first | exact HB.out | apply below_alloc | apply pw_below_drewN | apply below_drew1 | refine below_set ?_ GE272.out) | exact HB.out))) : w.heap.size ≤ gb287)); have n8_ := Aside0.mk ((by rw [hg]; exact (below_size (by repeat (first | (with_reducible first | exact HB.out | apply below_alloc | apply pw_below_drewN | apply below_drew1 | refine below_set ?_ GE272.out) | exact HB.out))) : w.heap.size ≤ gb287)); have n9_ := Aside0.mk ((by rw [hg]; exact Nat.ne_of_lt (blk_lt (g := gb272) (o := .cells #[.slice A0_0 l0_0.length c0_0, .slice A0_1 l0_1.length c0_1] 25 (0, 0)) (by (with_reducible repeat (first | refine blk_drewN ?_ _ | refine blk_drew ?_ | refine blk_alloc ?_ _)); exact BK272.out)) : gb272 ≠ gb287)); have n10_ := Aside0.mk ((by rw [hg]; exact Nat.ne_of_gt (blk_lt (g := gb272) (o := .cells #[.slice A0_0 l0_0.length c0_0, .slice A0_1 l0_1.length c0_1] 25 (0, 0)) (by (with_reducible repeat (first | refine blk_drewN ?_ _ | refine blk_drew ?_ | refine blk_alloc ?_ _)); exact BK272.out)) : gb287 ≠ gb272)); clear HO276; clear HO279; clear HO282; clear HO285; clear BK272; clear HB; have HO276 := n0_; have HO279 := n1_; have HO282 := n2_; have HO285 := n3_; have BK272 := n4_; have HB := n5_; have BK287 := n6_; have GW287 := n7_; have GE287 := n8_; have NB272_287 := n9_; have NB287_272 := n10_; clear n0_ n1_ n2_ n3_ n4_ n5_ n6_ n7_ n8_ n9_ n10_; clear hb hbox hg; obtain ⟨Ao23, co23, eo23⟩ := Kd.R_slice HO282.out; subst eo23; have hnb24 := NB287_272.out; have hnc24 := NB272_287.out; have hcz25_0 : w22.cell? ⟨gb287, 0, none⟩ = some (.slice none 0 0) := (blk_cell BK287.out 0).trans rfl; have hcz25_1 : w22.cell? ⟨gb287, 1, none⟩ = some (.slice none 0 0) := (blk_cell BK287.out 1).trans rfl; have hfz25_0 := blk_frozen BK287.out 0; have hfz25_1 := blk_frozen BK287.out 1; obtain ⟨Ao26, co26, eo26⟩ := Kd.R_slice HO285.out; subst eo26; have hcz27_0 : w22.cell? ⟨gb272, 0, none⟩ = some (.slice A0_0 l0_0.length c0_0) := (blk_cell BK272.out 0).trans rfl; have hcz27_1 : w22.cell? ⟨gb272, 1, none⟩ = some (.slice A0_1 l0_1.length c0_1) := (blk_cell BK272.out 1).trans rfl; have hfz27_0 := blk_frozen BK272.out 0; have hfz27_1 := blk_frozen BK272.out 1) | ((with_reducible refine gate_callee (f := 15) rfl ?_); refine goesL_ (some 32) rfl rfl Try.func15 (by kernel_rfl) rfl #[.agg #[.slice A0_0 l0_0.length c0_0, .slice A0_1 l0_1.length c0_1]] rfl (by (try simp only [List.map_toArray, List.map_cons, List.map_nil]); first | done | rfl | (simp only [List.length_drop, List.length_take]; rfl)) ?_; (with_reducible refine (laws_toShop.calls k _ _ l0_0 _ _ l0_1 t288 t291 _ ?side1 ?side2 ?side3 ?side4 A11.out).mono ?_); (case side1 => exact Kd.C_below HR0_0.out (by repeat (first | (with_reducible first | exact HB.out | apply below_alloc | apply pw_below_drewN | apply below_drew1 | refine below_set ?_ GE272.out | refine below_set ?_ GE287.out) | exact HB.out))); (case side2 => exact HC0_0.out); (case side3 => exact Kd.C_below HR0_1.out (by repeat (first | (with_reducible first | exact HB.out | apply below_alloc | apply pw_below_drewN | apply below_drew1 | refine below_set ?_ GE272.out | refine below_set ?_ GE287.out) | exact HB.out))); (case side4 => exact HC0_1.out); rintro e w28 ⟨v289, v292, rfl, ho0, ho1, hb⟩; refine ⟨_, rfl, ?_⟩; have n0_ := Aside0.mk (Kd.R_elder' (by (with_reducible repeat (first | apply Kd.R_alloc | apply Kd.R_drewN | apply Kd.R_drew)); exact (Kd.R_mono (Kd.R_far (p := ⟨gb287, 1, none⟩) (Kd.R_far (p := ⟨gb287, 0, none⟩) (Kd.R_types HO276.out BK287.out (by decide)) (fun _ hk => hk.2) (.slice Ao23 t280.length co23)) (fun _ hk => hk.2) (.slice Ao26 t283.length co26)) (fun _ h_ => h_.1))) (Kd.R_base ho0) hb); have n1_ := Aside0.mk (Kd.R_elder' (by (with_reducible repeat (first | apply Kd.R_alloc | apply Kd.R_drewN | apply Kd.R_drew)); exact (Kd.R_mono (Kd.R_far (p := ⟨gb287, 1, none⟩) (Kd.R_far (p := ⟨gb287, 0, none⟩) (Kd.R_types HO279.out BK287.out (by decide)) (fun _ hk => hk.2) (.slice Ao23 t280.length co23)) (fun _ hk => hk.2) (.slice Ao26 t283.length co26)) (fun _ h_ => h_.1))) (Kd.R_base ho1) hb); have n2_ := Aside0.mk (Kd.R_elder' (by (with_reducible repeat (first | apply Kd.R_alloc | apply Kd.R_drewN | apply Kd.R_drew)); exact (Kd.R_mono (Kd.R_far (p := ⟨gb287, 1, none⟩) (Kd.R_far (p := ⟨gb287, 0, none⟩) (Kd.R_types HO282.out BK287.out (by decide)) (fun _ hk => hk.2) (.slice Ao23 t280.length co23)) (fun _ hk => hk.2) (.slice Ao26 t283.length co26)) (fun _ h_ => h_.1))) (Kd.R_base ho0) hb); have n3_ := Aside0.mk (Kd.R_elder' (by (with_reducible repeat (first | apply Kd.R_alloc | apply Kd.R_drewN | apply Kd.R_drew)); exact (Kd.R_mono (Kd.R_far (p := ⟨gb287, 1, none⟩) (Kd.R_far (p := ⟨gb287, 0, none⟩) (Kd.R_types HO285.out BK287.out (by decide)) (fun _ hk => hk.2) (.slice Ao23 t280.length co23)) (fun _ hk => hk.2) (.slice Ao26 t283.length co26)) (fun _ h_ => h_.1))) (Kd.R_base ho1) hb); have n4_ := Aside0.mk (Kd.R_lower (Kd.R_new' (Kd.R_new' ho0 (Kd.R_lt (by (with_reducible repeat (first | apply Kd.R_alloc | apply Kd.R_drewN | apply Kd.R_drew)); exact (Kd.R_mono (Kd.R_far (p := ⟨gb287, 1, none⟩) (Kd.R_far (p := ⟨gb287, 0, none⟩) (Kd.R_types HO276.out BK287.out (by decide)) (fun _ hk => hk.2) (.slice Ao23 t280.length co23)) (fun _ hk => hk.2) (.slice Ao26 t283.length co26)) (fun _ h_ => h_.1))))) (Kd.R_lt (by (with_reducible repeat (first | apply Kd.R_alloc | apply Kd.R_drewN | apply Kd.R_drew)); exact (Kd.R_mono (Kd.R_far (p := ⟨gb287, 1, none⟩) (Kd.R_far (p := ⟨gb287, 0, none⟩) (Kd.R_types HO282.out BK287.out (by decide)) (fun _ hk => hk.2) (.slice Ao23 t280.length co23)) (fun _ hk => hk.2) (.slice Ao26 t283.length co26)) (fun _ h_ => h_.1))))) (below_size (by repeat (first | (with_reducible first | exact HB.out | apply below_alloc | apply pw_below_drewN | apply below_drew1 | refine below_set ?_ GE272.out | refine below_set ?_ GE287.out) | exact HB.out)))); have n5_ := Aside0.mk (Kd.R_lower (Kd.R_new' (Kd.R_new' ho1 (Kd.R_lt (by (with_reducible repeat (first | apply Kd.R_alloc | apply Kd.R_drewN | apply Kd.R_drew)); exact (Kd.R_mono (Kd.R_far (p := ⟨gb287, 1, none⟩) (Kd.R_far (p := ⟨gb287, 0, none⟩) (Kd.R_types HO279.out BK287.out (by decide)) (fun _ hk => hk.2) (.slice Ao23 t280.length co23)) (fun _ hk => hk.2) (.slice Ao26 t283.length co26)) (fun _ h_ => h_.1))))) (Kd.R_lt (by (with_reducible repeat (first | apply Kd.R_alloc | apply Kd.R_drewN | apply Kd.R_drew)); exact (Kd.R_mono (Kd.R_far (p := ⟨gb287, 1, none⟩) (Kd.R_far (p := ⟨gb287, 0, none⟩) (Kd.R_types HO285.out BK287.out (by decide)) (fun _ hk => hk.2) (.slice Ao23 t280.length co23)) (fun _ hk => hk.2) (.slice Ao26 t283.length co26)) (fun _ h_ => h_.1))))) (below_size (by repeat (first | (with_reducible first | exact HB.out | apply below_alloc | apply pw_below_drewN | apply below_drew1 | refine below_set ?_ GE272.out | refine below_set ?_ GE287.out) | exact HB.out)))); have n6_ := Aside0.mk (blk_below (g := gb272) (o := .cells #[.slice A0_0 l0_0.length c0_0, .slice A0_1 l0_1.length c0_1] 25 (0, 0)) (by (with_reducible repeat (first | refine blk_drewN ?_ _ | refine blk_drew ?_ | refine blk_alloc ?_ _)); refine blk_far ?_ NB272_287.out _; (with_reducible repeat (first | refine blk_drewN ?_ _ | refine blk_drew ?_ | refine blk_alloc ?_ _)); refine blk_far ?_ NB272_287.out _; (with_reducible repeat (first | refine blk_drewN ?_ _ | refine blk_drew ?_ | refine blk_alloc ?_ _)); exact BK272.out) hb); have n7_ := Aside0.mk (blk_below (g := gb287) (o := .cells #[.slice Ao23 t280.length co23, .slice Ao26 t283.length co26] 31 (0, 0)) (by (with_reducible repeat (first | refine blk_drewN ?_ _ | refine blk_drew ?_ | refine blk_alloc ?_ _)); refine blk_put (cs := #[.slice Ao23 t280.length co23, .slice none 0 0]) ?_ 1 _ rfl; (with_reducible repeat (first | refine blk_drewN ?_ _ | refine blk_drew ?_ | refine blk_alloc ?_ _)); refine blk_put (cs := #[.slice none 0 0, .slice none 0 0]) ?_ 0 _ rfl; (with_reducible repeat (first | refine blk_drewN ?_ _ | refine blk_drew ?_ | refine blk_alloc ?_ _)); exact BK287.out) hb); have n8_ := Aside0.mk (below_step (by repeat (first | (with_reducible first | exact HB.out | apply below_alloc | apply pw_below_drewN | apply below_drew1 | refine below_set ?_ GE272.out | refine below_set ?_ GE287.out) | exact HB.out)) hb); clear HO276; clear HO279; clear HO282; clear HO285; clear BK272; clear BK287; clear HB; have HO276 := n0_; have HO279 := n1_; have HO282 := n2_; have HO285 := n3_; have HO290 := n4_; have HO293 := n5_; have BK272 := n6_; have BK287 := n7_; have HB := n8_; clear n0_ n1_ n2_ n3_ n4_ n5_ n6_ n7_ n8_; (try clear hb); (try clear hb2); (try clear hk); (try clear hi); (try clear ho0); (try clear ho1)) | ((with_reducible refine gate_dst (N := 10) rfl ?_); refine box_event ?hg (N := 10) ?hd (cs := #[.slice none 0 0, .slice none 0 0]) (t := 31) ?hr ?_; (case hd => rfl); (case hg => rfl); (case hr => first | (go_simp; done) | (go_simp; rfl)); intro gb294 hg w29 hbox hb; have n0_ := Aside0.mk (Kd.R_below (by (with_reducible repeat (first | apply Kd.R_alloc | apply Kd.R_drewN | apply Kd.R_drew)); exact HO276.out) hb); have n1_ := Aside0.mk (Kd.R_below (by (with_reducible repeat (first | apply Kd.R_alloc | apply Kd.R_drewN | apply Kd.R_drew)); exact HO279.out) hb); have n2_ := Aside0.mk (Kd.R_below (by (with_reducible repeat (first | apply Kd.R_alloc | apply Kd.R_drewN | apply Kd.R_drew)); exact HO282.out) hb); have n3_ := Aside0.mk (Kd.R_below (by (with_reducible repeat (first | apply Kd.R_alloc | apply Kd.R_drewN | apply Kd.R_drew)); exact HO285.out) hb); have n4_ := Aside0.mk (Kd.R_below (by (with_reducible repeat (first | apply Kd.R_alloc | apply Kd.R_drewN | apply Kd.R_drew)); exact HO290.out) hb); have n5_ := Aside0.mk (Kd.R_below (by (with_reducible repeat (first | apply Kd.R_alloc | apply Kd.R_drewN | apply Kd.R_drew)); exact HO293.out) hb); have n6_ := Aside0.mk (blk_below (g := gb272) (o := .cells #[.slice A0_0 l0_0.length c0_0, .slice A0_1 l0_1.length c0_1] 25 (0, 0)) (by (with_reducible repeat (first | refine blk_drewN ?_ _ | refine blk_drew ?_ | refine blk_alloc ?_ _)); exact BK272.out) hb); have n7_ := Aside0.mk (blk_below (g := gb287) (o := .cells #[.slice Ao23 t280.length co23, .slice Ao26 t283.length co26] 31 (0, 0)) (by (with_reducible repeat (first | refine blk_drewN ?_ _ | refine blk_drew ?_ | refine blk_alloc ?_ _)); exact BK287.out) hb); have n8_ := Aside0.mk (below_step (by repeat (first | (with_reducible first | exact HB.out | apply below_alloc | apply pw_below_drewN | apply below_drew1 | refine below_set ?_ GE272.out | refine below_set ?_ GE287.out) | exact HB.out)) hb); have n9_ := Aside0.mk (hbox); have n10_ := Aside0.mk ((by rw [hg]; exact (below_size (by repeat (first | (with_reducible first | exact HB.out | apply below_alloc | apply pw_below_drewN | apply below_drew1 | refine below_set ?_ GE272.out | refine below_set ?_ GE287.out) | exact HB.out))) : w.heap.size ≤ gb294)); have n11_ := Aside0.mk ((by rw [hg]; exact (below_size (by repeat (first | (with_reducible first | exact HB.out | apply below_alloc | apply pw_below_drewN | apply below_drew1 | refine below_set ?_ GE272.out | refine below_set ?_ GE287.out) | exact HB.out))) : w.heap.size ≤ gb294)); have n12_ := Aside0.mk ((by rw [hg]; exact Nat.ne_of_lt (blk_lt (g := gb272) (o := .cells #[.slice A0_0 l0_0.length c0_0, .slice A0_1 l0_1.length c0_1] 25 (0, 0)) (by (with_reducible repeat (first | refine blk_drewN ?_ _ | refine blk_drew ?_ | refine blk_alloc ?_ _)); exact BK272.out)) : gb272 ≠ gb294)); have n13_ := Aside0.mk ((by rw [hg]; exact Nat.ne_of_gt (blk_lt (g := gb272) (o := .cells #[.slice A0_0 l0_0.length c0_0, .slice A0_1 l0_1.length c0_1] 25 (0, 0)) (by (with_reducible repeat (first | refine blk_drewN ?_ _ | refine blk_drew ?_ | refine blk_alloc ?_ _)); exact BK272.out)) : gb294 ≠ gb272)); have n14_ := Aside0.mk ((by rw [hg]; exact Nat.ne_of_lt (blk_lt (g := gb287) (o := .cells #[.slice Ao23 t280.length co23, .slice Ao26 t283.length co26] 31 (0, 0)) (by (with_reducible repeat (first | refine blk_drewN ?_ _ | refine blk_drew ?_ | refine blk_alloc ?_ _)); exact BK287.out)) : gb287 ≠ gb294)); have n15_ := Aside0.mk ((by rw [hg]; exact Nat.ne_of_gt (blk_lt (g := gb287) (o := .cells #[.slice Ao23 t280.length co23, .slice Ao26 t283.length co26] 31 (0, 0)) (by (with_reducible repeat (first | refine blk_drewN ?_ _ | refine blk_drew ?_ | refine blk_alloc ?_ _)); exact BK287.out)) : gb294 ≠ gb287)); clear HO276; clear HO279; clear HO282; clear HO285; clear HO290; clear HO293; clear BK272; clear BK287; clear HB; have HO276 := n0_; have HO279 := n1_; have HO282 := n2_; have HO285 := n3_; have HO290 := n4_; have HO293 := n5_; have BK272 := n6_; have BK287 := n7_; have HB := n8_; have BK294 := n9_; have GW294 := n10_; have GE294 := n11_; have NB272_294 := n12_; have NB294_272 := n13_; have NB287_294 := n14_; have NB294_287 := n15_; clear n0_ n1_ n2_ n3_ n4_ n5_ n6_ n7_ n8_ n9_ n10_ n11_ n12_ n13_ n14_ n15_; clear hb hbox hg; obtain ⟨Ao30, co30, eo30⟩ := Kd.R_slice HO290.out; subst eo30; have hnb31 := NB294_272.out; have hnc31 := NB272_294.out; have hnb32 := NB294_287.out; have hnc32 := NB287_294.out; have hcz33_0 : w29.cell? ⟨gb294, 0, none⟩ = some (.slice none 0 0) := (blk_cell BK294.out 0).trans rfl; have hcz33_1 : w29.cell? ⟨gb294, 1, none⟩ = some (.slice none 0 0) := (blk_cell BK294.out 1).trans rfl; have hfz33_0 := blk_frozen BK294.out 0; have hfz33_1 := blk_frozen BK294.out 1; obtain ⟨Ao34, co34, eo34⟩ := Kd.R_slice HO293.out; subst eo34) | ((with_reducible refine gate_callee (f := 34) rfl ?_); refine goesL_ (some 37) rfl rfl Try.func34 (by kernel_rfl) rfl #[.agg #[.slice Ao30 t288.length co30, .slice Ao34 t291.length co34], .int .i64 a1, .int .i64 a2] rfl (by (try simp only [List.map_toArray, List.map_cons, List.map_nil]); first | done | rfl | (simp only [List.length_drop, List.length_take]; rfl)) ?_; (with_reducible refine (impl_BuyParts.calls k _ _ t288 _ _ t291 a1 a2 t295 t298 t301 _ ?side1 ?side2 ?side3 ?side4 A12.out).mono ?_); (case side1 => refine (Kd.R_reads' (e := 3) (base := w.heap.size) (ok := fun k_ => ((True ∧ some k_ ≠ (.slice Ao19 t274.length co19 : Value).ownBlock) ∧ some k_ ≠ (.slice Ao23 t280.length co23 : Value).ownBlock)) (n := t288.length) (c := co30) ?_).2.2; exact (by (with_reducible repeat (first | apply Kd.R_alloc | apply Kd.R_drewN | apply Kd.R_drew)); exact (Kd.R_mono (Kd.R_far (p := ⟨gb294, 1, none⟩) (Kd.R_far (p := ⟨gb294, 0, none⟩) (Kd.R_types HO290.out BK294.out (by decide)) (fun _ hk => hk.2) (.slice Ao30 t288.length co30)) (fun _ hk => hk.2) (.slice Ao34 t291.length co34)) (fun _ h_ => h_.1)))); (case side2 => exact (Kd.R_reads' HO290.out).2.1); (case side3 => refine (Kd.R_reads' (e := 50) (base := w.heap.size) (ok := fun k_ => ((True ∧ some k_ ≠ (.slice Ao20 t277.length co20 : Value).ownBlock) ∧ some k_ ≠ (.slice Ao26 t283.length co26 : Value).ownBlock)) (n := t291.length) (c := co34) ?_).2.2; exact (by (with_reducible repeat (first | apply Kd.R_alloc | apply Kd.R_drewN | apply Kd.R_drew)); exact (Kd.R_mono (Kd.R_far (p := ⟨gb294, 1, none⟩) (Kd.R_far (p := ⟨gb294, 0, none⟩) (Kd.R_types HO293.out BK294.out (by decide)) (fun _ hk => hk.2) (.slice Ao30 t288.length co30)) (fun _ hk => hk.2) (.slice Ao34 t291.length co34)) (fun _ h_ => h_.1)))); (case side4 => exact (Kd.R_reads' HO293.out).2.1); rintro e w35 ⟨v296, v299, rfl, ho0, ho1, hb⟩; refine ⟨_, rfl, ?_⟩; have n0_ := Aside0.mk (Kd.R_elder' (by (with_reducible repeat (first | apply Kd.R_alloc | apply Kd.R_drewN | apply Kd.R_drew)); exact (Kd.R_mono (Kd.R_far (p := ⟨gb294, 1, none⟩) (Kd.R_far (p := ⟨gb294, 0, none⟩) (Kd.R_types HO276.out BK294.out (by decide)) (fun _ hk => hk.2) (.slice Ao30 t288.length co30)) (fun _ hk => hk.2) (.slice Ao34 t291.length co34)) (fun _ h_ => h_.1))) (Kd.R_base ho0) hb); have n1_ := Aside0.mk (Kd.R_elder' (by (with_reducible repeat (first | apply Kd.R_alloc | apply Kd.R_drewN | apply Kd.R_drew)); exact (Kd.R_mono (Kd.R_far (p := ⟨gb294, 1, none⟩) (Kd.R_far (p := ⟨gb294, 0, none⟩) (Kd.R_types HO279.out BK294.out (by decide)) (fun _ hk => hk.2) (.slice Ao30 t288.length co30)) (fun _ hk => hk.2) (.slice Ao34 t291.length co34)) (fun _ h_ => h_.1))) (Kd.R_base ho1) hb); have n2_ := Aside0.mk (Kd.R_elder' (by (with_reducible repeat (first | apply Kd.R_alloc | apply Kd.R_drewN | apply Kd.R_drew)); exact (Kd.R_mono (Kd.R_far (p := ⟨gb294, 1, none⟩) (Kd.R_far (p := ⟨gb294, 0, none⟩) (Kd.R_types HO282.out BK294.out (by decide)) (fun _ hk => hk.2) (.slice Ao30 t288.length co30)) (fun _ hk => hk.2) (.slice Ao34 t291.length co34)) (fun _ h_ => h_.1))) (Kd.R_base ho0) hb); have n3_ := Aside0.mk (Kd.R_elder' (by (with_reducible repeat (first | apply Kd.R_alloc | apply Kd.R_drewN | apply Kd.R_drew)); exact (Kd.R_mono (Kd.R_far (p := ⟨gb294, 1, none⟩) (Kd.R_far (p := ⟨gb294, 0, none⟩) (Kd.R_types HO285.out BK294.out (by decide)) (fun _ hk => hk.2) (.slice Ao30 t288.length co30)) (fun _ hk => hk.2) (.slice Ao34 t291.length co34)) (fun _ h_ => h_.1))) (Kd.R_base ho1) hb); have n4_ := Aside0.mk (Kd.R_elder' (by (with_reducible repeat (first | apply Kd.R_alloc | apply Kd.R_drewN | apply Kd.R_drew)); exact (Kd.R_mono (Kd.R_far (p := ⟨gb294, 1, none⟩) (Kd.R_far (p := ⟨gb294, 0, none⟩) (Kd.R_types HO290.out BK294.out (by decide)) (fun _ hk => hk.2) (.slice Ao30 t288.length co30)) (fun _ hk => hk.2) (.slice Ao34 t291.length co34)) (fun _ h_ => h_.1))) (Kd.R_base ho0) hb); have n5_ := Aside0.mk (Kd.R_elder' (by (with_reducible repeat (first | apply Kd.R_alloc | apply Kd.R_drewN | apply Kd.R_drew)); exact (Kd.R_mono (Kd.R_far (p := ⟨gb294, 1, none⟩) (Kd.R_far (p := ⟨gb294, 0, none⟩) (Kd.R_types HO293.out BK294.out (by decide)) (fun _ hk => hk.2) (.slice Ao30 t288.length co30)) (fun _ hk => hk.2) (.slice Ao34 t291.length co34)) (fun _ h_ => h_.1))) (Kd.R_base ho1) hb); have n6_ := Aside0.mk (Kd.R_lower (Kd.R_new' (Kd.R_new' (Kd.R_new' ho0 (Kd.R_lt (by (with_reducible repeat (first | apply Kd.R_alloc | apply Kd.R_drewN | apply Kd.R_drew)); exact (Kd.R_mono (Kd.R_far (p := ⟨gb294, 1, none⟩) (Kd.R_far (p := ⟨gb294, 0, none⟩) (Kd.R_types HO276.out BK294.out (by decide)) (fun _ hk => hk.2) (.slice Ao30 t288.length co30)) (fun _ hk => hk.2) (.slice Ao34 t291.length co34)) (fun _ h_ => h_.1))))) (Kd.R_lt (by (with_reducible repeat (first | apply Kd.R_alloc | apply Kd.R_drewN | apply Kd.R_drew)); exact (Kd.R_mono (Kd.R_far (p := ⟨gb294, 1, none⟩) (Kd.R_far (p := ⟨gb294, 0, none⟩) (Kd.R_types HO282.out BK294.out (by decide)) (fun _ hk => hk.2) (.slice Ao30 t288.length co30)) (fun _ hk => hk.2) (.slice Ao34 t291.length co34)) (fun _ h_ => h_.1))))) (Kd.R_lt (by (with_reducible repeat (first | apply Kd.R_alloc | apply Kd.R_drewN | apply Kd.R_drew)); exact (Kd.R_mono (Kd.R_far (p := ⟨gb294, 1, none⟩) (Kd.R_far (p := ⟨gb294, 0, none⟩) (Kd.R_types HO290.out BK294.out (by decide)) (fun _ hk => hk.2) (.slice Ao30 t288.length co30)) (fun _ hk => hk.2) (.slice Ao34 t291.length co34)) (fun _ h_ => h_.1))))) (below_size (by repeat (first | (with_reducible first | exact HB.out | apply below_alloc | apply pw_below_drewN | apply below_drew1 | refine below_set ?_ GE272.out | refine below_set ?_ GE287.out | refine below_set ?_ GE294.out) | exact HB.out)))); have n7_ := Aside0.mk (Kd.R_lower (Kd.R_new' (Kd.R_new' (Kd.R_new' ho1 (Kd.R_lt (by (with_reducible repeat (first | apply Kd.R_alloc | apply Kd.R_drewN | apply Kd.R_drew)); exact (Kd.R_mono (Kd.R_far (p := ⟨gb294, 1, none⟩) (Kd.R_far (p := ⟨gb294, 0, none⟩) (Kd.R_types HO279.out BK294.out (by decide)) (fun _ hk => hk.2) (.slice Ao30 t288.length co30)) (fun _ hk => hk.2) (.slice Ao34 t291.length co34)) (fun _ h_ => h_.1))))) (Kd.R_lt (by (with_reducible repeat (first | apply Kd.R_alloc | apply Kd.R_drewN | apply Kd.R_drew)); exact (Kd.R_mono (Kd.R_far (p := ⟨gb294, 1, none⟩) (Kd.R_far (p := ⟨gb294, 0, none⟩) (Kd.R_types HO285.out BK294.out (by decide)) (fun _ hk => hk.2) (.slice Ao30 t288.length co30)) (fun _ hk => hk.2) (.slice Ao34 t291.length co34)) (fun _ h_ => h_.1))))) (Kd.R_lt (by (with_reducible repeat (first | apply Kd.R_alloc | apply Kd.R_drewN | apply Kd.R_drew)); exact (Kd.R_mono (Kd.R_far (p := ⟨gb294, 1, none⟩) (Kd.R_far (p := ⟨gb294, 0, none⟩) (Kd.R_types HO293.out BK294.out (by decide)) (fun _ hk => hk.2) (.slice Ao30 t288.length co30)) (fun _ hk => hk.2) (.slice Ao34 t291.length co34)) (fun _ h_ => h_.1))))) (below_size (by repeat (first | (with_reducible first | exact HB.out | apply below_alloc | apply pw_below_drewN | apply below_drew1 | refine below_set ?_ GE272.out | refine below_set ?_ GE287.out | refine below_set ?_ GE294.out) | exact HB.out)))); have n8_ := Aside0.mk (blk_below (g := gb272) (o := .cells #[.slice A0_0 l0_0.length c0_0, .slice A0_1 l0_1.length c0_1] 25 (0, 0)) (by (with_reducible repeat (first | refine blk_drewN ?_ _ | refine blk_drew ?_ | refine blk_alloc ?_ _)); refine blk_far ?_ NB272_294.out _; (with_reducible repeat (first | refine blk_drewN ?_ _ | refine blk_drew ?_ | refine blk_alloc ?_ _)); refine blk_far ?_ NB272_294.out _; (with_reducible repeat (first | refine blk_drewN ?_ _ | refine blk_drew ?_ | refine blk_alloc ?_ _)); exact BK272.out) hb); have n9_ := Aside0.mk (blk_below (g := gb287) (o := .cells #[.slice Ao23 t280.length co23, .slice Ao26 t283.length co26] 31 (0, 0)) (by (with_reducible repeat (first | refine blk_drewN ?_ _ | refine blk_drew ?_ | refine blk_alloc ?_ _)); refine blk_far ?_ NB287_294.out _; (with_reducible repeat (first | refine blk_drewN ?_ _ | refine blk_drew ?_ | refine blk_alloc ?_ _)); refine blk_far ?_ NB287_294.out _; (with_reducible repeat (first | refine blk_drewN ?_ _ | refine blk_drew ?_ | refine blk_alloc ?_ _)); exact BK287.out) hb); have n10_ := Aside0.mk (blk_below (g := gb294) (o := .cells #[.slice Ao30 t288.length co30, .slice Ao34 t291.length co34] 31 (0, 0)) (by (with_reducible repeat (first | refine blk_drewN ?_ _ | refine blk_drew ?_ | refine blk_alloc ?_ _)); refine blk_put (cs := #[.slice Ao30 t288.length co30, .slice none 0 0]) ?_ 1 _ rfl; (with_reducible repeat (first | refine blk_drewN ?_ _ | refine blk_drew ?_ | refine blk_alloc ?_ _)); refine blk_put (cs := #[.slice none 0 0, .slice none 0 0]) ?_ 0 _ rfl; (with_reducible repeat (first | refine blk_drewN ?_ _ | refine blk_drew ?_ | refine blk_alloc ?_ _)); exact BK294.out) hb); have n11_ := Aside0.mk (below_step (by repeat (first | (with_reducible first | exact HB.out | apply below_alloc | apply pw_below_drewN | apply below_drew1 | refine below_set ?_ GE272.out | refine below_set ?_ GE287.out | refine below_set ?_ GE294.out) | exact HB.out)) hb); clear HO276; clear HO279; clear HO282; clear HO285; clear HO290; clear HO293; clear BK272; clear BK287; clear BK294; clear HB; have HO276 := n0_; have HO279 := n1_; have HO282 := n2_; have HO285 := n3_; have HO290 := n4_; have HO293 := n5_; have HO297 := n6_; have HO300 := n7_; have BK272 := n8_; have BK287 := n9_; have BK294 := n10_; have HB := n11_; clear n0_ n1_ n2_ n3_ n4_ n5_ n6_ n7_ n8_ n9_ n10_ n11_; (try clear hb); (try clear hb2); (try clear hk); (try clear hi); (try clear ho0); (try clear ho1)) | ((with_reducible refine gate_dst (N := 11) rfl ?_); refine box_event ?hg (N := 11) ?hd (cs := #[.slice none 0 0, .slice none 0 0]) (t := 31) ?hr ?_; (case hd => rfl); (case hg => rfl); (case hr => first | (go_simp; done) | (go_simp; rfl)); intro gb302 hg w36 hbox hb; have n0_ := Aside0.mk (Kd.R_below (by (with_reducible repeat (first | apply Kd.R_alloc | apply Kd.R_drewN | apply Kd.R_drew)); exact HO276.out) hb); have n1_ := Aside0.mk (Kd.R_below (by (with_reducible repeat (first | apply Kd.R_alloc | apply Kd.R_drewN | apply Kd.R_drew)); exact HO279.out) hb); have n2_ := Aside0.mk (Kd.R_below (by (with_reducible repeat (first | apply Kd.R_alloc | apply Kd.R_drewN | apply Kd.R_drew)); exact HO282.out) hb); have n3_ := Aside0.mk (Kd.R_below (by (with_reducible repeat (first | apply Kd.R_alloc | apply Kd.R_drewN | apply Kd.R_drew)); exact HO285.out) hb); have n4_ := Aside0.mk (Kd.R_below (by (with_reducible repeat (first | apply Kd.R_alloc | apply Kd.R_drewN | apply Kd.R_drew)); exact HO290.out) hb); have n5_ := Aside0.mk (Kd.R_below (by (with_reducible repeat (first | apply Kd.R_alloc | apply Kd.R_drewN | apply Kd.R_drew)); exact HO293.out) hb); have n6_ := Aside0.mk (Kd.R_below (by (with_reducible repeat (first | apply Kd.R_alloc | apply Kd.R_drewN | apply Kd.R_drew)); exact HO297.out) hb); have n7_ := Aside0.mk (Kd.R_below (by (with_reducible repeat (first | apply Kd.R_alloc | apply Kd.R_drewN | apply Kd.R_drew)); exact HO300.out) hb); have n8_ := Aside0.mk (blk_below (g := gb272) (o := .cells #[.slice A0_0 l0_0.length c0_0, .slice A0_1 l0_1.length c0_1] 25 (0, 0)) (by (with_reducible repeat (first | refine blk_drewN ?_ _ | refine blk_drew ?_ | refine blk_alloc ?_ _)); exact BK272.out) hb); have n9_ := Aside0.mk (blk_below (g := gb287) (o := .cells #[.slice Ao23 t280.length co23, .slice Ao26 t283.length co26] 31 (0, 0)) (by (with_reducible repeat (first | refine blk_drewN ?_ _ | refine blk_drew ?_ | refine blk_alloc ?_ _)); exact BK287.out) hb); have n10_ := Aside0.mk (blk_below (g := gb294) (o := .cells #[.slice Ao30 t288.length co30, .slice Ao34 t291.length co34] 31 (0, 0)) (by (with_reducible repeat (first | refine blk_drewN ?_ _ | refine blk_drew ?_ | refine blk_alloc ?_ _)); exact BK294.out) hb); have n11_ := Aside0.mk (below_step (by repeat (first | (with_reducible first | exact HB.out | apply below_alloc | apply pw_below_drewN | apply below_drew1 | refine below_set ?_ GE272.out | refine below_set ?_ GE287.out | refine below_set ?_ GE294.out) | exact HB.out)) hb); have n12_ := Aside0.mk (hbox); have n13_ := Aside0.mk ((by rw [hg]; exact (below_size (by repeat (first | (with_reducible first | exact HB.out | apply below_alloc | apply pw_below_drewN | apply below_drew1 | refine below_set ?_ GE272.out | refine below_set ?_ GE287.out | refine below_set ?_ GE294.out) | exact HB.out))) : w.heap.size ≤ gb302)); have n14_ := Aside0.mk ((by rw [hg]; exact (below_size (by repeat (first | (with_reducible first | exact HB.out | apply below_alloc | apply pw_below_drewN | apply below_drew1 | refine below_set ?_ GE272.out | refine below_set ?_ GE287.out | refine below_set ?_ GE294.out) | exact HB.out))) : w.heap.size ≤ gb302)); have n15_ := Aside0.mk ((by rw [hg]; exact Nat.ne_of_lt (blk_lt (g := gb272) (o := .cells #[.slice A0_0 l0_0.length c0_0, .slice A0_1 l0_1.length c0_1] 25 (0, 0)) (by (with_reducible repeat (first | refine blk_drewN ?_ _ | refine blk_drew ?_ | refine blk_alloc ?_ _)); exact BK272.out)) : gb272 ≠ gb302)); have n16_ := Aside0.mk ((by rw [hg]; exact Nat.ne_of_gt (blk_lt (g := gb272) (o := .cells #[.slice A0_0 l0_0.length c0_0, .slice A0_1 l0_1.length c0_1] 25 (0, 0)) (by (with_reducible repeat (first | refine blk_drewN ?_ _ | refine blk_drew ?_ | refine blk_alloc ?_ _)); exact BK272.out)) : gb302 ≠ gb272)); have n17_ := Aside0.mk ((by rw [hg]; exact Nat.ne_of_lt (blk_lt (g := gb287) (o := .cells #[.slice Ao23 t280.length co23, .slice Ao26 t283.length co26] 31 (0, 0)) (by (with_reducible repeat (first | refine blk_drewN ?_ _ | refine blk_drew ?_ | refine blk_alloc ?_ _)); exact BK287.out)) : gb287 ≠ gb302)); have n18_ := Aside0.mk ((by rw [hg]; exact Nat.ne_of_gt (blk_lt (g := gb287) (o := .cells #[.slice Ao23 t280.length co23, .slice Ao26 t283.length co26] 31 (0, 0)) (by (with_reducible repeat (first | refine blk_drewN ?_ _ | refine blk_drew ?_ | refine blk_alloc ?_ _)); exact BK287.out)) : gb302 ≠ gb287)); have n19_ := Aside0.mk ((by rw [hg]; exact Nat.ne_of_lt (blk_lt (g := gb294) (o := .cells #[.slice Ao30 t288.length co30, .slice Ao34 t291.length co34] 31 (0, 0)) (by (with_reducible repeat (first | refine blk_drewN ?_ _ | refine blk_drew ?_ | refine blk_alloc ?_ _)); exact BK294.out)) : gb294 ≠ gb302)); have n20_ := Aside0.mk ((by rw [hg]; exact Nat.ne_of_gt (blk_lt (g := gb294) (o := .cells #[.slice Ao30 t288.length co30, .slice Ao34 t291.length co34] 31 (0, 0)) (by (with_reducible repeat (first | refine blk_drewN ?_ _ | refine blk_drew ?_ | refine blk_alloc ?_ _)); exact BK294.out)) : gb302 ≠ gb294)); clear HO276; clear HO279; clear HO282; clear HO285; clear HO290; clear HO293; clear HO297; clear HO300; clear BK272; clear BK287; clear BK294; clear HB; have HO276 := n0_; have HO279 := n1_; have HO282 := n2_; have HO285 := n3_; have HO290 := n4_; have HO293 := n5_; have HO297 := n6_; have HO300 := n7_; have BK272 := n8_; have BK287 := n9_; have BK294 := n10_; have HB := n11_; have BK302 := n12_; have GW302 := n13_; have GE302 := n14_; have NB272_302 := n15_; have NB302_272 := n16_; have NB287_302 := n17_; have NB302_287 := n18_; have NB294_302 := n19_; have NB302_294 := n20_; clear n0_ n1_ n2_ n3_ n4_ n5_ n6_ n7_ n8_ n9_ n10_ n11_ n12_ n13_ n14_ n15_ n16_ n17_ n18_ n19_ n20_; clear hb hbox hg; obtain ⟨Ao37, co37, eo37⟩ := Kd.R_slice HO297.out; subst eo37; have hnb38 := NB302_272.out; have hnc38 := NB272_302.out; have hnb39 := NB302_287.out; have hnc39 := NB287_302.out; have hnb40 := NB302_294.out; have hnc40 := NB294_302.out; have hcz41_0 : w36.cell? ⟨gb302, 0, none⟩ = some (.slice none 0 0) := (blk_cell BK302.out 0).trans rfl; have hcz41_1 : w36.cell? ⟨gb302, 1, none⟩ = some (.slice none 0 0) := (blk_cell BK302.out 1).trans rfl; have hfz41_0 := blk_frozen BK302.out 0; have hfz41_1 := blk_frozen BK302.out 1; obtain ⟨Ao42, co42, eo42⟩ := Kd.R_slice HO300.out; subst eo42))
    (try simp only [Act.put, List.setIfInBounds_toArray, List.set_cons_zero, List.set_cons_succ])
    go_cut [48] (fun v48 wc => ∃ (kq : Nat) (x48_12 : Bool), v48 = .bool x48_12 ∧ Aside0 (laws_FnExactBuyParts.j0 kq a1 a2 t286 t301 x48_12 l0_0 l0_1 t280 t283 t288 t291 t295 t298 = some r) ∧ Aside0 (kq ≤ k) ∧ Aside0 (Kd.R (Kd.int .i64) 3 wc w.heap.size (fun k_ => some k_ ≠ ((.slice Ao30 t288.length co30) : Value).ownBlock ∧ some k_ ≠ ((.slice Ao37 t295.length co37) : Value).ownBlock) (.slice Ao23 t280.length co23) t280) ∧ Aside0 (Kd.R k50 50 wc w.heap.size (fun k_ => some k_ ≠ ((.slice Ao34 t291.length co34) : Value).ownBlock ∧ some k_ ≠ ((.slice Ao42 t298.length co42) : Value).ownBlock) (.slice Ao26 t283.length co26) t283) ∧ Aside0 (Kd.R (Kd.int .i64) 3 wc w.heap.size (fun k_ => some k_ ≠ ((.slice Ao23 t280.length co23) : Value).ownBlock ∧ some k_ ≠ ((.slice Ao37 t295.length co37) : Value).ownBlock) (.slice Ao30 t288.length co30) t288) ∧ Aside0 (Kd.R k50 50 wc w.heap.size (fun k_ => some k_ ≠ ((.slice Ao26 t283.length co26) : Value).ownBlock ∧ some k_ ≠ ((.slice Ao42 t298.length co42) : Value).ownBlock) (.slice Ao34 t291.length co34) t291) ∧ Aside0 (Kd.R (Kd.int .i64) 3 wc w.heap.size (fun k_ => some k_ ≠ ((.slice Ao23 t280.length co23) : Value).ownBlock ∧ some k_ ≠ ((.slice Ao30 t288.length co30) : Value).ownBlock) (.slice Ao37 t295.length co37) t295) ∧ Aside0 (Kd.R k50 50 wc w.heap.size (fun k_ => some k_ ≠ ((.slice Ao26 t283.length co26) : Value).ownBlock ∧ some k_ ≠ ((.slice Ao34 t291.length co34) : Value).ownBlock) (.slice Ao42 t298.length co42) t298) ∧ Aside0 (wc.heap[gb272]? = some (.cells #[(.slice A0_0 l0_0.length c0_0), (.slice A0_1 l0_1.length c0_1)] 25 (0, 0))) ∧ Aside0 (wc.heap[gb287]? = some (.cells #[(.slice Ao23 t280.length co23), (.slice Ao26 t283.length co26)] 31 (0, 0))) ∧ Aside0 (wc.heap[gb294]? = some (.cells #[(.slice Ao30 t288.length co30), (.slice Ao34 t291.length co34)] 31 (0, 0))) ∧ Aside0 (wc.heap[gb302]? = some (.cells #[(.slice Ao37 t295.length co37), (.slice Ao42 t298.length co42)] 31 (0, 0))) ∧ Aside0 (Below w.heap.size w wc))
    case first =>
      have H := HC13.out
      clear HC13
      replace H := Option.bind_eq_some_iff.mp H
      obtain ⟨t303, A430, H⟩ := H
      replace H : (if t303 = true then (laws_FnExactBuyParts.j0 k a1 a2 t286 t301 (t301 != t286) l0_0 l0_1 t280 t283 t288 t291 t295 t298) else (laws_FnExactBuyParts.j0 k a1 a2 t286 t301 true l0_0 l0_1 t280 t283 t288 t291 t295 t298)) = some r := H
      have A43 := Aside0.mk A430
      clear A430
      by_cases c44 : t303 = true
      · subst c44
        have H1 : (laws_FnExactBuyParts.j0 k a1 a2 t286 t301 (t301 != t286) l0_0 l0_1 t280 t283 t288 t291 t295 t298) = some r := by rw [if_pos rfl] at H; exact H
        clear H
        have H := H1
        clear H1
        have H' := Aside0.mk H
        clear H
        have hnb45 := NB302_272.out
        have hnc45 := NB272_302.out
        have hnb46 := NB302_287.out
        have hnc46 := NB287_302.out
        have hnb47 := NB302_294.out
        have hnc47 := NB294_302.out
        have hcz48_0 : w36.cell? ⟨gb302, 0, none⟩ = some (.slice none 0 0) := (blk_cell BK302.out 0).trans rfl
        have hcz48_1 : w36.cell? ⟨gb302, 1, none⟩ = some (.slice none 0 0) := (blk_cell BK302.out 1).trans rfl
        have hfz48_0 := blk_frozen BK302.out 0
        have hfz48_1 := blk_frozen BK302.out 1
        have hnb49 := NB287_272.out
        have hnc49 := NB272_287.out
        have hnb50 := NB287_294.out
        have hnc50 := NB294_287.out
        have hcz51_0 : w36.cell? ⟨gb287, 0, none⟩ = some (.slice Ao23 t280.length co23) := (blk_cell BK287.out 0).trans rfl
        have hcz51_1 : w36.cell? ⟨gb287, 1, none⟩ = some (.slice Ao26 t283.length co26) := (blk_cell BK287.out 1).trans rfl
        have hfz51_0 := blk_frozen BK287.out 0
        have hfz51_1 := blk_frozen BK287.out 1
        go_wp2_with (first | ((with_reducible refine gate_callee (f := 18) rfl ?_); refine goesL_ (some 42) rfl rfl Try.func18 (by kernel_rfl) rfl #[.agg #[.slice Ao37 t295.length co37, .slice Ao42 t298.length co42], .agg #[.slice Ao23 t280.length co23, .slice Ao26 t283.length co26]] rfl (by (try simp only [List.map_toArray, List.map_cons, List.map_nil]); first | done | rfl | (simp only [List.length_drop, List.length_take]; rfl)) ?_; (with_reducible refine (laws_eqShop.calls k _ _ t295 _ _ t298 _ _ t280 _ _ t283 true _ ?side1 ?side2 ?side3 ?side4 ?side5 ?side6 ?side7 ?side8 A43.out).mono ?_); (case side1 => refine (Kd.R_reads' (e := 3) (base := w.heap.size) (ok := fun k_ => (((True ∧ some k_ ≠ (.slice Ao19 t274.length co19 : Value).ownBlock) ∧ some k_ ≠ (.slice Ao23 t280.length co23 : Value).ownBlock) ∧ some k_ ≠ (.slice Ao30 t288.length co30 : Value).ownBlock)) (n := t295.length) (c := co37) ?_).2.2; exact (by (with_reducible repeat (first | apply Kd.R_alloc | apply Kd.R_drewN | apply Kd.R_drew)); exact (Kd.R_mono (Kd.R_far (p := ⟨gb302, 1, none⟩) (Kd.R_far (p := ⟨gb302, 0, none⟩) (Kd.R_types HO297.out BK302.out (by decide)) (fun _ hk => hk.2) (.slice Ao37 t295.length co37)) (fun _ hk => hk.2) (.slice Ao42 t298.length co42)) (fun _ h_ => h_.1)))); (case side2 => exact (Kd.R_reads' HO297.out).2.1); (case side3 => refine (Kd.R_reads' (e := 50) (base := w.heap.size) (ok := fun k_ => (((True ∧ some k_ ≠ (.slice Ao20 t277.length co20 : Value).ownBlock) ∧ some k_ ≠ (.slice Ao26 t283.length co26 : Value).ownBlock) ∧ some k_ ≠ (.slice Ao34 t291.length co34 : Value).ownBlock)) (n := t298.length) (c := co42) ?_).2.2; exact (by (with_reducible repeat (first | apply Kd.R_alloc | apply Kd.R_drewN | apply Kd.R_drew)); exact (Kd.R_mono (Kd.R_far (p := ⟨gb302, 1, none⟩) (Kd.R_far (p := ⟨gb302, 0, none⟩) (Kd.R_types HO300.out BK302.out (by decide)) (fun _ hk => hk.2) (.slice Ao37 t295.length co37)) (fun _ hk => hk.2) (.slice Ao42 t298.length co42)) (fun _ h_ => h_.1)))); (case side4 => exact (Kd.R_reads' HO300.out).2.1); (case side5 => refine (Kd.R_reads' (e := 3) (base := w.heap.size) (ok := fun k_ => (((True ∧ some k_ ≠ (.slice Ao19 t274.length co19 : Value).ownBlock) ∧ some k_ ≠ (.slice Ao30 t288.length co30 : Value).ownBlock) ∧ some k_ ≠ (.slice Ao37 t295.length co37 : Value).ownBlock)) (n := t280.length) (c := co23) ?_).2.2; exact (by (with_reducible repeat (first | apply Kd.R_alloc | apply Kd.R_drewN | apply Kd.R_drew)); exact (Kd.R_mono (Kd.R_far (p := ⟨gb302, 1, none⟩) (Kd.R_far (p := ⟨gb302, 0, none⟩) (Kd.R_types HO282.out BK302.out (by decide)) (fun _ hk => hk.2) (.slice Ao37 t295.length co37)) (fun _ hk => hk.2) (.slice Ao42 t298.length co42)) (fun _ h_ => h_.1)))); (case side6 => exact (Kd.R_reads' HO282.out).2.1); (case side7 => refine (Kd.R_reads' (e := 50) (base := w.heap.size) (ok := fun k_ => (((True ∧ some k_ ≠ (.slice Ao20 t277.length co20 : Value).ownBlock) ∧ some k_ ≠ (.slice Ao34 t291.length co34 : Value).ownBlock) ∧ some k_ ≠ (.slice Ao42 t298.length co42 : Value).ownBlock)) (n := t283.length) (c := co26) ?_).2.2; exact (by (with_reducible repeat (first | apply Kd.R_alloc | apply Kd.R_drewN | apply Kd.R_drew)); exact (Kd.R_mono (Kd.R_far (p := ⟨gb302, 1, none⟩) (Kd.R_far (p := ⟨gb302, 0, none⟩) (Kd.R_types HO285.out BK302.out (by decide)) (fun _ hk => hk.2) (.slice Ao37 t295.length co37)) (fun _ hk => hk.2) (.slice Ao42 t298.length co42)) (fun _ h_ => h_.1)))); (case side8 => exact (Kd.R_reads' HO285.out).2.1); rintro e w52 ⟨rfl, hb⟩; refine ⟨_, rfl, ?_⟩; have n0_ := Aside0.mk (Kd.R_below (by (with_reducible repeat (first | apply Kd.R_alloc | apply Kd.R_drewN | apply Kd.R_drew)); exact (Kd.R_mono (Kd.R_far (p := ⟨gb302, 1, none⟩) (Kd.R_far (p := ⟨gb302, 0, none⟩) (Kd.R_types HO276.out BK302.out (by decide)) (fun _ hk => hk.2) (.slice Ao37 t295.length co37)) (fun _ hk => hk.2) (.slice Ao42 t298.length co42)) (fun _ h_ => h_.1))) hb); have n1_ := Aside0.mk (Kd.R_below (by (with_reducible repeat (first | apply Kd.R_alloc | apply Kd.R_drewN | apply Kd.R_drew)); exact (Kd.R_mono (Kd.R_far (p := ⟨gb302, 1, none⟩) (Kd.R_far (p := ⟨gb302, 0, none⟩) (Kd.R_types HO279.out BK302.out (by decide)) (fun _ hk => hk.2) (.slice Ao37 t295.length co37)) (fun _ hk => hk.2) (.slice Ao42 t298.length co42)) (fun _ h_ => h_.1))) hb); have n2_ := Aside0.mk (Kd.R_below (by (with_reducible repeat (first | apply Kd.R_alloc | apply Kd.R_drewN | apply Kd.R_drew)); exact (Kd.R_mono (Kd.R_far (p := ⟨gb302, 1, none⟩) (Kd.R_far (p := ⟨gb302, 0, none⟩) (Kd.R_types HO282.out BK302.out (by decide)) (fun _ hk => hk.2) (.slice Ao37 t295.length co37)) (fun _ hk => hk.2) (.slice Ao42 t298.length co42)) (fun _ h_ => h_.1))) hb); have n3_ := Aside0.mk (Kd.R_below (by (with_reducible repeat (first | apply Kd.R_alloc | apply Kd.R_drewN | apply Kd.R_drew)); exact (Kd.R_mono (Kd.R_far (p := ⟨gb302, 1, none⟩) (Kd.R_far (p := ⟨gb302, 0, none⟩) (Kd.R_types HO285.out BK302.out (by decide)) (fun _ hk => hk.2) (.slice Ao37 t295.length co37)) (fun _ hk => hk.2) (.slice Ao42 t298.length co42)) (fun _ h_ => h_.1))) hb); have n4_ := Aside0.mk (Kd.R_below (by (with_reducible repeat (first | apply Kd.R_alloc | apply Kd.R_drewN | apply Kd.R_drew)); exact (Kd.R_mono (Kd.R_far (p := ⟨gb302, 1, none⟩) (Kd.R_far (p := ⟨gb302, 0, none⟩) (Kd.R_types HO290.out BK302.out (by decide)) (fun _ hk => hk.2) (.slice Ao37 t295.length co37)) (fun _ hk => hk.2) (.slice Ao42 t298.length co42)) (fun _ h_ => h_.1))) hb); have n5_ := Aside0.mk (Kd.R_below (by (with_reducible repeat (first | apply Kd.R_alloc | apply Kd.R_drewN | apply Kd.R_drew)); exact (Kd.R_mono (Kd.R_far (p := ⟨gb302, 1, none⟩) (Kd.R_far (p := ⟨gb302, 0, none⟩) (Kd.R_types HO293.out BK302.out (by decide)) (fun _ hk => hk.2) (.slice Ao37 t295.length co37)) (fun _ hk => hk.2) (.slice Ao42 t298.length co42)) (fun _ h_ => h_.1))) hb); have n6_ := Aside0.mk (Kd.R_below (by (with_reducible repeat (first | apply Kd.R_alloc | apply Kd.R_drewN | apply Kd.R_drew)); exact (Kd.R_mono (Kd.R_far (p := ⟨gb302, 1, none⟩) (Kd.R_far (p := ⟨gb302, 0, none⟩) (Kd.R_types HO297.out BK302.out (by decide)) (fun _ hk => hk.2) (.slice Ao37 t295.length co37)) (fun _ hk => hk.2) (.slice Ao42 t298.length co42)) (fun _ h_ => h_.1))) hb); have n7_ := Aside0.mk (Kd.R_below (by (with_reducible repeat (first | apply Kd.R_alloc | apply Kd.R_drewN | apply Kd.R_drew)); exact (Kd.R_mono (Kd.R_far (p := ⟨gb302, 1, none⟩) (Kd.R_far (p := ⟨gb302, 0, none⟩) (Kd.R_types HO300.out BK302.out (by decide)) (fun _ hk => hk.2) (.slice Ao37 t295.length co37)) (fun _ hk => hk.2) (.slice Ao42 t298.length co42)) (fun _ h_ => h_.1))) hb); have n8_ := Aside0.mk (blk_below (g := gb272) (o := .cells #[.slice A0_0 l0_0.length c0_0, .slice A0_1 l0_1.length c0_1] 25 (0, 0)) (by (with_reducible repeat (first | refine blk_drewN ?_ _ | refine blk_drew ?_ | refine blk_alloc ?_ _)); refine blk_far ?_ NB272_302.out _; (with_reducible repeat (first | refine blk_drewN ?_ _ | refine blk_drew ?_ | refine blk_alloc ?_ _)); refine blk_far ?_ NB272_302.out _; (with_reducible repeat (first | refine blk_drewN ?_ _ | refine blk_drew ?_ | refine blk_alloc ?_ _)); exact BK272.out) hb); have n9_ := Aside0.mk (blk_below (g := gb287) (o := .cells #[.slice Ao23 t280.length co23, .slice Ao26 t283.length co26] 31 (0, 0)) (by (with_reducible repeat (first | refine blk_drewN ?_ _ | refine blk_drew ?_ | refine blk_alloc ?_ _)); refine blk_far ?_ NB287_302.out _; (with_reducible repeat (first | refine blk_drewN ?_ _ | refine blk_drew ?_ | refine blk_alloc ?_ _)); refine blk_far ?_ NB287_302.out _; (with_reducible repeat (first | refine blk_drewN ?_ _ | refine blk_drew ?_ | refine blk_alloc ?_ _)); exact BK287.out) hb); have n10_ := Aside0.mk (blk_below (g := gb294) (o := .cells #[.slice Ao30 t288.length co30, .slice Ao34 t291.length co34] 31 (0, 0)) (by (with_reducible repeat (first | refine blk_drewN ?_ _ | refine blk_drew ?_ | refine blk_alloc ?_ _)); refine blk_far ?_ NB294_302.out _; (with_reducible repeat (first | refine blk_drewN ?_ _ | refine blk_drew ?_ | refine blk_alloc ?_ _)); refine blk_far ?_ NB294_302.out _; (with_reducible repeat (first | refine blk_drewN ?_ _ | refine blk_drew ?_ | refine blk_alloc ?_ _)); exact BK294.out) hb); have n11_ := Aside0.mk (blk_below (g := gb302) (o := .cells #[.slice Ao37 t295.length co37, .slice Ao42 t298.length co42] 31 (0, 0)) (by (with_reducible repeat (first | refine blk_drewN ?_ _ | refine blk_drew ?_ | refine blk_alloc ?_ _)); refine blk_put (cs := #[.slice Ao37 t295.length co37, .slice none 0 0]) ?_ 1 _ rfl; (with_reducible repeat (first | refine blk_drewN ?_ _ | refine blk_drew ?_ | refine blk_alloc ?_ _)); refine blk_put (cs := #[.slice none 0 0, .slice none 0 0]) ?_ 0 _ rfl; (with_reducible repeat (first | refine blk_drewN ?_ _ | refine blk_drew ?_ | refine blk_alloc ?_ _)); exact BK302.out) hb); have n12_ := Aside0.mk (below_step (by repeat (first | (with_reducible first | exact HB.out | apply below_alloc | apply pw_below_drewN | apply below_drew1 | refine below_set ?_ GE272.out | refine below_set ?_ GE287.out | refine below_set ?_ GE294.out | refine below_set ?_ GE302.out) | exact HB.out)) hb); clear HO276; clear HO279; clear HO282; clear HO285; clear HO290; clear HO293; clear HO297; clear HO300; clear BK272; clear BK287; clear BK294; clear BK302; clear HB; have HO276 := n0_; have HO279 := n1_; have HO282 := n2_; have HO285 := n3_; have HO290 := n4_; have HO293 := n5_; have HO297 := n6_; have HO300 := n7_; have BK272 := n8_; have BK287 := n9_; have BK294 := n10_; have BK302 := n11_; have HB := n12_; clear n0_ n1_ n2_ n3_ n4_ n5_ n6_ n7_ n8_ n9_ n10_ n11_ n12_; (try clear hb); (try clear hb2); (try clear hk); (try clear hi)))
        go_meet
        case rel => exact ⟨_, ((t301 != t286)), (by first | rfl | (simp; done) | (simp [*]; done)), H', ⟨by first | omega | exact Nat.le_refl _⟩, ⟨by (with_reducible repeat (first | apply Kd.R_alloc | apply Kd.R_drewN | apply Kd.R_drew)); exact Kd.R_mono HO282.out (fun _ hk => ⟨hk.1.2, hk.2⟩)⟩, ⟨by (with_reducible repeat (first | apply Kd.R_alloc | apply Kd.R_drewN | apply Kd.R_drew)); exact Kd.R_mono HO285.out (fun _ hk => ⟨hk.1.2, hk.2⟩)⟩, ⟨by (with_reducible repeat (first | apply Kd.R_alloc | apply Kd.R_drewN | apply Kd.R_drew)); exact Kd.R_mono HO290.out (fun _ hk => ⟨hk.1.2, hk.2⟩)⟩, ⟨by (with_reducible repeat (first | apply Kd.R_alloc | apply Kd.R_drewN | apply Kd.R_drew)); exact Kd.R_mono HO293.out (fun _ hk => ⟨hk.1.2, hk.2⟩)⟩, ⟨by (with_reducible repeat (first | apply Kd.R_alloc | apply Kd.R_drewN | apply Kd.R_drew)); exact Kd.R_mono HO297.out (fun _ hk => ⟨hk.1.2, hk.2⟩)⟩, ⟨by (with_reducible repeat (first | apply Kd.R_alloc | apply Kd.R_drewN | apply Kd.R_drew)); exact Kd.R_mono HO300.out (fun _ hk => ⟨hk.1.2, hk.2⟩)⟩, ⟨by (with_reducible repeat (first | refine blk_drewN ?_ _ | refine blk_drew ?_ | refine blk_alloc ?_ _)); exact BK272.out⟩, ⟨by (with_reducible repeat (first | refine blk_drewN ?_ _ | refine blk_drew ?_ | refine blk_alloc ?_ _)); exact BK287.out⟩, ⟨by (with_reducible repeat (first | refine blk_drewN ?_ _ | refine blk_drew ?_ | refine blk_alloc ?_ _)); exact BK294.out⟩, ⟨by (with_reducible repeat (first | refine blk_drewN ?_ _ | refine blk_drew ?_ | refine blk_alloc ?_ _)); exact BK302.out⟩, ⟨by repeat (first | (with_reducible first | exact HB.out | apply below_alloc | apply pw_below_drewN | apply below_drew1 | refine below_set ?_ GE272.out | refine below_set ?_ GE287.out | refine below_set ?_ GE294.out | refine below_set ?_ GE302.out) | exact HB.out)⟩⟩
      · replace c44 := Bool.eq_false_iff.mpr c44
        subst c44
        have H1 : (laws_FnExactBuyParts.j0 k a1 a2 t286 t301 true l0_0 l0_1 t280 t283 t288 t291 t295 t298) = some r := by rw [if_neg (show ¬ (false = true) by decide)] at H; exact H
        clear H
        have H := H1
        clear H1
        have H' := Aside0.mk H
        clear H
        have hnb53 := NB302_272.out
        have hnc53 := NB272_302.out
        have hnb54 := NB302_287.out
        have hnc54 := NB287_302.out
        have hnb55 := NB302_294.out
        have hnc55 := NB294_302.out
        have hcz56_0 : w36.cell? ⟨gb302, 0, none⟩ = some (.slice none 0 0) := (blk_cell BK302.out 0).trans rfl
        have hcz56_1 : w36.cell? ⟨gb302, 1, none⟩ = some (.slice none 0 0) := (blk_cell BK302.out 1).trans rfl
        have hfz56_0 := blk_frozen BK302.out 0
        have hfz56_1 := blk_frozen BK302.out 1
        have hnb57 := NB287_272.out
        have hnc57 := NB272_287.out
        have hnb58 := NB287_294.out
        have hnc58 := NB294_287.out
        have hcz59_0 : w36.cell? ⟨gb287, 0, none⟩ = some (.slice Ao23 t280.length co23) := (blk_cell BK287.out 0).trans rfl
        have hcz59_1 : w36.cell? ⟨gb287, 1, none⟩ = some (.slice Ao26 t283.length co26) := (blk_cell BK287.out 1).trans rfl
        have hfz59_0 := blk_frozen BK287.out 0
        have hfz59_1 := blk_frozen BK287.out 1
        go_wp2_with (first | ((with_reducible refine gate_callee (f := 18) rfl ?_); refine goesL_ (some 42) rfl rfl Try.func18 (by kernel_rfl) rfl #[.agg #[.slice Ao37 t295.length co37, .slice Ao42 t298.length co42], .agg #[.slice Ao23 t280.length co23, .slice Ao26 t283.length co26]] rfl (by (try simp only [List.map_toArray, List.map_cons, List.map_nil]); first | done | rfl | (simp only [List.length_drop, List.length_take]; rfl)) ?_; (with_reducible refine (laws_eqShop.calls k _ _ t295 _ _ t298 _ _ t280 _ _ t283 false _ ?side1 ?side2 ?side3 ?side4 ?side5 ?side6 ?side7 ?side8 A43.out).mono ?_); (case side1 => refine (Kd.R_reads' (e := 3) (base := w.heap.size) (ok := fun k_ => (((True ∧ some k_ ≠ (.slice Ao19 t274.length co19 : Value).ownBlock) ∧ some k_ ≠ (.slice Ao23 t280.length co23 : Value).ownBlock) ∧ some k_ ≠ (.slice Ao30 t288.length co30 : Value).ownBlock)) (n := t295.length) (c := co37) ?_).2.2; exact (by (with_reducible repeat (first | apply Kd.R_alloc | apply Kd.R_drewN | apply Kd.R_drew)); exact (Kd.R_mono (Kd.R_far (p := ⟨gb302, 1, none⟩) (Kd.R_far (p := ⟨gb302, 0, none⟩) (Kd.R_types HO297.out BK302.out (by decide)) (fun _ hk => hk.2) (.slice Ao37 t295.length co37)) (fun _ hk => hk.2) (.slice Ao42 t298.length co42)) (fun _ h_ => h_.1)))); (case side2 => exact (Kd.R_reads' HO297.out).2.1); (case side3 => refine (Kd.R_reads' (e := 50) (base := w.heap.size) (ok := fun k_ => (((True ∧ some k_ ≠ (.slice Ao20 t277.length co20 : Value).ownBlock) ∧ some k_ ≠ (.slice Ao26 t283.length co26 : Value).ownBlock) ∧ some k_ ≠ (.slice Ao34 t291.length co34 : Value).ownBlock)) (n := t298.length) (c := co42) ?_).2.2; exact (by (with_reducible repeat (first | apply Kd.R_alloc | apply Kd.R_drewN | apply Kd.R_drew)); exact (Kd.R_mono (Kd.R_far (p := ⟨gb302, 1, none⟩) (Kd.R_far (p := ⟨gb302, 0, none⟩) (Kd.R_types HO300.out BK302.out (by decide)) (fun _ hk => hk.2) (.slice Ao37 t295.length co37)) (fun _ hk => hk.2) (.slice Ao42 t298.length co42)) (fun _ h_ => h_.1)))); (case side4 => exact (Kd.R_reads' HO300.out).2.1); (case side5 => refine (Kd.R_reads' (e := 3) (base := w.heap.size) (ok := fun k_ => (((True ∧ some k_ ≠ (.slice Ao19 t274.length co19 : Value).ownBlock) ∧ some k_ ≠ (.slice Ao30 t288.length co30 : Value).ownBlock) ∧ some k_ ≠ (.slice Ao37 t295.length co37 : Value).ownBlock)) (n := t280.length) (c := co23) ?_).2.2; exact (by (with_reducible repeat (first | apply Kd.R_alloc | apply Kd.R_drewN | apply Kd.R_drew)); exact (Kd.R_mono (Kd.R_far (p := ⟨gb302, 1, none⟩) (Kd.R_far (p := ⟨gb302, 0, none⟩) (Kd.R_types HO282.out BK302.out (by decide)) (fun _ hk => hk.2) (.slice Ao37 t295.length co37)) (fun _ hk => hk.2) (.slice Ao42 t298.length co42)) (fun _ h_ => h_.1)))); (case side6 => exact (Kd.R_reads' HO282.out).2.1); (case side7 => refine (Kd.R_reads' (e := 50) (base := w.heap.size) (ok := fun k_ => (((True ∧ some k_ ≠ (.slice Ao20 t277.length co20 : Value).ownBlock) ∧ some k_ ≠ (.slice Ao34 t291.length co34 : Value).ownBlock) ∧ some k_ ≠ (.slice Ao42 t298.length co42 : Value).ownBlock)) (n := t283.length) (c := co26) ?_).2.2; exact (by (with_reducible repeat (first | apply Kd.R_alloc | apply Kd.R_drewN | apply Kd.R_drew)); exact (Kd.R_mono (Kd.R_far (p := ⟨gb302, 1, none⟩) (Kd.R_far (p := ⟨gb302, 0, none⟩) (Kd.R_types HO285.out BK302.out (by decide)) (fun _ hk => hk.2) (.slice Ao37 t295.length co37)) (fun _ hk => hk.2) (.slice Ao42 t298.length co42)) (fun _ h_ => h_.1)))); (case side8 => exact (Kd.R_reads' HO285.out).2.1); rintro e w60 ⟨rfl, hb⟩; refine ⟨_, rfl, ?_⟩; have n0_ := Aside0.mk (Kd.R_below (by (with_reducible repeat (first | apply Kd.R_alloc | apply Kd.R_drewN | apply Kd.R_drew)); exact (Kd.R_mono (Kd.R_far (p := ⟨gb302, 1, none⟩) (Kd.R_far (p := ⟨gb302, 0, none⟩) (Kd.R_types HO276.out BK302.out (by decide)) (fun _ hk => hk.2) (.slice Ao37 t295.length co37)) (fun _ hk => hk.2) (.slice Ao42 t298.length co42)) (fun _ h_ => h_.1))) hb); have n1_ := Aside0.mk (Kd.R_below (by (with_reducible repeat (first | apply Kd.R_alloc | apply Kd.R_drewN | apply Kd.R_drew)); exact (Kd.R_mono (Kd.R_far (p := ⟨gb302, 1, none⟩) (Kd.R_far (p := ⟨gb302, 0, none⟩) (Kd.R_types HO279.out BK302.out (by decide)) (fun _ hk => hk.2) (.slice Ao37 t295.length co37)) (fun _ hk => hk.2) (.slice Ao42 t298.length co42)) (fun _ h_ => h_.1))) hb); have n2_ := Aside0.mk (Kd.R_below (by (with_reducible repeat (first | apply Kd.R_alloc | apply Kd.R_drewN | apply Kd.R_drew)); exact (Kd.R_mono (Kd.R_far (p := ⟨gb302, 1, none⟩) (Kd.R_far (p := ⟨gb302, 0, none⟩) (Kd.R_types HO282.out BK302.out (by decide)) (fun _ hk => hk.2) (.slice Ao37 t295.length co37)) (fun _ hk => hk.2) (.slice Ao42 t298.length co42)) (fun _ h_ => h_.1))) hb); have n3_ := Aside0.mk (Kd.R_below (by (with_reducible repeat (first | apply Kd.R_alloc | apply Kd.R_drewN | apply Kd.R_drew)); exact (Kd.R_mono (Kd.R_far (p := ⟨gb302, 1, none⟩) (Kd.R_far (p := ⟨gb302, 0, none⟩) (Kd.R_types HO285.out BK302.out (by decide)) (fun _ hk => hk.2) (.slice Ao37 t295.length co37)) (fun _ hk => hk.2) (.slice Ao42 t298.length co42)) (fun _ h_ => h_.1))) hb); have n4_ := Aside0.mk (Kd.R_below (by (with_reducible repeat (first | apply Kd.R_alloc | apply Kd.R_drewN | apply Kd.R_drew)); exact (Kd.R_mono (Kd.R_far (p := ⟨gb302, 1, none⟩) (Kd.R_far (p := ⟨gb302, 0, none⟩) (Kd.R_types HO290.out BK302.out (by decide)) (fun _ hk => hk.2) (.slice Ao37 t295.length co37)) (fun _ hk => hk.2) (.slice Ao42 t298.length co42)) (fun _ h_ => h_.1))) hb); have n5_ := Aside0.mk (Kd.R_below (by (with_reducible repeat (first | apply Kd.R_alloc | apply Kd.R_drewN | apply Kd.R_drew)); exact (Kd.R_mono (Kd.R_far (p := ⟨gb302, 1, none⟩) (Kd.R_far (p := ⟨gb302, 0, none⟩) (Kd.R_types HO293.out BK302.out (by decide)) (fun _ hk => hk.2) (.slice Ao37 t295.length co37)) (fun _ hk => hk.2) (.slice Ao42 t298.length co42)) (fun _ h_ => h_.1))) hb); have n6_ := Aside0.mk (Kd.R_below (by (with_reducible repeat (first | apply Kd.R_alloc | apply Kd.R_drewN | apply Kd.R_drew)); exact (Kd.R_mono (Kd.R_far (p := ⟨gb302, 1, none⟩) (Kd.R_far (p := ⟨gb302, 0, none⟩) (Kd.R_types HO297.out BK302.out (by decide)) (fun _ hk => hk.2) (.slice Ao37 t295.length co37)) (fun _ hk => hk.2) (.slice Ao42 t298.length co42)) (fun _ h_ => h_.1))) hb); have n7_ := Aside0.mk (Kd.R_below (by (with_reducible repeat (first | apply Kd.R_alloc | apply Kd.R_drewN | apply Kd.R_drew)); exact (Kd.R_mono (Kd.R_far (p := ⟨gb302, 1, none⟩) (Kd.R_far (p := ⟨gb302, 0, none⟩) (Kd.R_types HO300.out BK302.out (by decide)) (fun _ hk => hk.2) (.slice Ao37 t295.length co37)) (fun _ hk => hk.2) (.slice Ao42 t298.length co42)) (fun _ h_ => h_.1))) hb); have n8_ := Aside0.mk (blk_below (g := gb272) (o := .cells #[.slice A0_0 l0_0.length c0_0, .slice A0_1 l0_1.length c0_1] 25 (0, 0)) (by (with_reducible repeat (first | refine blk_drewN ?_ _ | refine blk_drew ?_ | refine blk_alloc ?_ _)); refine blk_far ?_ NB272_302.out _; (with_reducible repeat (first | refine blk_drewN ?_ _ | refine blk_drew ?_ | refine blk_alloc ?_ _)); refine blk_far ?_ NB272_302.out _; (with_reducible repeat (first | refine blk_drewN ?_ _ | refine blk_drew ?_ | refine blk_alloc ?_ _)); exact BK272.out) hb); have n9_ := Aside0.mk (blk_below (g := gb287) (o := .cells #[.slice Ao23 t280.length co23, .slice Ao26 t283.length co26] 31 (0, 0)) (by (with_reducible repeat (first | refine blk_drewN ?_ _ | refine blk_drew ?_ | refine blk_alloc ?_ _)); refine blk_far ?_ NB287_302.out _; (with_reducible repeat (first | refine blk_drewN ?_ _ | refine blk_drew ?_ | refine blk_alloc ?_ _)); refine blk_far ?_ NB287_302.out _; (with_reducible repeat (first | refine blk_drewN ?_ _ | refine blk_drew ?_ | refine blk_alloc ?_ _)); exact BK287.out) hb); have n10_ := Aside0.mk (blk_below (g := gb294) (o := .cells #[.slice Ao30 t288.length co30, .slice Ao34 t291.length co34] 31 (0, 0)) (by (with_reducible repeat (first | refine blk_drewN ?_ _ | refine blk_drew ?_ | refine blk_alloc ?_ _)); refine blk_far ?_ NB294_302.out _; (with_reducible repeat (first | refine blk_drewN ?_ _ | refine blk_drew ?_ | refine blk_alloc ?_ _)); refine blk_far ?_ NB294_302.out _; (with_reducible repeat (first | refine blk_drewN ?_ _ | refine blk_drew ?_ | refine blk_alloc ?_ _)); exact BK294.out) hb); have n11_ := Aside0.mk (blk_below (g := gb302) (o := .cells #[.slice Ao37 t295.length co37, .slice Ao42 t298.length co42] 31 (0, 0)) (by (with_reducible repeat (first | refine blk_drewN ?_ _ | refine blk_drew ?_ | refine blk_alloc ?_ _)); refine blk_put (cs := #[.slice Ao37 t295.length co37, .slice none 0 0]) ?_ 1 _ rfl; (with_reducible repeat (first | refine blk_drewN ?_ _ | refine blk_drew ?_ | refine blk_alloc ?_ _)); refine blk_put (cs := #[.slice none 0 0, .slice none 0 0]) ?_ 0 _ rfl; (with_reducible repeat (first | refine blk_drewN ?_ _ | refine blk_drew ?_ | refine blk_alloc ?_ _)); exact BK302.out) hb); have n12_ := Aside0.mk (below_step (by repeat (first | (with_reducible first | exact HB.out | apply below_alloc | apply pw_below_drewN | apply below_drew1 | refine below_set ?_ GE272.out | refine below_set ?_ GE287.out | refine below_set ?_ GE294.out | refine below_set ?_ GE302.out) | exact HB.out)) hb); clear HO276; clear HO279; clear HO282; clear HO285; clear HO290; clear HO293; clear HO297; clear HO300; clear BK272; clear BK287; clear BK294; clear BK302; clear HB; have HO276 := n0_; have HO279 := n1_; have HO282 := n2_; have HO285 := n3_; have HO290 := n4_; have HO293 := n5_; have HO297 := n6_; have HO300 := n7_; have BK272 := n8_; have BK287 := n9_; have BK294 := n10_; have BK302 := n11_; have HB := n12_; clear n0_ n1_ n2_ n3_ n4_ n5_ n6_ n7_ n8_ n9_ n10_ n11_ n12_; (try clear hb); (try clear hb2); (try clear hk); (try clear hi)))
        go_meet
        case rel => exact ⟨_, (true), (by first | rfl | (simp; done) | (simp [*]; done)), H', ⟨by first | omega | exact Nat.le_refl _⟩, ⟨by (with_reducible repeat (first | apply Kd.R_alloc | apply Kd.R_drewN | apply Kd.R_drew)); exact Kd.R_mono HO282.out (fun _ hk => ⟨hk.1.2, hk.2⟩)⟩, ⟨by (with_reducible repeat (first | apply Kd.R_alloc | apply Kd.R_drewN | apply Kd.R_drew)); exact Kd.R_mono HO285.out (fun _ hk => ⟨hk.1.2, hk.2⟩)⟩, ⟨by (with_reducible repeat (first | apply Kd.R_alloc | apply Kd.R_drewN | apply Kd.R_drew)); exact Kd.R_mono HO290.out (fun _ hk => ⟨hk.1.2, hk.2⟩)⟩, ⟨by (with_reducible repeat (first | apply Kd.R_alloc | apply Kd.R_drewN | apply Kd.R_drew)); exact Kd.R_mono HO293.out (fun _ hk => ⟨hk.1.2, hk.2⟩)⟩, ⟨by (with_reducible repeat (first | apply Kd.R_alloc | apply Kd.R_drewN | apply Kd.R_drew)); exact Kd.R_mono HO297.out (fun _ hk => ⟨hk.1.2, hk.2⟩)⟩, ⟨by (with_reducible repeat (first | apply Kd.R_alloc | apply Kd.R_drewN | apply Kd.R_drew)); exact Kd.R_mono HO300.out (fun _ hk => ⟨hk.1.2, hk.2⟩)⟩, ⟨by (with_reducible repeat (first | refine blk_drewN ?_ _ | refine blk_drew ?_ | refine blk_alloc ?_ _)); exact BK272.out⟩, ⟨by (with_reducible repeat (first | refine blk_drewN ?_ _ | refine blk_drew ?_ | refine blk_alloc ?_ _)); exact BK287.out⟩, ⟨by (with_reducible repeat (first | refine blk_drewN ?_ _ | refine blk_drew ?_ | refine blk_alloc ?_ _)); exact BK294.out⟩, ⟨by (with_reducible repeat (first | refine blk_drewN ?_ _ | refine blk_drew ?_ | refine blk_alloc ?_ _)); exact BK302.out⟩, ⟨by repeat (first | (with_reducible first | exact HB.out | apply below_alloc | apply pw_below_drewN | apply below_drew1 | refine below_set ?_ GE272.out | refine below_set ?_ GE287.out | refine below_set ?_ GE294.out | refine below_set ?_ GE302.out) | exact HB.out)⟩⟩
    case rest =>
      clear HC13
      try clear c1
      try clear c2
      try clear p2
      try clear c3
      try clear c4
      try clear c5
      try clear c5b0
      try clear c9
      try clear c13
      try clear c15
      try clear c18
      try clear c24
      try clear c31
      try clear c32
      try clear c33
      try clear c34
      try clear c38
      try clear c39
      try clear c40
      try clear c44
      try clear c45
      try clear c46
      try clear c47
      try clear c49
      try clear c50
      try clear c53
      try clear c54
      try clear c55
      try clear c57
      try clear c58
      try clear hcz15_0
      try clear hcz15_1
      try clear hcz17_0
      try clear hcz17_1
      try clear hcz25_0
      try clear hcz25_1
      try clear hcz27_0
      try clear hcz27_1
      try clear hcz33_0
      try clear hcz33_1
      try clear hcz41_0
      try clear hcz41_1
      try clear hcz48_0
      try clear hcz48_1
      try clear hcz51_0
      try clear hcz51_1
      try clear hcz56_0
      try clear hcz56_1
      try clear hcz59_0
      try clear hcz59_1
      try clear hcz7_0
      try clear hcz7_1
      try clear hfz15_0
      try clear hfz15_1
      try clear hfz17_0
      try clear hfz17_1
      try clear hfz25_0
      try clear hfz25_1
      try clear hfz27_0
      try clear hfz27_1
      try clear hfz33_0
      try clear hfz33_1
      try clear hfz41_0
      try clear hfz41_1
      try clear hfz48_0
      try clear hfz48_1
      try clear hfz51_0
      try clear hfz51_1
      try clear hfz56_0
      try clear hfz56_1
      try clear hfz59_0
      try clear hfz59_1
      try clear hfz7_0
      try clear hfz7_1
      obtain ⟨kq, x48_12, rfl, HA, HJ12, HO_288000, HO_288001, HO_295000, HO_295001, HO_303000, HO_303001, BK272, BK287, BK294, BK302, HB⟩ := hcut
      cases kq with
      | zero => exact absurd HA.out (by simp [laws_FnExactBuyParts.j0])
      | succ kj12 =>
        have H := HA.out
        clear HA
        simp only [laws_FnExactBuyParts.j0] at H
        by_cases c61 : x48_12 = true
        · subst c61
          have H1 : (some false) = some r := by rw [if_pos rfl] at H; exact H
          clear H
          have H := H1
          clear H1
          obtain rfl := Option.some.inj H
          go_wp2
          go_ret
          exact ⟨by first | rfl | (simp [errW_none, errW_some] <;> rfl) | (simp [*, errW_none, errW_some] <;> rfl), by repeat (first | (with_reducible first | exact HB.out | apply below_alloc | apply pw_below_drewN | apply below_drew1 | refine below_set ?_ GE272.out | refine below_set ?_ GE287.out | refine below_set ?_ GE294.out | refine below_set ?_ GE302.out) | exact HB.out)⟩
        · replace c61 := Bool.eq_false_iff.mpr c61
          subst c61
          have H1 : ((laws_toShop.f kj12 l0_0 l0_1).bind fun bt304 => ((laws_eqShop.f kj12 t288 t291 bt304.1 bt304.2).bind fun t310 => (if t310 = true then ((laws_markShop.f kj12 t288 t291 1).bind fun bt311 => (if bt311.1 < 0 then (laws_FnExactBuyParts.j1 kj12 a1 a2 t286 true l0_0 l0_1 t280 t283 t295 t298) else ((laws_eqShop.f kj12 t295 t298 t280 t283).bind fun t314 => (if t314 = true then (laws_FnExactBuyParts.j1 kj12 a1 a2 t286 (t301 != t286) l0_0 l0_1 t280 t283 t295 t298) else (laws_FnExactBuyParts.j1 kj12 a1 a2 t286 true l0_0 l0_1 t280 t283 t295 t298))))) else (some false)))) = some r := by rw [if_neg (show ¬ (false = true) by decide)] at H; exact H
          clear H
          have H := H1
          clear H1
          replace H := Option.bind_eq_some_iff.mp H
          obtain ⟨⟨t304, t307⟩, A620, H⟩ := H
          replace H : ((laws_eqShop.f kj12 t288 t291 t304 t307).bind fun t310 => (if t310 = true then ((laws_markShop.f kj12 t288 t291 1).bind fun bt311 => (if bt311.1 < 0 then (laws_FnExactBuyParts.j1 kj12 a1 a2 t286 true l0_0 l0_1 t280 t283 t295 t298) else ((laws_eqShop.f kj12 t295 t298 t280 t283).bind fun t314 => (if t314 = true then (laws_FnExactBuyParts.j1 kj12 a1 a2 t286 (t301 != t286) l0_0 l0_1 t280 t283 t295 t298) else (laws_FnExactBuyParts.j1 kj12 a1 a2 t286 true l0_0 l0_1 t280 t283 t295 t298))))) else (some false))) = some r := H
          have A62 := Aside0.mk A620
          clear A620
          replace H := Option.bind_eq_some_iff.mp H
          obtain ⟨t310, A630, H⟩ := H
          replace H : (if t310 = true then ((laws_markShop.f kj12 t288 t291 1).bind fun bt311 => (if bt311.1 < 0 then (laws_FnExactBuyParts.j1 kj12 a1 a2 t286 true l0_0 l0_1 t280 t283 t295 t298) else ((laws_eqShop.f kj12 t295 t298 t280 t283).bind fun t314 => (if t314 = true then (laws_FnExactBuyParts.j1 kj12 a1 a2 t286 (t301 != t286) l0_0 l0_1 t280 t283 t295 t298) else (laws_FnExactBuyParts.j1 kj12 a1 a2 t286 true l0_0 l0_1 t280 t283 t295 t298))))) else (some false)) = some r := H
          have A63 := Aside0.mk A630
          clear A630
          by_cases c64 : t310 = true
          · subst c64
            have H1 : ((laws_markShop.f kj12 t288 t291 1).bind fun bt311 => (if bt311.1 < 0 then (laws_FnExactBuyParts.j1 kj12 a1 a2 t286 true l0_0 l0_1 t280 t283 t295 t298) else ((laws_eqShop.f kj12 t295 t298 t280 t283).bind fun t314 => (if t314 = true then (laws_FnExactBuyParts.j1 kj12 a1 a2 t286 (t301 != t286) l0_0 l0_1 t280 t283 t295 t298) else (laws_FnExactBuyParts.j1 kj12 a1 a2 t286 true l0_0 l0_1 t280 t283 t295 t298))))) = some r := by rw [if_pos rfl] at H; exact H
            clear H
            have H := H1
            clear H1
            replace H := Option.bind_eq_some_iff.mp H
            obtain ⟨⟨t311, t312, t313⟩, A650, H⟩ := H
            replace H : (if t311 < 0 then (laws_FnExactBuyParts.j1 kj12 a1 a2 t286 true l0_0 l0_1 t280 t283 t295 t298) else ((laws_eqShop.f kj12 t295 t298 t280 t283).bind fun t314 => (if t314 = true then (laws_FnExactBuyParts.j1 kj12 a1 a2 t286 (t301 != t286) l0_0 l0_1 t280 t283 t295 t298) else (laws_FnExactBuyParts.j1 kj12 a1 a2 t286 true l0_0 l0_1 t280 t283 t295 t298)))) = some r := H
            have A65 := Aside0.mk A650
            clear A650
            have HC66 := Aside0.mk H
            clear H
            try go_wp2
            have n0_ := Aside0.mk (Kd.R_drew HO_288000.out)
            have n1_ := Aside0.mk (Kd.R_drew HO_288001.out)
            have n2_ := Aside0.mk (Kd.R_drew HO_295000.out)
            have n3_ := Aside0.mk (Kd.R_drew HO_295001.out)
            have n4_ := Aside0.mk (Kd.R_drew HO_303000.out)
            have n5_ := Aside0.mk (Kd.R_drew HO_303001.out)
            have n6_ := Aside0.mk (blk_drew BK272.out)
            have n7_ := Aside0.mk (blk_drew BK287.out)
            have n8_ := Aside0.mk (blk_drew BK294.out)
            have n9_ := Aside0.mk (blk_drew BK302.out)
            have n10_ := Aside0.mk (below_drew1 HB.out)
            clear HO_288000
            clear HO_288001
            clear HO_295000
            clear HO_295001
            clear HO_303000
            clear HO_303001
            clear BK272
            clear BK287
            clear BK294
            clear BK302
            clear HB
            have HO_288000 := n0_
            have HO_288001 := n1_
            have HO_295000 := n2_
            have HO_295001 := n3_
            have HO_303000 := n4_
            have HO_303001 := n5_
            have BK272 := n6_
            have BK287 := n7_
            have BK294 := n8_
            have BK302 := n9_
            have HB := n10_
            clear n0_ n1_ n2_ n3_ n4_ n5_ n6_ n7_ n8_ n9_ n10_
            refine start_ (n := 5) (S := fun w' => w'.cell? ⟨gb294, 0, none⟩ = some (.slice Ao30 t288.length co30) ∧ w'.cell? ⟨gb294, 1, none⟩ = some (.slice Ao34 t291.length co34) ∧ w'.cell? ⟨gb272, 0, none⟩ = some (.slice A0_0 l0_0.length c0_0) ∧ w'.cell? ⟨gb272, 1, none⟩ = some (.slice A0_1 l0_1.length c0_1)) (ds := []) #[false, false, false, false, false] (by kernel_rfl) rfl rfl ⟨(blk_cell BK294.out 0).trans rfl, (blk_cell BK294.out 1).trans rfl, (blk_cell BK272.out 0).trans rfl, (blk_cell BK272.out 1).trans rfl⟩ (fun hHeld => ?_)
            generalize wc.drew = w67 at HO_288000 HO_288001 HO_295000 HO_295001 HO_303000 HO_303001 BK272 BK287 BK294 BK302 HB hHeld ⊢
            refine take_ (i := 0) (N := some 49) (v := ?_) (a' := ?_) #[true, false, false, false, false] rfl rfl (by kernel_rfl) (fun _ _ _ h => h) (Or.inl ⟨by rfl, ?_⟩) hHeld ?_ ?_
            rotate_left
            · rintro w' ⟨s0, s1, s2, s3⟩
              go_simp
              with_reducible rfl
            rotate_left
            · simp only [Act.put, List.setIfInBounds_toArray, List.set_cons_zero, List.set_cons_succ, i64_w, i32_w]
              rfl
            refine take_ (i := 1) (N := some 50) (v := ?_) (a' := ?_) #[true, true, false, false, false] rfl rfl (by kernel_rfl) (fun _ _ _ h => h) (Or.inl ⟨by rfl, ?_⟩) hHeld ?_ ?_
            rotate_left
            · rintro w' ⟨s0, s1, s2, s3⟩
              go_simp
              with_reducible rfl
            rotate_left
            · simp only [Act.put, List.setIfInBounds_toArray, List.set_cons_zero, List.set_cons_succ, i64_w, i32_w]
              rfl
            refine one_ (i := 2) (N := some 51) #[true, true, true, false, false] rfl rfl (by kernel_rfl) (by decide) (fun K hK => ?_)
            refine goes_ Try.func15 (by kernel_rfl) rfl #[.agg #[.slice A0_0 l0_0.length c0_0, .slice A0_1 l0_1.length c0_1]] (by rfl) rfl rfl (by (try simp only [List.map_toArray, List.map_cons, List.map_nil]); first | done | rfl | (simp only [List.length_drop, List.length_take]; rfl)) ?_
            with_reducible refine (laws_toShop.calls kj12 _ _ l0_0 _ _ l0_1 t304 t307 _ ?side1 ?side2 ?side3 ?side4 A62.out).mono ?_
            (case side1 => repeat (first | exact (Kd.C_below HR0_0.out HB.out) | (with_reducible refine Kd.C_alloc ?_ _) | (with_reducible refine Kd.C_drewN ?_ _) | (with_reducible refine Kd.C_drew ?_)))
            (case side2 => exact HC0_0.out)
            (case side3 => repeat (first | exact (Kd.C_below HR0_1.out HB.out) | (with_reducible refine Kd.C_alloc ?_ _) | (with_reducible refine Kd.C_drewN ?_ _) | (with_reducible refine Kd.C_drew ?_)))
            (case side4 => exact HC0_1.out)
            rintro e w68 ⟨v305, v308, rfl, ho0, ho1, hb⟩
            refine ⟨_, rfl, ?_⟩
            have n0_ := Aside0.mk (Kd.R_elder' (by (with_reducible repeat (first | apply Kd.R_alloc | apply Kd.R_drewN | apply Kd.R_drew)); exact HO_288000.out) (Kd.R_base ho0) hb)
            have n1_ := Aside0.mk (Kd.R_elder' (by (with_reducible repeat (first | apply Kd.R_alloc | apply Kd.R_drewN | apply Kd.R_drew)); exact HO_288001.out) (Kd.R_base ho1) hb)
            have n2_ := Aside0.mk (Kd.R_elder' (by (with_reducible repeat (first | apply Kd.R_alloc | apply Kd.R_drewN | apply Kd.R_drew)); exact HO_295000.out) (Kd.R_base ho0) hb)
            have n3_ := Aside0.mk (Kd.R_elder' (by (with_reducible repeat (first | apply Kd.R_alloc | apply Kd.R_drewN | apply Kd.R_drew)); exact HO_295001.out) (Kd.R_base ho1) hb)
            have n4_ := Aside0.mk (Kd.R_elder' (by (with_reducible repeat (first | apply Kd.R_alloc | apply Kd.R_drewN | apply Kd.R_drew)); exact HO_303000.out) (Kd.R_base ho0) hb)
            have n5_ := Aside0.mk (Kd.R_elder' (by (with_reducible repeat (first | apply Kd.R_alloc | apply Kd.R_drewN | apply Kd.R_drew)); exact HO_303001.out) (Kd.R_base ho1) hb)
            have n6_ := Aside0.mk (Kd.R_lower (Kd.R_new' (Kd.R_new' (Kd.R_new' ho0 (Kd.R_lt (by (with_reducible repeat (first | apply Kd.R_alloc | apply Kd.R_drewN | apply Kd.R_drew)); exact HO_288000.out))) (Kd.R_lt (by (with_reducible repeat (first | apply Kd.R_alloc | apply Kd.R_drewN | apply Kd.R_drew)); exact HO_295000.out))) (Kd.R_lt (by (with_reducible repeat (first | apply Kd.R_alloc | apply Kd.R_drewN | apply Kd.R_drew)); exact HO_303000.out))) (below_size (by repeat (first | (with_reducible first | exact HB.out | apply below_alloc | apply pw_below_drewN | apply below_drew1 | refine below_set ?_ GE272.out | refine below_set ?_ GE287.out | refine below_set ?_ GE294.out | refine below_set ?_ GE302.out) | exact HB.out))))
            have n7_ := Aside0.mk (Kd.R_lower (Kd.R_new' (Kd.R_new' (Kd.R_new' ho1 (Kd.R_lt (by (with_reducible repeat (first | apply Kd.R_alloc | apply Kd.R_drewN | apply Kd.R_drew)); exact HO_288001.out))) (Kd.R_lt (by (with_reducible repeat (first | apply Kd.R_alloc | apply Kd.R_drewN | apply Kd.R_drew)); exact HO_295001.out))) (Kd.R_lt (by (with_reducible repeat (first | apply Kd.R_alloc | apply Kd.R_drewN | apply Kd.R_drew)); exact HO_303001.out))) (below_size (by repeat (first | (with_reducible first | exact HB.out | apply below_alloc | apply pw_below_drewN | apply below_drew1 | refine below_set ?_ GE272.out | refine below_set ?_ GE287.out | refine below_set ?_ GE294.out | refine below_set ?_ GE302.out) | exact HB.out))))
            have n8_ := Aside0.mk (blk_below (g := gb272) (o := .cells #[.slice A0_0 l0_0.length c0_0, .slice A0_1 l0_1.length c0_1] 25 (0, 0)) (by (with_reducible repeat (first | refine blk_drewN ?_ _ | refine blk_drew ?_ | refine blk_alloc ?_ _)); exact BK272.out) hb)
            have n9_ := Aside0.mk (blk_below (g := gb287) (o := .cells #[.slice Ao23 t280.length co23, .slice Ao26 t283.length co26] 31 (0, 0)) (by (with_reducible repeat (first | refine blk_drewN ?_ _ | refine blk_drew ?_ | refine blk_alloc ?_ _)); exact BK287.out) hb)
            have n10_ := Aside0.mk (blk_below (g := gb294) (o := .cells #[.slice Ao30 t288.length co30, .slice Ao34 t291.length co34] 31 (0, 0)) (by (with_reducible repeat (first | refine blk_drewN ?_ _ | refine blk_drew ?_ | refine blk_alloc ?_ _)); exact BK294.out) hb)
            have n11_ := Aside0.mk (blk_below (g := gb302) (o := .cells #[.slice Ao37 t295.length co37, .slice Ao42 t298.length co42] 31 (0, 0)) (by (with_reducible repeat (first | refine blk_drewN ?_ _ | refine blk_drew ?_ | refine blk_alloc ?_ _)); exact BK302.out) hb)
            have n12_ := Aside0.mk (below_step (by repeat (first | (with_reducible first | exact HB.out | apply below_alloc | apply pw_below_drewN | apply below_drew1 | refine below_set ?_ GE272.out | refine below_set ?_ GE287.out | refine below_set ?_ GE294.out | refine below_set ?_ GE302.out) | exact HB.out)) hb)
            clear HO_288000
            clear HO_288001
            clear HO_295000
            clear HO_295001
            clear HO_303000
            clear HO_303001
            clear BK272
            clear BK287
            clear BK294
            clear BK302
            clear HB
            have HO_288000 := n0_
            have HO_288001 := n1_
            have HO_295000 := n2_
            have HO_295001 := n3_
            have HO_303000 := n4_
            have HO_303001 := n5_
            have HO306 := n6_
            have HO309 := n7_
            have BK272 := n8_
            have BK287 := n9_
            have BK294 := n10_
            have BK302 := n11_
            have HB := n12_
            clear n0_ n1_ n2_ n3_ n4_ n5_ n6_ n7_ n8_ n9_ n10_ n11_ n12_
            (try clear hb)
            (try clear hb2)
            (try clear hk)
            (try clear hi)
            (try clear ho0)
            (try clear ho1)
            obtain ⟨Ao69, co69, eo69⟩ := Kd.R_slice HO306.out
            (first | subst eo69 | (injection eo69 with f1_ f2_ f3_; have f4_ := f1_.symm; have f5_ := f3_.symm; clear f1_ f2_ f3_; subst f4_; subst f5_))
            obtain ⟨Ao70, co70, eo70⟩ := Kd.R_slice HO309.out
            (first | subst eo70 | (injection eo70 with f1_ f2_ f3_; have f4_ := f1_.symm; have f5_ := f3_.symm; clear f1_ f2_ f3_; subst f4_; subst f5_))
            refine hK.out _ _ ⟨(blk_cell BK294.out 0).trans rfl, (blk_cell BK294.out 1).trans rfl, (blk_cell BK272.out 0).trans rfl, (blk_cell BK272.out 1).trans rfl⟩ (fun hHeld => ?_)
            clear hK K
            refine norm_ (a' := ?_) ?_ ?_
            rotate_left
            · show Act.put _ (some 51) _ = _
              simp only [Act.put, List.setIfInBounds_toArray, List.set_cons_zero, List.set_cons_succ, i64_w, i32_w]
              rfl
            refine one_ (i := 3) (N := some 52) #[true, true, true, true, false] rfl rfl (by kernel_rfl) (by decide) (fun K hK => ?_)
            refine goes_ Try.func18 (by kernel_rfl) rfl #[.agg #[.slice Ao30 t288.length co30, .slice Ao34 t291.length co34], .agg #[.slice Ao69 t304.length co69, .slice Ao70 t307.length co70]] (by rfl) rfl rfl (by (try simp only [List.map_toArray, List.map_cons, List.map_nil]); first | done | rfl | (simp only [List.length_drop, List.length_take]; rfl)) ?_
            with_reducible refine (laws_eqShop.calls kj12 _ _ t288 _ _ t291 _ _ t304 _ _ t307 true _ ?side1 ?side2 ?side3 ?side4 ?side5 ?side6 ?side7 ?side8 A63.out).mono ?_
            (case side1 => repeat (first | exact (Kd.R_reads' HO_295000.out).2.2 | (with_reducible refine Kd.C_alloc ?_ _) | (with_reducible refine Kd.C_drewN ?_ _) | (with_reducible refine Kd.C_drew ?_)))
            (case side2 => exact (Kd.R_reads' HO_295000.out).2.1)
            (case side3 => repeat (first | exact (Kd.R_reads' HO_295001.out).2.2 | (with_reducible refine Kd.C_alloc ?_ _) | (with_reducible refine Kd.C_drewN ?_ _) | (with_reducible refine Kd.C_drew ?_)))
            (case side4 => exact (Kd.R_reads' HO_295001.out).2.1)
            (case side5 => repeat (first | exact (Kd.R_reads' HO306.out).2.2 | (with_reducible refine Kd.C_alloc ?_ _) | (with_reducible refine Kd.C_drewN ?_ _) | (with_reducible refine Kd.C_drew ?_)))
            (case side6 => exact (Kd.R_reads' HO306.out).2.1)
            (case side7 => repeat (first | exact (Kd.R_reads' HO309.out).2.2 | (with_reducible refine Kd.C_alloc ?_ _) | (with_reducible refine Kd.C_drewN ?_ _) | (with_reducible refine Kd.C_drew ?_)))
            (case side8 => exact (Kd.R_reads' HO309.out).2.1)
            rintro e w71 ⟨rfl, hb⟩
            refine ⟨_, rfl, ?_⟩
            have n0_ := Aside0.mk (Kd.R_below (by (with_reducible repeat (first | apply Kd.R_alloc | apply Kd.R_drewN | apply Kd.R_drew)); exact HO_288000.out) hb)
            have n1_ := Aside0.mk (Kd.R_below (by (with_reducible repeat (first | apply Kd.R_alloc | apply Kd.R_drewN | apply Kd.R_drew)); exact HO_288001.out) hb)
            have n2_ := Aside0.mk (Kd.R_below (by (with_reducible repeat (first | apply Kd.R_alloc | apply Kd.R_drewN | apply Kd.R_drew)); exact HO_295000.out) hb)
            have n3_ := Aside0.mk (Kd.R_below (by (with_reducible repeat (first | apply Kd.R_alloc | apply Kd.R_drewN | apply Kd.R_drew)); exact HO_295001.out) hb)
            have n4_ := Aside0.mk (Kd.R_below (by (with_reducible repeat (first | apply Kd.R_alloc | apply Kd.R_drewN | apply Kd.R_drew)); exact HO_303000.out) hb)
            have n5_ := Aside0.mk (Kd.R_below (by (with_reducible repeat (first | apply Kd.R_alloc | apply Kd.R_drewN | apply Kd.R_drew)); exact HO_303001.out) hb)
            have n6_ := Aside0.mk (Kd.R_below (by (with_reducible repeat (first | apply Kd.R_alloc | apply Kd.R_drewN | apply Kd.R_drew)); exact HO306.out) hb)
            have n7_ := Aside0.mk (Kd.R_below (by (with_reducible repeat (first | apply Kd.R_alloc | apply Kd.R_drewN | apply Kd.R_drew)); exact HO309.out) hb)
            have n8_ := Aside0.mk (blk_below (g := gb272) (o := .cells #[.slice A0_0 l0_0.length c0_0, .slice A0_1 l0_1.length c0_1] 25 (0, 0)) (by (with_reducible repeat (first | refine blk_drewN ?_ _ | refine blk_drew ?_ | refine blk_alloc ?_ _)); exact BK272.out) hb)
            have n9_ := Aside0.mk (blk_below (g := gb287) (o := .cells #[.slice Ao23 t280.length co23, .slice Ao26 t283.length co26] 31 (0, 0)) (by (with_reducible repeat (first | refine blk_drewN ?_ _ | refine blk_drew ?_ | refine blk_alloc ?_ _)); exact BK287.out) hb)
            have n10_ := Aside0.mk (blk_below (g := gb294) (o := .cells #[.slice Ao30 t288.length co30, .slice Ao34 t291.length co34] 31 (0, 0)) (by (with_reducible repeat (first | refine blk_drewN ?_ _ | refine blk_drew ?_ | refine blk_alloc ?_ _)); exact BK294.out) hb)
            have n11_ := Aside0.mk (blk_below (g := gb302) (o := .cells #[.slice Ao37 t295.length co37, .slice Ao42 t298.length co42] 31 (0, 0)) (by (with_reducible repeat (first | refine blk_drewN ?_ _ | refine blk_drew ?_ | refine blk_alloc ?_ _)); exact BK302.out) hb)
            have n12_ := Aside0.mk (below_step (by repeat (first | (with_reducible first | exact HB.out | apply below_alloc | apply pw_below_drewN | apply below_drew1 | refine below_set ?_ GE272.out | refine below_set ?_ GE287.out | refine below_set ?_ GE294.out | refine below_set ?_ GE302.out) | exact HB.out)) hb)
            clear HO_288000
            clear HO_288001
            clear HO_295000
            clear HO_295001
            clear HO_303000
            clear HO_303001
            clear HO306
            clear HO309
            clear BK272
            clear BK287
            clear BK294
            clear BK302
            clear HB
            have HO_288000 := n0_
            have HO_288001 := n1_
            have HO_295000 := n2_
            have HO_295001 := n3_
            have HO_303000 := n4_
            have HO_303001 := n5_
            have HO306 := n6_
            have HO309 := n7_
            have BK272 := n8_
            have BK287 := n9_
            have BK294 := n10_
            have BK302 := n11_
            have HB := n12_
            clear n0_ n1_ n2_ n3_ n4_ n5_ n6_ n7_ n8_ n9_ n10_ n11_ n12_
            (try clear hb)
            (try clear hb2)
            (try clear hk)
            (try clear hi)
            refine hK.out _ _ ⟨(blk_cell BK294.out 0).trans rfl, (blk_cell BK294.out 1).trans rfl, (blk_cell BK272.out 0).trans rfl, (blk_cell BK272.out 1).trans rfl⟩ (fun hHeld => ?_)
            clear hK K
            refine norm_ (a' := ?_) ?_ ?_
            rotate_left
            · show Act.put _ (some 52) _ = _
              simp only [Act.put, List.setIfInBounds_toArray, List.set_cons_zero, List.set_cons_succ, i64_w, i32_w]
              rfl
            refine pure_ (i := 4) (N := some 53) (v := ?_) (a' := ?_) #[true, true, true, true, true] rfl rfl (by kernel_rfl) (fun _ _ _ h => h) (Or.inl ⟨by rfl, ?_⟩) ?_ ?_
            rotate_left
            · intro w'
              go_simp
              with_reducible rfl
            rotate_left
            · simp only [Act.put, List.setIfInBounds_toArray, List.set_cons_zero, List.set_cons_succ, i64_w, i32_w]
              rfl
            refine done_ (by kernel_rfl) ?_
            have hnb72 := NB294_272.out
            have hnc72 := NB272_294.out
            have hnb73 := NB294_287.out
            have hnc73 := NB287_294.out
            have hnb74 := NB294_302.out
            have hnc74 := NB302_294.out
            have hcz75_0 : w71.cell? ⟨gb294, 0, none⟩ = some (.slice Ao30 t288.length co30) := (blk_cell BK294.out 0).trans rfl
            have hcz75_1 : w71.cell? ⟨gb294, 1, none⟩ = some (.slice Ao34 t291.length co34) := (blk_cell BK294.out 1).trans rfl
            have hfz75_0 := blk_frozen BK294.out 0
            have hfz75_1 := blk_frozen BK294.out 1
            go_upto_region 14 with (first | ((with_reducible refine gate_callee (f := 19) rfl ?_); refine goesL_ (some 56) rfl rfl Try.func19 (by kernel_rfl) rfl #[.agg #[.slice Ao30 t288.length co30, .slice Ao34 t291.length co34], .int .i64 1] rfl (by (try simp only [List.map_toArray, List.map_cons, List.map_nil]); first | done | rfl | (simp only [List.length_drop, List.length_take]; rfl)) ?_; (with_reducible refine (laws_markShop.calls kj12 (fun k_ => some k_ = (.slice Ao30 t288.length co30 : Value).ownBlock) (.slice Ao30 t288.length co30) t288 (fun k_ => some k_ = (.slice Ao34 t291.length co34 : Value).ownBlock) (.slice Ao34 t291.length co34) t291 1 t311 t312 t313 w _ ?side1 ?side2 ?side3 A65.out).mono ?_); (case side1 => repeat (first | (with_reducible first | exact HB.out | apply below_alloc | apply pw_below_drewN | apply below_drew1 | refine below_set ?_ GE272.out | refine below_set ?_ GE287.out | refine below_set ?_ GE294.out | refine below_set ?_ GE302.out) | exact HB.out)); (case side2 => exact Kd.R_tight rfl HO_295000.out); (case side3 => exact Kd.R_tight rfl HO_295001.out); rintro e w76 ⟨rfl, hy0, hy1, hb, hkp⟩; refine ⟨_, rfl, ?_⟩; have n0_ := Aside0.mk (Kd.R_mono (ok' := fun k_ => some k_ ≠ (.slice Ao30 t288.length co30 : Value).ownBlock ∧ some k_ ≠ (.slice Ao37 t295.length co37 : Value).ownBlock ∧ some k_ ≠ (.slice Ao69 t304.length co69 : Value).ownBlock) (Kd.R_keptB ((Kd.R_apart' HO_288000.out (Kd.R_typed HO_295001.out) (by decide))) hkp (fun k_ hk_ hs_ => Or.elim hs_ (fun e_ => (hk_.1.1.1) e_) (fun e_ => (hk_.2) e_))) (fun k_ hk_ => ⟨hk_.1.1.1.1, hk_.1.1.1.2, hk_.1.1.2⟩)); have n1_ := Aside0.mk (Kd.R_mono (ok' := fun k_ => some k_ ≠ (.slice Ao34 t291.length co34 : Value).ownBlock ∧ some k_ ≠ (.slice Ao42 t298.length co42 : Value).ownBlock ∧ some k_ ≠ (.slice Ao70 t307.length co70 : Value).ownBlock) (Kd.R_keptB ((Kd.R_apart' HO_288001.out (Kd.R_typed HO_295000.out) (by decide))) hkp (fun k_ hk_ hs_ => Or.elim hs_ (fun e_ => (hk_.2) e_) (fun e_ => (hk_.1.1.1) e_))) (fun k_ hk_ => ⟨hk_.1.1.1.1, hk_.1.1.1.2, hk_.1.1.2⟩)); have n2_ := Aside0.mk (Kd.R_reok rfl hy0 (fun k_ e_ => HO_295000.out.1 k_ e_)); have n3_ := Aside0.mk (Kd.R_reok rfl hy1 (fun k_ e_ => HO_295001.out.1 k_ e_)); have n4_ := Aside0.mk (Kd.R_mono (ok' := fun k_ => some k_ ≠ (.slice Ao23 t280.length co23 : Value).ownBlock ∧ some k_ ≠ (.slice Ao30 t288.length co30 : Value).ownBlock ∧ some k_ ≠ (.slice Ao69 t304.length co69 : Value).ownBlock) (Kd.R_keptB ((Kd.R_apart' HO_303000.out (Kd.R_typed HO_295001.out) (by decide))) hkp (fun k_ hk_ hs_ => Or.elim hs_ (fun e_ => (hk_.1.1.2) e_) (fun e_ => (hk_.2) e_))) (fun k_ hk_ => ⟨hk_.1.1.1.1, hk_.1.1.1.2, hk_.1.1.2⟩)); have n5_ := Aside0.mk (Kd.R_mono (ok' := fun k_ => some k_ ≠ (.slice Ao26 t283.length co26 : Value).ownBlock ∧ some k_ ≠ (.slice Ao34 t291.length co34 : Value).ownBlock ∧ some k_ ≠ (.slice Ao70 t307.length co70 : Value).ownBlock) (Kd.R_keptB ((Kd.R_apart' HO_303001.out (Kd.R_typed HO_295000.out) (by decide))) hkp (fun k_ hk_ hs_ => Or.elim hs_ (fun e_ => (hk_.2) e_) (fun e_ => (hk_.1.1.2) e_))) (fun k_ hk_ => ⟨hk_.1.1.1.1, hk_.1.1.1.2, hk_.1.1.2⟩)); have n6_ := Aside0.mk (blk_kept (by (with_reducible repeat (first | refine blk_drewN ?_ _ | refine blk_drew ?_ | refine blk_alloc ?_ _)); exact BK272.out) hkp (fun hs_ => Or.elim hs_ (fun e_ => (fun e_ => (Kd.R_ne HO_295000.out BK272.out (by decide)) e_) e_) (fun e_ => (fun e_ => (Kd.R_ne HO_295001.out BK272.out (by decide)) e_) e_))); have n7_ := Aside0.mk (blk_kept (by (with_reducible repeat (first | refine blk_drewN ?_ _ | refine blk_drew ?_ | refine blk_alloc ?_ _)); exact BK287.out) hkp (fun hs_ => Or.elim hs_ (fun e_ => (fun e_ => (Kd.R_ne HO_295000.out BK287.out (by decide)) e_) e_) (fun e_ => (fun e_ => (Kd.R_ne HO_295001.out BK287.out (by decide)) e_) e_))); have n8_ := Aside0.mk (blk_kept (by (with_reducible repeat (first | refine blk_drewN ?_ _ | refine blk_drew ?_ | refine blk_alloc ?_ _)); exact BK294.out) hkp (fun hs_ => Or.elim hs_ (fun e_ => (fun e_ => (Kd.R_ne HO_295000.out BK294.out (by decide)) e_) e_) (fun e_ => (fun e_ => (Kd.R_ne HO_295001.out BK294.out (by decide)) e_) e_))); have n9_ := Aside0.mk (blk_kept (by (with_reducible repeat (first | refine blk_drewN ?_ _ | refine blk_drew ?_ | refine blk_alloc ?_ _)); exact BK302.out) hkp (fun hs_ => Or.elim hs_ (fun e_ => (fun e_ => (Kd.R_ne HO_295000.out BK302.out (by decide)) e_) e_) (fun e_ => (fun e_ => (Kd.R_ne HO_295001.out BK302.out (by decide)) e_) e_))); have n10_ := Aside0.mk (Kd.R_mono (ok' := fun k_ => some k_ ≠ (.slice Ao23 t280.length co23 : Value).ownBlock ∧ some k_ ≠ (.slice Ao30 t288.length co30 : Value).ownBlock ∧ some k_ ≠ (.slice Ao37 t295.length co37 : Value).ownBlock) (Kd.R_keptB ((Kd.R_apart' HO306.out (Kd.R_typed HO_295001.out) (by decide))) hkp (fun k_ hk_ hs_ => Or.elim hs_ (fun e_ => (hk_.1.1.2) e_) (fun e_ => (hk_.2) e_))) (fun k_ hk_ => ⟨hk_.1.1.1.1.2, hk_.1.1.1.2, hk_.1.1.2⟩)); have n11_ := Aside0.mk (Kd.R_mono (ok' := fun k_ => some k_ ≠ (.slice Ao26 t283.length co26 : Value).ownBlock ∧ some k_ ≠ (.slice Ao34 t291.length co34 : Value).ownBlock ∧ some k_ ≠ (.slice Ao42 t298.length co42 : Value).ownBlock) (Kd.R_keptB ((Kd.R_apart' HO309.out (Kd.R_typed HO_295000.out) (by decide))) hkp (fun k_ hk_ hs_ => Or.elim hs_ (fun e_ => (hk_.2) e_) (fun e_ => (hk_.1.1.2) e_))) (fun k_ hk_ => ⟨hk_.1.1.1.1.2, hk_.1.1.1.2, hk_.1.1.2⟩)); have n12_ := Aside0.mk (hb); clear HO_288000; clear HO_288001; clear HO_295000; clear HO_295001; clear HO_303000; clear HO_303001; clear BK272; clear BK287; clear BK294; clear BK302; clear HO306; clear HO309; clear HB; have HO_288000 := n0_; have HO_288001 := n1_; have HO_295000 := n2_; have HO_295001 := n3_; have HO_303000 := n4_; have HO_303001 := n5_; have BK272 := n6_; have BK287 := n7_; have BK294 := n8_; have BK302 := n9_; have HO306 := n10_; have HO309 := n11_; have HB := n12_; clear n0_ n1_ n2_ n3_ n4_ n5_ n6_ n7_ n8_ n9_ n10_ n11_ n12_; (try clear hb); (try clear hkp); (try clear hy0); (try clear hy1)))
            (try simp only [Act.put, List.setIfInBounds_toArray, List.set_cons_zero, List.set_cons_succ])
            go_cut [69] (fun v69 wc => ∃ (kq : Nat) (x69_65 : Bool), v69 = .bool x69_65 ∧ Aside0 (laws_FnExactBuyParts.j1 kq a1 a2 t286 x69_65 l0_0 l0_1 t280 t283 t295 t298 = some r) ∧ Aside0 (kq ≤ kj12) ∧ Aside0 (Kd.R (Kd.int .i64) 3 wc w.heap.size (fun k_ => some k_ ≠ ((.slice Ao30 t288.length co30) : Value).ownBlock ∧ some k_ ≠ ((.slice Ao37 t295.length co37) : Value).ownBlock) (.slice Ao23 t280.length co23) t280) ∧ Aside0 (Kd.R k50 50 wc w.heap.size (fun k_ => some k_ ≠ ((.slice Ao34 t291.length co34) : Value).ownBlock ∧ some k_ ≠ ((.slice Ao42 t298.length co42) : Value).ownBlock) (.slice Ao26 t283.length co26) t283) ∧ Aside0 (Kd.R (Kd.int .i64) 3 wc w.heap.size (fun k_ => some k_ ≠ ((.slice Ao23 t280.length co23) : Value).ownBlock ∧ some k_ ≠ ((.slice Ao37 t295.length co37) : Value).ownBlock) (.slice Ao30 t288.length co30) t312) ∧ Aside0 (Kd.R k50 50 wc w.heap.size (fun k_ => some k_ ≠ ((.slice Ao26 t283.length co26) : Value).ownBlock ∧ some k_ ≠ ((.slice Ao42 t298.length co42) : Value).ownBlock) (.slice Ao34 t291.length co34) t313) ∧ Aside0 (Kd.R (Kd.int .i64) 3 wc w.heap.size (fun k_ => some k_ ≠ ((.slice Ao23 t280.length co23) : Value).ownBlock ∧ some k_ ≠ ((.slice Ao30 t288.length co30) : Value).ownBlock) (.slice Ao37 t295.length co37) t295) ∧ Aside0 (Kd.R k50 50 wc w.heap.size (fun k_ => some k_ ≠ ((.slice Ao26 t283.length co26) : Value).ownBlock ∧ some k_ ≠ ((.slice Ao34 t291.length co34) : Value).ownBlock) (.slice Ao42 t298.length co42) t298) ∧ Aside0 (wc.heap[gb272]? = some (.cells #[(.slice A0_0 l0_0.length c0_0), (.slice A0_1 l0_1.length c0_1)] 25 (0, 0))) ∧ Aside0 (wc.heap[gb287]? = some (.cells #[(.slice Ao23 t280.length co23), (.slice Ao26 t283.length co26)] 31 (0, 0))) ∧ Aside0 (wc.heap[gb294]? = some (.cells #[(.slice Ao30 t288.length co30), (.slice Ao34 t291.length co34)] 31 (0, 0))) ∧ Aside0 (wc.heap[gb302]? = some (.cells #[(.slice Ao37 t295.length co37), (.slice Ao42 t298.length co42)] 31 (0, 0))) ∧ Aside0 (Below w.heap.size w wc))
            case first =>
              have H := HC66.out
              clear HC66
              by_cases c77 : t311 < 0
              · rw [if_pos c77] at H
                have c77b0 : decide (t311 < 0) = true := decide_eq_true c77
                clear c77
                (first | rw [c77b0] | (simp only [i64_w, i32_w]; rw [c77b0]) | skip)
                have H' := Aside0.mk H
                clear H
                go_wp2
                go_meet
                case rel => exact ⟨_, (true), (by first | rfl | (simp; done) | (simp [*]; done)), H', ⟨by have := HJ12.out; first | omega | exact Nat.le_refl _⟩, ⟨by (with_reducible repeat (first | apply Kd.R_alloc | apply Kd.R_drewN | apply Kd.R_drew)); exact Kd.R_mono HO_288000.out (fun _ hk => ⟨hk.1, hk.2.1⟩)⟩, ⟨by (with_reducible repeat (first | apply Kd.R_alloc | apply Kd.R_drewN | apply Kd.R_drew)); exact Kd.R_mono HO_288001.out (fun _ hk => ⟨hk.1, hk.2.1⟩)⟩, ⟨by (with_reducible repeat (first | apply Kd.R_alloc | apply Kd.R_drewN | apply Kd.R_drew)); exact Kd.R_mono HO_295000.out (fun _ hk => ⟨hk.1.1, hk.1.2⟩)⟩, ⟨by (with_reducible repeat (first | apply Kd.R_alloc | apply Kd.R_drewN | apply Kd.R_drew)); exact Kd.R_mono HO_295001.out (fun _ hk => ⟨hk.1.1, hk.1.2⟩)⟩, ⟨by (with_reducible repeat (first | apply Kd.R_alloc | apply Kd.R_drewN | apply Kd.R_drew)); exact Kd.R_mono HO_303000.out (fun _ hk => ⟨hk.1, hk.2.1⟩)⟩, ⟨by (with_reducible repeat (first | apply Kd.R_alloc | apply Kd.R_drewN | apply Kd.R_drew)); exact Kd.R_mono HO_303001.out (fun _ hk => ⟨hk.1, hk.2.1⟩)⟩, ⟨by (with_reducible repeat (first | refine blk_drewN ?_ _ | refine blk_drew ?_ | refine blk_alloc ?_ _)); exact BK272.out⟩, ⟨by (with_reducible repeat (first | refine blk_drewN ?_ _ | refine blk_drew ?_ | refine blk_alloc ?_ _)); exact BK287.out⟩, ⟨by (with_reducible repeat (first | refine blk_drewN ?_ _ | refine blk_drew ?_ | refine blk_alloc ?_ _)); exact BK294.out⟩, ⟨by (with_reducible repeat (first | refine blk_drewN ?_ _ | refine blk_drew ?_ | refine blk_alloc ?_ _)); exact BK302.out⟩, ⟨by repeat (first | (with_reducible first | exact HB.out | apply below_alloc | apply pw_below_drewN | apply below_drew1 | refine below_set ?_ GE272.out | refine below_set ?_ GE287.out | refine below_set ?_ GE294.out | refine below_set ?_ GE302.out) | exact HB.out)⟩⟩
              · rw [if_neg c77] at H
                have c77b0 : decide (t311 < 0) = false := decide_eq_false c77
                clear c77
                (first | rw [c77b0] | (simp only [i64_w, i32_w]; rw [c77b0]) | skip)
                replace H := Option.bind_eq_some_iff.mp H
                obtain ⟨t314, A780, H⟩ := H
                replace H : (if t314 = true then (laws_FnExactBuyParts.j1 kj12 a1 a2 t286 (t301 != t286) l0_0 l0_1 t280 t283 t295 t298) else (laws_FnExactBuyParts.j1 kj12 a1 a2 t286 true l0_0 l0_1 t280 t283 t295 t298)) = some r := H
                have A78 := Aside0.mk A780
                clear A780
                by_cases c79 : t314 = true
                · subst c79
                  have H1 : (laws_FnExactBuyParts.j1 kj12 a1 a2 t286 (t301 != t286) l0_0 l0_1 t280 t283 t295 t298) = some r := by rw [if_pos rfl] at H; exact H
                  clear H
                  have H := H1
                  clear H1
                  have H' := Aside0.mk H
                  clear H
                  have hnb80 := NB302_272.out
                  have hnc80 := NB272_302.out
                  have hnb81 := NB302_287.out
                  have hnc81 := NB287_302.out
                  have hnb82 := NB302_294.out
                  have hnc82 := NB294_302.out
                  have hcz83_0 : w76.cell? ⟨gb302, 0, none⟩ = some (.slice Ao37 t295.length co37) := (blk_cell BK302.out 0).trans rfl
                  have hcz83_1 : w76.cell? ⟨gb302, 1, none⟩ = some (.slice Ao42 t298.length co42) := (blk_cell BK302.out 1).trans rfl
                  have hfz83_0 := blk_frozen BK302.out 0
                  have hfz83_1 := blk_frozen BK302.out 1
                  have hnb84 := NB287_272.out
                  have hnc84 := NB272_287.out
                  have hnb85 := NB287_294.out
                  have hnc85 := NB294_287.out
                  have hcz86_0 : w76.cell? ⟨gb287, 0, none⟩ = some (.slice Ao23 t280.length co23) := (blk_cell BK287.out 0).trans rfl
                  have hcz86_1 : w76.cell? ⟨gb287, 1, none⟩ = some (.slice Ao26 t283.length co26) := (blk_cell BK287.out 1).trans rfl
                  have hfz86_0 := blk_frozen BK287.out 0
                  have hfz86_1 := blk_frozen BK287.out 1
                  go_wp2_with (first | (go_at_call 18; (with_reducible refine (laws_eqShop.calls kj12 _ _ t295 _ _ t298 _ _ t280 _ _ t283 true _ ?side1 ?side2 ?side3 ?side4 ?side5 ?side6 ?side7 ?side8 A78.out).mono ?_); (case side1 => repeat (first | exact (Kd.R_reads' HO_303000.out).2.2 | (with_reducible refine Kd.C_alloc ?_ _) | (with_reducible refine Kd.C_drewN ?_ _) | (with_reducible refine Kd.C_drew ?_))); (case side2 => exact (Kd.R_reads' HO_303000.out).2.1); (case side3 => repeat (first | exact (Kd.R_reads' HO_303001.out).2.2 | (with_reducible refine Kd.C_alloc ?_ _) | (with_reducible refine Kd.C_drewN ?_ _) | (with_reducible refine Kd.C_drew ?_))); (case side4 => exact (Kd.R_reads' HO_303001.out).2.1); (case side5 => repeat (first | exact (Kd.R_reads' HO_288000.out).2.2 | (with_reducible refine Kd.C_alloc ?_ _) | (with_reducible refine Kd.C_drewN ?_ _) | (with_reducible refine Kd.C_drew ?_))); (case side6 => exact (Kd.R_reads' HO_288000.out).2.1); (case side7 => repeat (first | exact (Kd.R_reads' HO_288001.out).2.2 | (with_reducible refine Kd.C_alloc ?_ _) | (with_reducible refine Kd.C_drewN ?_ _) | (with_reducible refine Kd.C_drew ?_))); (case side8 => exact (Kd.R_reads' HO_288001.out).2.1); rintro e w87 ⟨rfl, hb⟩; have n0_ := Aside0.mk (Kd.R_below (by (with_reducible repeat (first | apply Kd.R_alloc | apply Kd.R_drewN | apply Kd.R_drew)); exact HO_288000.out) hb); have n1_ := Aside0.mk (Kd.R_below (by (with_reducible repeat (first | apply Kd.R_alloc | apply Kd.R_drewN | apply Kd.R_drew)); exact HO_288001.out) hb); have n2_ := Aside0.mk (Kd.R_below (by (with_reducible repeat (first | apply Kd.R_alloc | apply Kd.R_drewN | apply Kd.R_drew)); exact HO_295000.out) hb); have n3_ := Aside0.mk (Kd.R_below (by (with_reducible repeat (first | apply Kd.R_alloc | apply Kd.R_drewN | apply Kd.R_drew)); exact HO_295001.out) hb); have n4_ := Aside0.mk (Kd.R_below (by (with_reducible repeat (first | apply Kd.R_alloc | apply Kd.R_drewN | apply Kd.R_drew)); exact HO_303000.out) hb); have n5_ := Aside0.mk (Kd.R_below (by (with_reducible repeat (first | apply Kd.R_alloc | apply Kd.R_drewN | apply Kd.R_drew)); exact HO_303001.out) hb); have n6_ := Aside0.mk (Kd.R_below (by (with_reducible repeat (first | apply Kd.R_alloc | apply Kd.R_drewN | apply Kd.R_drew)); exact HO306.out) hb); have n7_ := Aside0.mk (Kd.R_below (by (with_reducible repeat (first | apply Kd.R_alloc | apply Kd.R_drewN | apply Kd.R_drew)); exact HO309.out) hb); have n8_ := Aside0.mk (blk_below (g := gb272) (o := .cells #[.slice A0_0 l0_0.length c0_0, .slice A0_1 l0_1.length c0_1] 25 (0, 0)) (by (with_reducible repeat (first | refine blk_drewN ?_ _ | refine blk_drew ?_ | refine blk_alloc ?_ _)); exact BK272.out) hb); have n9_ := Aside0.mk (blk_below (g := gb287) (o := .cells #[.slice Ao23 t280.length co23, .slice Ao26 t283.length co26] 31 (0, 0)) (by (with_reducible repeat (first | refine blk_drewN ?_ _ | refine blk_drew ?_ | refine blk_alloc ?_ _)); exact BK287.out) hb); have n10_ := Aside0.mk (blk_below (g := gb294) (o := .cells #[.slice Ao30 t288.length co30, .slice Ao34 t291.length co34] 31 (0, 0)) (by (with_reducible repeat (first | refine blk_drewN ?_ _ | refine blk_drew ?_ | refine blk_alloc ?_ _)); exact BK294.out) hb); have n11_ := Aside0.mk (blk_below (g := gb302) (o := .cells #[.slice Ao37 t295.length co37, .slice Ao42 t298.length co42] 31 (0, 0)) (by (with_reducible repeat (first | refine blk_drewN ?_ _ | refine blk_drew ?_ | refine blk_alloc ?_ _)); exact BK302.out) hb); have n12_ := Aside0.mk (below_step (by repeat (first | (with_reducible first | exact HB.out | apply below_alloc | apply pw_below_drewN | apply below_drew1 | refine below_set ?_ GE272.out | refine below_set ?_ GE287.out | refine below_set ?_ GE294.out | refine below_set ?_ GE302.out) | exact HB.out)) hb); clear HO_288000; clear HO_288001; clear HO_295000; clear HO_295001; clear HO_303000; clear HO_303001; clear HO306; clear HO309; clear BK272; clear BK287; clear BK294; clear BK302; clear HB; have HO_288000 := n0_; have HO_288001 := n1_; have HO_295000 := n2_; have HO_295001 := n3_; have HO_303000 := n4_; have HO_303001 := n5_; have HO306 := n6_; have HO309 := n7_; have BK272 := n8_; have BK287 := n9_; have BK294 := n10_; have BK302 := n11_; have HB := n12_; clear n0_ n1_ n2_ n3_ n4_ n5_ n6_ n7_ n8_ n9_ n10_ n11_ n12_; (try clear hb); (try clear hb2); (try clear hk); (try clear hi)))
                  go_meet
                  case rel => exact ⟨_, ((t301 != t286)), (by first | rfl | (simp; done) | (simp [*]; done)), H', ⟨by have := HJ12.out; first | omega | exact Nat.le_refl _⟩, ⟨by (with_reducible repeat (first | apply Kd.R_alloc | apply Kd.R_drewN | apply Kd.R_drew)); exact Kd.R_mono HO_288000.out (fun _ hk => ⟨hk.1, hk.2.1⟩)⟩, ⟨by (with_reducible repeat (first | apply Kd.R_alloc | apply Kd.R_drewN | apply Kd.R_drew)); exact Kd.R_mono HO_288001.out (fun _ hk => ⟨hk.1, hk.2.1⟩)⟩, ⟨by (with_reducible repeat (first | apply Kd.R_alloc | apply Kd.R_drewN | apply Kd.R_drew)); exact Kd.R_mono HO_295000.out (fun _ hk => ⟨hk.1.1, hk.1.2⟩)⟩, ⟨by (with_reducible repeat (first | apply Kd.R_alloc | apply Kd.R_drewN | apply Kd.R_drew)); exact Kd.R_mono HO_295001.out (fun _ hk => ⟨hk.1.1, hk.1.2⟩)⟩, ⟨by (with_reducible repeat (first | apply Kd.R_alloc | apply Kd.R_drewN | apply Kd.R_drew)); exact Kd.R_mono HO_303000.out (fun _ hk => ⟨hk.1, hk.2.1⟩)⟩, ⟨by (with_reducible repeat (first | apply Kd.R_alloc | apply Kd.R_drewN | apply Kd.R_drew)); exact Kd.R_mono HO_303001.out (fun _ hk => ⟨hk.1, hk.2.1⟩)⟩, ⟨by (with_reducible repeat (first | refine blk_drewN ?_ _ | refine blk_drew ?_ | refine blk_alloc ?_ _)); exact BK272.out⟩, ⟨by (with_reducible repeat (first | refine blk_drewN ?_ _ | refine blk_drew ?_ | refine blk_alloc ?_ _)); exact BK287.out⟩, ⟨by (with_reducible repeat (first | refine blk_drewN ?_ _ | refine blk_drew ?_ | refine blk_alloc ?_ _)); exact BK294.out⟩, ⟨by (with_reducible repeat (first | refine blk_drewN ?_ _ | refine blk_drew ?_ | refine blk_alloc ?_ _)); exact BK302.out⟩, ⟨by repeat (first | (with_reducible first | exact HB.out | apply below_alloc | apply pw_below_drewN | apply below_drew1 | refine below_set ?_ GE272.out | refine below_set ?_ GE287.out | refine below_set ?_ GE294.out | refine below_set ?_ GE302.out) | exact HB.out)⟩⟩
                · replace c79 := Bool.eq_false_iff.mpr c79
                  subst c79
                  have H1 : (laws_FnExactBuyParts.j1 kj12 a1 a2 t286 true l0_0 l0_1 t280 t283 t295 t298) = some r := by rw [if_neg (show ¬ (false = true) by decide)] at H; exact H
                  clear H
                  have H := H1
                  clear H1
                  have H' := Aside0.mk H
                  clear H
                  have hnb88 := NB302_272.out
                  have hnc88 := NB272_302.out
                  have hnb89 := NB302_287.out
                  have hnc89 := NB287_302.out
                  have hnb90 := NB302_294.out
                  have hnc90 := NB294_302.out
                  have hcz91_0 : w76.cell? ⟨gb302, 0, none⟩ = some (.slice Ao37 t295.length co37) := (blk_cell BK302.out 0).trans rfl
                  have hcz91_1 : w76.cell? ⟨gb302, 1, none⟩ = some (.slice Ao42 t298.length co42) := (blk_cell BK302.out 1).trans rfl
                  have hfz91_0 := blk_frozen BK302.out 0
                  have hfz91_1 := blk_frozen BK302.out 1
                  have hnb92 := NB287_272.out
                  have hnc92 := NB272_287.out
                  have hnb93 := NB287_294.out
                  have hnc93 := NB294_287.out
                  have hcz94_0 : w76.cell? ⟨gb287, 0, none⟩ = some (.slice Ao23 t280.length co23) := (blk_cell BK287.out 0).trans rfl
                  have hcz94_1 : w76.cell? ⟨gb287, 1, none⟩ = some (.slice Ao26 t283.length co26) := (blk_cell BK287.out 1).trans rfl
                  have hfz94_0 := blk_frozen BK287.out 0
                  have hfz94_1 := blk_frozen BK287.out 1
                  go_wp2_with (first | (go_at_call 18; (with_reducible refine (laws_eqShop.calls kj12 _ _ t295 _ _ t298 _ _ t280 _ _ t283 false _ ?side1 ?side2 ?side3 ?side4 ?side5 ?side6 ?side7 ?side8 A78.out).mono ?_); (case side1 => repeat (first | exact (Kd.R_reads' HO_303000.out).2.2 | (with_reducible refine Kd.C_alloc ?_ _) | (with_reducible refine Kd.C_drewN ?_ _) | (with_reducible refine Kd.C_drew ?_))); (case side2 => exact (Kd.R_reads' HO_303000.out).2.1); (case side3 => repeat (first | exact (Kd.R_reads' HO_303001.out).2.2 | (with_reducible refine Kd.C_alloc ?_ _) | (with_reducible refine Kd.C_drewN ?_ _) | (with_reducible refine Kd.C_drew ?_))); (case side4 => exact (Kd.R_reads' HO_303001.out).2.1); (case side5 => repeat (first | exact (Kd.R_reads' HO_288000.out).2.2 | (with_reducible refine Kd.C_alloc ?_ _) | (with_reducible refine Kd.C_drewN ?_ _) | (with_reducible refine Kd.C_drew ?_))); (case side6 => exact (Kd.R_reads' HO_288000.out).2.1); (case side7 => repeat (first | exact (Kd.R_reads' HO_288001.out).2.2 | (with_reducible refine Kd.C_alloc ?_ _) | (with_reducible refine Kd.C_drewN ?_ _) | (with_reducible refine Kd.C_drew ?_))); (case side8 => exact (Kd.R_reads' HO_288001.out).2.1); rintro e w95 ⟨rfl, hb⟩; have n0_ := Aside0.mk (Kd.R_below (by (with_reducible repeat (first | apply Kd.R_alloc | apply Kd.R_drewN | apply Kd.R_drew)); exact HO_288000.out) hb); have n1_ := Aside0.mk (Kd.R_below (by (with_reducible repeat (first | apply Kd.R_alloc | apply Kd.R_drewN | apply Kd.R_drew)); exact HO_288001.out) hb); have n2_ := Aside0.mk (Kd.R_below (by (with_reducible repeat (first | apply Kd.R_alloc | apply Kd.R_drewN | apply Kd.R_drew)); exact HO_295000.out) hb); have n3_ := Aside0.mk (Kd.R_below (by (with_reducible repeat (first | apply Kd.R_alloc | apply Kd.R_drewN | apply Kd.R_drew)); exact HO_295001.out) hb); have n4_ := Aside0.mk (Kd.R_below (by (with_reducible repeat (first | apply Kd.R_alloc | apply Kd.R_drewN | apply Kd.R_drew)); exact HO_303000.out) hb); have n5_ := Aside0.mk (Kd.R_below (by (with_reducible repeat (first | apply Kd.R_alloc | apply Kd.R_drewN | apply Kd.R_drew)); exact HO_303001.out) hb); have n6_ := Aside0.mk (Kd.R_below (by (with_reducible repeat (first | apply Kd.R_alloc | apply Kd.R_drewN | apply Kd.R_drew)); exact HO306.out) hb); have n7_ := Aside0.mk (Kd.R_below (by (with_reducible repeat (first | apply Kd.R_alloc | apply Kd.R_drewN | apply Kd.R_drew)); exact HO309.out) hb); have n8_ := Aside0.mk (blk_below (g := gb272) (o := .cells #[.slice A0_0 l0_0.length c0_0, .slice A0_1 l0_1.length c0_1] 25 (0, 0)) (by (with_reducible repeat (first | refine blk_drewN ?_ _ | refine blk_drew ?_ | refine blk_alloc ?_ _)); exact BK272.out) hb); have n9_ := Aside0.mk (blk_below (g := gb287) (o := .cells #[.slice Ao23 t280.length co23, .slice Ao26 t283.length co26] 31 (0, 0)) (by (with_reducible repeat (first | refine blk_drewN ?_ _ | refine blk_drew ?_ | refine blk_alloc ?_ _)); exact BK287.out) hb); have n10_ := Aside0.mk (blk_below (g := gb294) (o := .cells #[.slice Ao30 t288.length co30, .slice Ao34 t291.length co34] 31 (0, 0)) (by (with_reducible repeat (first | refine blk_drewN ?_ _ | refine blk_drew ?_ | refine blk_alloc ?_ _)); exact BK294.out) hb); have n11_ := Aside0.mk (blk_below (g := gb302) (o := .cells #[.slice Ao37 t295.length co37, .slice Ao42 t298.length co42] 31 (0, 0)) (by (with_reducible repeat (first | refine blk_drewN ?_ _ | refine blk_drew ?_ | refine blk_alloc ?_ _)); exact BK302.out) hb); have n12_ := Aside0.mk (below_step (by repeat (first | (with_reducible first | exact HB.out | apply below_alloc | apply pw_below_drewN | apply below_drew1 | refine below_set ?_ GE272.out | refine below_set ?_ GE287.out | refine below_set ?_ GE294.out | refine below_set ?_ GE302.out) | exact HB.out)) hb); clear HO_288000; clear HO_288001; clear HO_295000; clear HO_295001; clear HO_303000; clear HO_303001; clear HO306; clear HO309; clear BK272; clear BK287; clear BK294; clear BK302; clear HB; have HO_288000 := n0_; have HO_288001 := n1_; have HO_295000 := n2_; have HO_295001 := n3_; have HO_303000 := n4_; have HO_303001 := n5_; have HO306 := n6_; have HO309 := n7_; have BK272 := n8_; have BK287 := n9_; have BK294 := n10_; have BK302 := n11_; have HB := n12_; clear n0_ n1_ n2_ n3_ n4_ n5_ n6_ n7_ n8_ n9_ n10_ n11_ n12_; (try clear hb); (try clear hb2); (try clear hk); (try clear hi)))
                  go_meet
                  case rel => exact ⟨_, (true), (by first | rfl | (simp; done) | (simp [*]; done)), H', ⟨by have := HJ12.out; first | omega | exact Nat.le_refl _⟩, ⟨by (with_reducible repeat (first | apply Kd.R_alloc | apply Kd.R_drewN | apply Kd.R_drew)); exact Kd.R_mono HO_288000.out (fun _ hk => ⟨hk.1, hk.2.1⟩)⟩, ⟨by (with_reducible repeat (first | apply Kd.R_alloc | apply Kd.R_drewN | apply Kd.R_drew)); exact Kd.R_mono HO_288001.out (fun _ hk => ⟨hk.1, hk.2.1⟩)⟩, ⟨by (with_reducible repeat (first | apply Kd.R_alloc | apply Kd.R_drewN | apply Kd.R_drew)); exact Kd.R_mono HO_295000.out (fun _ hk => ⟨hk.1.1, hk.1.2⟩)⟩, ⟨by (with_reducible repeat (first | apply Kd.R_alloc | apply Kd.R_drewN | apply Kd.R_drew)); exact Kd.R_mono HO_295001.out (fun _ hk => ⟨hk.1.1, hk.1.2⟩)⟩, ⟨by (with_reducible repeat (first | apply Kd.R_alloc | apply Kd.R_drewN | apply Kd.R_drew)); exact Kd.R_mono HO_303000.out (fun _ hk => ⟨hk.1, hk.2.1⟩)⟩, ⟨by (with_reducible repeat (first | apply Kd.R_alloc | apply Kd.R_drewN | apply Kd.R_drew)); exact Kd.R_mono HO_303001.out (fun _ hk => ⟨hk.1, hk.2.1⟩)⟩, ⟨by (with_reducible repeat (first | refine blk_drewN ?_ _ | refine blk_drew ?_ | refine blk_alloc ?_ _)); exact BK272.out⟩, ⟨by (with_reducible repeat (first | refine blk_drewN ?_ _ | refine blk_drew ?_ | refine blk_alloc ?_ _)); exact BK287.out⟩, ⟨by (with_reducible repeat (first | refine blk_drewN ?_ _ | refine blk_drew ?_ | refine blk_alloc ?_ _)); exact BK294.out⟩, ⟨by (with_reducible repeat (first | refine blk_drewN ?_ _ | refine blk_drew ?_ | refine blk_alloc ?_ _)); exact BK302.out⟩, ⟨by repeat (first | (with_reducible first | exact HB.out | apply below_alloc | apply pw_below_drewN | apply below_drew1 | refine below_set ?_ GE272.out | refine below_set ?_ GE287.out | refine below_set ?_ GE294.out | refine below_set ?_ GE302.out) | exact HB.out)⟩⟩
            case rest =>
              clear HC66
              try clear c1
              try clear c2
              try clear p2
              try clear c3
              try clear c4
              try clear c5
              try clear c5b0
              try clear c6
              try clear c7
              try clear c8
              try clear c9
              try clear c13
              try clear c15
              try clear c18
              try clear c19
              try clear c24
              try clear c31
              try clear c32
              try clear c33
              try clear c34
              try clear c38
              try clear c39
              try clear c40
              try clear c44
              try clear c45
              try clear c46
              try clear c47
              try clear c49
              try clear c50
              try clear c53
              try clear c54
              try clear c55
              try clear c57
              try clear c58
              try clear c61
              try clear c64
              try clear c72
              try clear c73
              try clear c74
              try clear c77
              try clear c77b0
              try clear c79
              try clear c80
              try clear c81
              try clear c82
              try clear c84
              try clear c85
              try clear c88
              try clear c89
              try clear c90
              try clear c92
              try clear c93
              try clear hcz15_0
              try clear hcz15_1
              try clear hcz17_0
              try clear hcz17_1
              try clear hcz25_0
              try clear hcz25_1
              try clear hcz27_0
              try clear hcz27_1
              try clear hcz33_0
              try clear hcz33_1
              try clear hcz41_0
              try clear hcz41_1
              try clear hcz48_0
              try clear hcz48_1
              try clear hcz51_0
              try clear hcz51_1
              try clear hcz56_0
              try clear hcz56_1
              try clear hcz59_0
              try clear hcz59_1
              try clear hcz75_0
              try clear hcz75_1
              try clear hcz7_0
              try clear hcz7_1
              try clear hcz83_0
              try clear hcz83_1
              try clear hcz86_0
              try clear hcz86_1
              try clear hcz91_0
              try clear hcz91_1
              try clear hcz94_0
              try clear hcz94_1
              try clear hfz15_0
              try clear hfz15_1
              try clear hfz17_0
              try clear hfz17_1
              try clear hfz25_0
              try clear hfz25_1
              try clear hfz27_0
              try clear hfz27_1
              try clear hfz33_0
              try clear hfz33_1
              try clear hfz41_0
              try clear hfz41_1
              try clear hfz48_0
              try clear hfz48_1
              try clear hfz51_0
              try clear hfz51_1
              try clear hfz56_0
              try clear hfz56_1
              try clear hfz59_0
              try clear hfz59_1
              try clear hfz75_0
              try clear hfz75_1
              try clear hfz7_0
              try clear hfz7_1
              try clear hfz83_0
              try clear hfz83_1
              try clear hfz86_0
              try clear hfz86_1
              try clear hfz91_0
              try clear hfz91_1
              try clear hfz94_0
              try clear hfz94_1
              try clear p2
              obtain ⟨kq, x69_65, rfl, HA, HJ65, HO_288000, HO_288001, HO_295000, HO_295001, HO_303000, HO_303001, BK272, BK287, BK294, BK302, HB⟩ := hcut
              have hl295000_65 := (Kd.R_reads' HO_295000.out).1
              rw [hl295000_65] at HO_295000
              (try simp only [hl295000_65])
              (try simp only [hl295000_65] at BK272)
              (try simp only [hl295000_65] at BK287)
              (try simp only [hl295000_65] at BK294)
              (try simp only [hl295000_65] at BK302)
              (try simp only [hl295000_65] at HO_288000)
              (try simp only [hl295000_65] at HO_288001)
              (try simp only [hl295000_65] at HO_295001)
              (try simp only [hl295000_65] at HO_303000)
              (try simp only [hl295000_65] at HO_303001)
              have hl295001_65 := (Kd.R_reads' HO_295001.out).1
              rw [hl295001_65] at HO_295001
              (try simp only [hl295001_65])
              (try simp only [hl295001_65] at BK272)
              (try simp only [hl295001_65] at BK287)
              (try simp only [hl295001_65] at BK294)
              (try simp only [hl295001_65] at BK302)
              (try simp only [hl295001_65] at HO_288000)
              (try simp only [hl295001_65] at HO_288001)
              (try simp only [hl295001_65] at HO_295000)
              (try simp only [hl295001_65] at HO_303000)
              (try simp only [hl295001_65] at HO_303001)
              cases kq with
              | zero => exact absurd HA.out (by simp [laws_FnExactBuyParts.j1])
              | succ kj65 =>
                have H := HA.out
                clear HA
                simp only [laws_FnExactBuyParts.j1] at H
                by_cases c96 : x69_65 = true
                · subst c96
                  have H1 : (some false) = some r := by rw [if_pos rfl] at H; exact H
                  clear H
                  have H := H1
                  clear H1
                  obtain rfl := Option.some.inj H
                  go_wp2
                  go_ret
                  exact ⟨by first | rfl | (simp [errW_none, errW_some] <;> rfl) | (simp [*, errW_none, errW_some] <;> rfl), by repeat (first | (with_reducible first | exact HB.out | apply below_alloc | apply pw_below_drewN | apply below_drew1 | refine below_set ?_ GE272.out | refine below_set ?_ GE287.out | refine below_set ?_ GE294.out | refine below_set ?_ GE302.out) | exact HB.out)⟩
                · replace c96 := Bool.eq_false_iff.mpr c96
                  subst c96
                  have H1 : ((laws_markShop.f kj65 t295 t298 1).bind fun bt315 => ((laws_heldShop.f kj65 bt315.2.1 bt315.2.2 1).bind fun t318 => (if t318 < 0 then (some false) else (if t318 = bt315.1 then ((laws_toShop.f kj65 l0_0 l0_1).bind fun bt319 => ((impl_BuyParts.f kj65 bt319.1 bt319.2 a1 a2).bind fun bt325 => ((laws_eqShop.f kj65 bt325.1 bt325.2.1 t280 t283).bind fun t333 => (if t333 = true then (laws_FnExactBuyParts.j2 kj65 bt315.1 (bt325.2.2 != t286) bt315.2.1 bt315.2.2) else (laws_FnExactBuyParts.j2 kj65 bt315.1 true bt315.2.1 bt315.2.2))))) else (some false))))) = some r := by rw [if_neg (show ¬ (false = true) by decide)] at H; exact H
                  clear H
                  have H := H1
                  clear H1
                  replace H := Option.bind_eq_some_iff.mp H
                  obtain ⟨⟨t315, t316, t317⟩, A970, H⟩ := H
                  replace H : ((laws_heldShop.f kj65 t316 t317 1).bind fun t318 => (if t318 < 0 then (some false) else (if t318 = t315 then ((laws_toShop.f kj65 l0_0 l0_1).bind fun bt319 => ((impl_BuyParts.f kj65 bt319.1 bt319.2 a1 a2).bind fun bt325 => ((laws_eqShop.f kj65 bt325.1 bt325.2.1 t280 t283).bind fun t333 => (if t333 = true then (laws_FnExactBuyParts.j2 kj65 t315 (bt325.2.2 != t286) t316 t317) else (laws_FnExactBuyParts.j2 kj65 t315 true t316 t317))))) else (some false)))) = some r := H
                  have A97 := Aside0.mk A970
                  clear A970
                  replace H := Option.bind_eq_some_iff.mp H
                  obtain ⟨t318, A980, H⟩ := H
                  replace H : (if t318 < 0 then (some false) else (if t318 = t315 then ((laws_toShop.f kj65 l0_0 l0_1).bind fun bt319 => ((impl_BuyParts.f kj65 bt319.1 bt319.2 a1 a2).bind fun bt325 => ((laws_eqShop.f kj65 bt325.1 bt325.2.1 t280 t283).bind fun t333 => (if t333 = true then (laws_FnExactBuyParts.j2 kj65 t315 (bt325.2.2 != t286) t316 t317) else (laws_FnExactBuyParts.j2 kj65 t315 true t316 t317))))) else (some false))) = some r := H
                  have A98 := Aside0.mk A980
                  clear A980
                  by_cases c99 : t318 < 0
                  · rw [if_pos c99] at H
                    have c99b0 : decide (t318 < 0) = true := decide_eq_true c99
                    clear c99
                    obtain rfl := Option.some.inj H
                    have hnb100 := NB302_272.out
                    have hnc100 := NB272_302.out
                    have hnb101 := NB302_287.out
                    have hnc101 := NB287_302.out
                    have hnb102 := NB302_294.out
                    have hnc102 := NB294_302.out
                    have hcz103_0 : wc.cell? ⟨gb302, 0, none⟩ = some (.slice Ao37 t295.length co37) := (blk_cell BK302.out 0).trans rfl
                    have hcz103_1 : wc.cell? ⟨gb302, 1, none⟩ = some (.slice Ao42 t298.length co42) := (blk_cell BK302.out 1).trans rfl
                    have hfz103_0 := blk_frozen BK302.out 0
                    have hfz103_1 := blk_frozen BK302.out 1
                    go_wp2_with (first | ((with_reducible refine gate_callee (f := 19) rfl ?_); refine goesL_ (some 72) rfl rfl Try.func19 (by kernel_rfl) rfl #[.agg #[.slice Ao37 t295.length co37, .slice Ao42 t298.length co42], .int .i64 1] rfl (by (try simp only [List.map_toArray, List.map_cons, List.map_nil]); first | done | rfl | (simp only [List.length_drop, List.length_take]; rfl)) ?_; (with_reducible refine (laws_markShop.calls kj65 (fun k_ => some k_ = (.slice Ao37 t295.length co37 : Value).ownBlock) (.slice Ao37 t295.length co37) t295 (fun k_ => some k_ = (.slice Ao42 t298.length co42 : Value).ownBlock) (.slice Ao42 t298.length co42) t298 1 t315 t316 t317 w _ ?side1 ?side2 ?side3 A97.out).mono ?_); (case side1 => repeat (first | (with_reducible first | exact HB.out | apply below_alloc | apply pw_below_drewN | apply below_drew1 | refine below_set ?_ GE272.out | refine below_set ?_ GE287.out | refine below_set ?_ GE294.out | refine below_set ?_ GE302.out) | exact HB.out)); (case side2 => exact Kd.R_tight rfl HO_303000.out); (case side3 => exact Kd.R_tight rfl HO_303001.out); rintro e w104 ⟨rfl, hy0, hy1, hb, hkp⟩; refine ⟨_, rfl, ?_⟩; have n0_ := Aside0.mk (Kd.R_mono (ok' := fun k_ => some k_ ≠ (.slice Ao30 t312.length co30 : Value).ownBlock ∧ some k_ ≠ (.slice Ao37 t295.length co37 : Value).ownBlock) (Kd.R_keptB ((Kd.R_apart' HO_288000.out (Kd.R_typed HO_303001.out) (by decide))) hkp (fun k_ hk_ hs_ => Or.elim hs_ (fun e_ => (hk_.1.2) e_) (fun e_ => (hk_.2) e_))) (fun k_ hk_ => ⟨hk_.1.1.1, hk_.1.1.2⟩)); have n1_ := Aside0.mk (Kd.R_mono (ok' := fun k_ => some k_ ≠ (.slice Ao34 t313.length co34 : Value).ownBlock ∧ some k_ ≠ (.slice Ao42 t298.length co42 : Value).ownBlock) (Kd.R_keptB ((Kd.R_apart' HO_288001.out (Kd.R_typed HO_303000.out) (by decide))) hkp (fun k_ hk_ hs_ => Or.elim hs_ (fun e_ => (hk_.2) e_) (fun e_ => (hk_.1.2) e_))) (fun k_ hk_ => ⟨hk_.1.1.1, hk_.1.1.2⟩)); have n2_ := Aside0.mk (Kd.R_mono (ok' := fun k_ => some k_ ≠ (.slice Ao23 t280.length co23 : Value).ownBlock ∧ some k_ ≠ (.slice Ao37 t295.length co37 : Value).ownBlock) (Kd.R_keptB ((Kd.R_apart' HO_295000.out (Kd.R_typed HO_303001.out) (by decide))) hkp (fun k_ hk_ hs_ => Or.elim hs_ (fun e_ => (hk_.1.2) e_) (fun e_ => (hk_.2) e_))) (fun k_ hk_ => ⟨hk_.1.1.1, hk_.1.1.2⟩)); have n3_ := Aside0.mk (Kd.R_mono (ok' := fun k_ => some k_ ≠ (.slice Ao26 t283.length co26 : Value).ownBlock ∧ some k_ ≠ (.slice Ao42 t298.length co42 : Value).ownBlock) (Kd.R_keptB ((Kd.R_apart' HO_295001.out (Kd.R_typed HO_303000.out) (by decide))) hkp (fun k_ hk_ hs_ => Or.elim hs_ (fun e_ => (hk_.2) e_) (fun e_ => (hk_.1.2) e_))) (fun k_ hk_ => ⟨hk_.1.1.1, hk_.1.1.2⟩)); have n4_ := Aside0.mk (Kd.R_reok rfl hy0 (fun k_ e_ => HO_303000.out.1 k_ e_)); have n5_ := Aside0.mk (Kd.R_reok rfl hy1 (fun k_ e_ => HO_303001.out.1 k_ e_)); have n6_ := Aside0.mk (blk_kept (by (with_reducible repeat (first | refine blk_drewN ?_ _ | refine blk_drew ?_ | refine blk_alloc ?_ _)); exact BK272.out) hkp (fun hs_ => Or.elim hs_ (fun e_ => (fun e_ => (Kd.R_ne HO_303000.out BK272.out (by decide)) e_) e_) (fun e_ => (fun e_ => (Kd.R_ne HO_303001.out BK272.out (by decide)) e_) e_))); have n7_ := Aside0.mk (blk_kept (by (with_reducible repeat (first | refine blk_drewN ?_ _ | refine blk_drew ?_ | refine blk_alloc ?_ _)); exact BK287.out) hkp (fun hs_ => Or.elim hs_ (fun e_ => (fun e_ => (Kd.R_ne HO_303000.out BK287.out (by decide)) e_) e_) (fun e_ => (fun e_ => (Kd.R_ne HO_303001.out BK287.out (by decide)) e_) e_))); have n8_ := Aside0.mk (blk_kept (by (with_reducible repeat (first | refine blk_drewN ?_ _ | refine blk_drew ?_ | refine blk_alloc ?_ _)); exact BK294.out) hkp (fun hs_ => Or.elim hs_ (fun e_ => (fun e_ => (Kd.R_ne HO_303000.out BK294.out (by decide)) e_) e_) (fun e_ => (fun e_ => (Kd.R_ne HO_303001.out BK294.out (by decide)) e_) e_))); have n9_ := Aside0.mk (blk_kept (by (with_reducible repeat (first | refine blk_drewN ?_ _ | refine blk_drew ?_ | refine blk_alloc ?_ _)); exact BK302.out) hkp (fun hs_ => Or.elim hs_ (fun e_ => (fun e_ => (Kd.R_ne HO_303000.out BK302.out (by decide)) e_) e_) (fun e_ => (fun e_ => (Kd.R_ne HO_303001.out BK302.out (by decide)) e_) e_))); have n10_ := Aside0.mk (hb); clear HO_288000; clear HO_288001; clear HO_295000; clear HO_295001; clear HO_303000; clear HO_303001; clear BK272; clear BK287; clear BK294; clear BK302; clear HB; have HO_288000 := n0_; have HO_288001 := n1_; have HO_295000 := n2_; have HO_295001 := n3_; have HO_303000 := n4_; have HO_303001 := n5_; have BK272 := n6_; have BK287 := n7_; have BK294 := n8_; have BK302 := n9_; have HB := n10_; clear n0_ n1_ n2_ n3_ n4_ n5_ n6_ n7_ n8_ n9_ n10_; (try clear hb); (try clear hkp); (try clear hy0); (try clear hy1); have hcz105_0 : w104.cell? ⟨gb302, 0, none⟩ = some (.slice Ao37 t295.length co37) := (blk_cell BK302.out 0).trans rfl; have hcz105_1 : w104.cell? ⟨gb302, 1, none⟩ = some (.slice Ao42 t298.length co42) := (blk_cell BK302.out 1).trans rfl; have hfz105_0 := blk_frozen BK302.out 0; have hfz105_1 := blk_frozen BK302.out 1) | ((with_reducible refine gate_callee (f := 30) rfl ?_); refine goesL_ (some 75) rfl rfl Try.func30 (by kernel_rfl) rfl #[.agg #[.slice Ao37 t316.length co37, .slice Ao42 t317.length co42], .int .i64 1] rfl (by (try simp only [List.map_toArray, List.map_cons, List.map_nil]); first | done | (rw [show t316.length = t295.length from (Kd.R_reads' HO_303000.out).1.symm, show t317.length = t298.length from (Kd.R_reads' HO_303001.out).1.symm] <;> rfl) | rfl | (simp only [List.length_drop, List.length_take]; rfl)) ?_; (with_reducible refine (laws_heldShop.calls kj65 _ _ t316 _ _ t317 1 t318 _ ?side1 ?side2 ?side3 ?side4 A98.out).mono ?_); (case side1 => repeat (first | exact (Kd.R_reads' HO_303000.out).2.2 | (with_reducible refine Kd.C_alloc ?_ _) | (with_reducible refine Kd.C_drewN ?_ _) | (with_reducible refine Kd.C_drew ?_))); (case side2 => rw [show t316.length = t295.length from (Kd.R_reads' HO_303000.out).1.symm]; exact (Kd.R_reads' HO_303000.out).2.1); (case side3 => repeat (first | exact (Kd.R_reads' HO_303001.out).2.2 | (with_reducible refine Kd.C_alloc ?_ _) | (with_reducible refine Kd.C_drewN ?_ _) | (with_reducible refine Kd.C_drew ?_))); (case side4 => rw [show t317.length = t298.length from (Kd.R_reads' HO_303001.out).1.symm]; exact (Kd.R_reads' HO_303001.out).2.1); rintro e w106 ⟨rfl, hb⟩; refine ⟨_, rfl, ?_⟩; have n0_ := Aside0.mk (Kd.R_below (by (with_reducible repeat (first | apply Kd.R_alloc | apply Kd.R_drewN | apply Kd.R_drew)); exact HO_288000.out) hb); have n1_ := Aside0.mk (Kd.R_below (by (with_reducible repeat (first | apply Kd.R_alloc | apply Kd.R_drewN | apply Kd.R_drew)); exact HO_288001.out) hb); have n2_ := Aside0.mk (Kd.R_below (by (with_reducible repeat (first | apply Kd.R_alloc | apply Kd.R_drewN | apply Kd.R_drew)); exact HO_295000.out) hb); have n3_ := Aside0.mk (Kd.R_below (by (with_reducible repeat (first | apply Kd.R_alloc | apply Kd.R_drewN | apply Kd.R_drew)); exact HO_295001.out) hb); have n4_ := Aside0.mk (Kd.R_below (by (with_reducible repeat (first | apply Kd.R_alloc | apply Kd.R_drewN | apply Kd.R_drew)); exact HO_303000.out) hb); have n5_ := Aside0.mk (Kd.R_below (by (with_reducible repeat (first | apply Kd.R_alloc | apply Kd.R_drewN | apply Kd.R_drew)); exact HO_303001.out) hb); have n6_ := Aside0.mk (blk_below (g := gb272) (o := .cells #[.slice A0_0 l0_0.length c0_0, .slice A0_1 l0_1.length c0_1] 25 (0, 0)) (by (with_reducible repeat (first | refine blk_drewN ?_ _ | refine blk_drew ?_ | refine blk_alloc ?_ _)); exact BK272.out) hb); have n7_ := Aside0.mk (blk_below (g := gb287) (o := .cells #[.slice Ao23 t280.length co23, .slice Ao26 t283.length co26] 31 (0, 0)) (by (with_reducible repeat (first | refine blk_drewN ?_ _ | refine blk_drew ?_ | refine blk_alloc ?_ _)); exact BK287.out) hb); have n8_ := Aside0.mk (blk_below (g := gb294) (o := .cells #[.slice Ao30 t312.length co30, .slice Ao34 t313.length co34] 31 (0, 0)) (by (with_reducible repeat (first | refine blk_drewN ?_ _ | refine blk_drew ?_ | refine blk_alloc ?_ _)); exact BK294.out) hb); have n9_ := Aside0.mk (blk_below (g := gb302) (o := .cells #[.slice Ao37 t295.length co37, .slice Ao42 t298.length co42] 31 (0, 0)) (by (with_reducible repeat (first | refine blk_drewN ?_ _ | refine blk_drew ?_ | refine blk_alloc ?_ _)); exact BK302.out) hb); have n10_ := Aside0.mk (below_step (by repeat (first | (with_reducible first | exact HB.out | apply below_alloc | apply pw_below_drewN | apply below_drew1 | refine below_set ?_ GE272.out | refine below_set ?_ GE287.out | refine below_set ?_ GE294.out | refine below_set ?_ GE302.out) | exact HB.out)) hb); clear HO_288000; clear HO_288001; clear HO_295000; clear HO_295001; clear HO_303000; clear HO_303001; clear BK272; clear BK287; clear BK294; clear BK302; clear HB; have HO_288000 := n0_; have HO_288001 := n1_; have HO_295000 := n2_; have HO_295001 := n3_; have HO_303000 := n4_; have HO_303001 := n5_; have BK272 := n6_; have BK287 := n7_; have BK294 := n8_; have BK302 := n9_; have HB := n10_; clear n0_ n1_ n2_ n3_ n4_ n5_ n6_ n7_ n8_ n9_ n10_; (try clear hb); (try clear hb2); (try clear hk); (try clear hi)))
                    go_ret
                    exact ⟨by first | rfl | (simp [errW_none, errW_some] <;> rfl) | (simp [*, errW_none, errW_some] <;> rfl), by repeat (first | (with_reducible first | exact HB.out | apply below_alloc | apply pw_below_drewN | apply below_drew1 | refine below_set ?_ GE272.out | refine below_set ?_ GE287.out | refine below_set ?_ GE294.out | refine below_set ?_ GE302.out) | exact HB.out)⟩
                  · rw [if_neg c99] at H
                    have c99b0 : decide (t318 < 0) = false := decide_eq_false c99
                    clear c99
                    by_cases c107 : t318 = t315
                    · rw [if_pos c107] at H
                      have c107b0 : (t318 == t315) = true := beq_iff_eq.mpr c107
                      have c107b1 : (t318 != t315) = false := bne_eq_false_iff_eq.mpr c107
                      clear c107
                      replace H := Option.bind_eq_some_iff.mp H
                      obtain ⟨⟨t319, t322⟩, A1080, H⟩ := H
                      replace H : ((impl_BuyParts.f kj65 t319 t322 a1 a2).bind fun bt325 => ((laws_eqShop.f kj65 bt325.1 bt325.2.1 t280 t283).bind fun t333 => (if t333 = true then (laws_FnExactBuyParts.j2 kj65 t315 (bt325.2.2 != t286) t316 t317) else (laws_FnExactBuyParts.j2 kj65 t315 true t316 t317)))) = some r := H
                      have A108 := Aside0.mk A1080
                      clear A1080
                      replace H := Option.bind_eq_some_iff.mp H
                      obtain ⟨⟨t325, t328, t331⟩, A1090, H⟩ := H
                      replace H : ((laws_eqShop.f kj65 t325 t328 t280 t283).bind fun t333 => (if t333 = true then (laws_FnExactBuyParts.j2 kj65 t315 (t331 != t286) t316 t317) else (laws_FnExactBuyParts.j2 kj65 t315 true t316 t317))) = some r := H
                      have A109 := Aside0.mk A1090
                      clear A1090
                      have HC110 := Aside0.mk H
                      clear H
                      have hnb111 := NB302_272.out
                      have hnc111 := NB272_302.out
                      have hnb112 := NB302_287.out
                      have hnc112 := NB287_302.out
                      have hnb113 := NB302_294.out
                      have hnc113 := NB294_302.out
                      have hcz114_0 : wc.cell? ⟨gb302, 0, none⟩ = some (.slice Ao37 t295.length co37) := (blk_cell BK302.out 0).trans rfl
                      have hcz114_1 : wc.cell? ⟨gb302, 1, none⟩ = some (.slice Ao42 t298.length co42) := (blk_cell BK302.out 1).trans rfl
                      have hfz114_0 := blk_frozen BK302.out 0
                      have hfz114_1 := blk_frozen BK302.out 1
                      go_upto_region 25 with (first | ((with_reducible refine gate_callee (f := 19) rfl ?_); refine goesL_ (some 72) rfl rfl Try.func19 (by kernel_rfl) rfl #[.agg #[.slice Ao37 t295.length co37, .slice Ao42 t298.length co42], .int .i64 1] rfl (by (try simp only [List.map_toArray, List.map_cons, List.map_nil]); first | done | rfl | (simp only [List.length_drop, List.length_take]; rfl)) ?_; (with_reducible refine (laws_markShop.calls kj65 (fun k_ => some k_ = (.slice Ao37 t295.length co37 : Value).ownBlock) (.slice Ao37 t295.length co37) t295 (fun k_ => some k_ = (.slice Ao42 t298.length co42 : Value).ownBlock) (.slice Ao42 t298.length co42) t298 1 t315 t316 t317 w _ ?side1 ?side2 ?side3 A97.out).mono ?_); (case side1 => repeat (first | (with_reducible first | exact HB.out | apply below_alloc | apply pw_below_drewN | apply below_drew1 | refine below_set ?_ GE272.out | refine below_set ?_ GE287.out | refine below_set ?_ GE294.out | refine below_set ?_ GE302.out) | exact HB.out)); (case side2 => exact Kd.R_tight rfl HO_303000.out); (case side3 => exact Kd.R_tight rfl HO_303001.out); rintro e w115 ⟨rfl, hy0, hy1, hb, hkp⟩; refine ⟨_, rfl, ?_⟩; have n0_ := Aside0.mk (Kd.R_mono (ok' := fun k_ => some k_ ≠ (.slice Ao30 t312.length co30 : Value).ownBlock ∧ some k_ ≠ (.slice Ao37 t295.length co37 : Value).ownBlock) (Kd.R_keptB ((Kd.R_apart' HO_288000.out (Kd.R_typed HO_303001.out) (by decide))) hkp (fun k_ hk_ hs_ => Or.elim hs_ (fun e_ => (hk_.1.2) e_) (fun e_ => (hk_.2) e_))) (fun k_ hk_ => ⟨hk_.1.1.1, hk_.1.1.2⟩)); have n1_ := Aside0.mk (Kd.R_mono (ok' := fun k_ => some k_ ≠ (.slice Ao34 t313.length co34 : Value).ownBlock ∧ some k_ ≠ (.slice Ao42 t298.length co42 : Value).ownBlock) (Kd.R_keptB ((Kd.R_apart' HO_288001.out (Kd.R_typed HO_303000.out) (by decide))) hkp (fun k_ hk_ hs_ => Or.elim hs_ (fun e_ => (hk_.2) e_) (fun e_ => (hk_.1.2) e_))) (fun k_ hk_ => ⟨hk_.1.1.1, hk_.1.1.2⟩)); have n2_ := Aside0.mk (Kd.R_mono (ok' := fun k_ => some k_ ≠ (.slice Ao23 t280.length co23 : Value).ownBlock ∧ some k_ ≠ (.slice Ao37 t295.length co37 : Value).ownBlock) (Kd.R_keptB ((Kd.R_apart' HO_295000.out (Kd.R_typed HO_303001.out) (by decide))) hkp (fun k_ hk_ hs_ => Or.elim hs_ (fun e_ => (hk_.1.2) e_) (fun e_ => (hk_.2) e_))) (fun k_ hk_ => ⟨hk_.1.1.1, hk_.1.1.2⟩)); have n3_ := Aside0.mk (Kd.R_mono (ok' := fun k_ => some k_ ≠ (.slice Ao26 t283.length co26 : Value).ownBlock ∧ some k_ ≠ (.slice Ao42 t298.length co42 : Value).ownBlock) (Kd.R_keptB ((Kd.R_apart' HO_295001.out (Kd.R_typed HO_303000.out) (by decide))) hkp (fun k_ hk_ hs_ => Or.elim hs_ (fun e_ => (hk_.2) e_) (fun e_ => (hk_.1.2) e_))) (fun k_ hk_ => ⟨hk_.1.1.1, hk_.1.1.2⟩)); have n4_ := Aside0.mk (Kd.R_reok rfl hy0 (fun k_ e_ => HO_303000.out.1 k_ e_)); have n5_ := Aside0.mk (Kd.R_reok rfl hy1 (fun k_ e_ => HO_303001.out.1 k_ e_)); have n6_ := Aside0.mk (blk_kept (by (with_reducible repeat (first | refine blk_drewN ?_ _ | refine blk_drew ?_ | refine blk_alloc ?_ _)); exact BK272.out) hkp (fun hs_ => Or.elim hs_ (fun e_ => (fun e_ => (Kd.R_ne HO_303000.out BK272.out (by decide)) e_) e_) (fun e_ => (fun e_ => (Kd.R_ne HO_303001.out BK272.out (by decide)) e_) e_))); have n7_ := Aside0.mk (blk_kept (by (with_reducible repeat (first | refine blk_drewN ?_ _ | refine blk_drew ?_ | refine blk_alloc ?_ _)); exact BK287.out) hkp (fun hs_ => Or.elim hs_ (fun e_ => (fun e_ => (Kd.R_ne HO_303000.out BK287.out (by decide)) e_) e_) (fun e_ => (fun e_ => (Kd.R_ne HO_303001.out BK287.out (by decide)) e_) e_))); have n8_ := Aside0.mk (blk_kept (by (with_reducible repeat (first | refine blk_drewN ?_ _ | refine blk_drew ?_ | refine blk_alloc ?_ _)); exact BK294.out) hkp (fun hs_ => Or.elim hs_ (fun e_ => (fun e_ => (Kd.R_ne HO_303000.out BK294.out (by decide)) e_) e_) (fun e_ => (fun e_ => (Kd.R_ne HO_303001.out BK294.out (by decide)) e_) e_))); have n9_ := Aside0.mk (blk_kept (by (with_reducible repeat (first | refine blk_drewN ?_ _ | refine blk_drew ?_ | refine blk_alloc ?_ _)); exact BK302.out) hkp (fun hs_ => Or.elim hs_ (fun e_ => (fun e_ => (Kd.R_ne HO_303000.out BK302.out (by decide)) e_) e_) (fun e_ => (fun e_ => (Kd.R_ne HO_303001.out BK302.out (by decide)) e_) e_))); have n10_ := Aside0.mk (hb); clear HO_288000; clear HO_288001; clear HO_295000; clear HO_295001; clear HO_303000; clear HO_303001; clear BK272; clear BK287; clear BK294; clear BK302; clear HB; have HO_288000 := n0_; have HO_288001 := n1_; have HO_295000 := n2_; have HO_295001 := n3_; have HO_303000 := n4_; have HO_303001 := n5_; have BK272 := n6_; have BK287 := n7_; have BK294 := n8_; have BK302 := n9_; have HB := n10_; clear n0_ n1_ n2_ n3_ n4_ n5_ n6_ n7_ n8_ n9_ n10_; (try clear hb); (try clear hkp); (try clear hy0); (try clear hy1); have hcz116_0 : w115.cell? ⟨gb302, 0, none⟩ = some (.slice Ao37 t295.length co37) := (blk_cell BK302.out 0).trans rfl; have hcz116_1 : w115.cell? ⟨gb302, 1, none⟩ = some (.slice Ao42 t298.length co42) := (blk_cell BK302.out 1).trans rfl; have hfz116_0 := blk_frozen BK302.out 0; have hfz116_1 := blk_frozen BK302.out 1) | ((with_reducible refine gate_callee (f := 30) rfl ?_); refine goesL_ (some 75) rfl rfl Try.func30 (by kernel_rfl) rfl #[.agg #[.slice Ao37 t316.length co37, .slice Ao42 t317.length co42], .int .i64 1] rfl (by (try simp only [List.map_toArray, List.map_cons, List.map_nil]); first | done | (rw [show t316.length = t295.length from (Kd.R_reads' HO_303000.out).1.symm, show t317.length = t298.length from (Kd.R_reads' HO_303001.out).1.symm] <;> rfl) | rfl | (simp only [List.length_drop, List.length_take]; rfl)) ?_; (with_reducible refine (laws_heldShop.calls kj65 _ _ t316 _ _ t317 1 t318 _ ?side1 ?side2 ?side3 ?side4 A98.out).mono ?_); (case side1 => repeat (first | exact (Kd.R_reads' HO_303000.out).2.2 | (with_reducible refine Kd.C_alloc ?_ _) | (with_reducible refine Kd.C_drewN ?_ _) | (with_reducible refine Kd.C_drew ?_))); (case side2 => rw [show t316.length = t295.length from (Kd.R_reads' HO_303000.out).1.symm]; exact (Kd.R_reads' HO_303000.out).2.1); (case side3 => repeat (first | exact (Kd.R_reads' HO_303001.out).2.2 | (with_reducible refine Kd.C_alloc ?_ _) | (with_reducible refine Kd.C_drewN ?_ _) | (with_reducible refine Kd.C_drew ?_))); (case side4 => rw [show t317.length = t298.length from (Kd.R_reads' HO_303001.out).1.symm]; exact (Kd.R_reads' HO_303001.out).2.1); rintro e w117 ⟨rfl, hb⟩; refine ⟨_, rfl, ?_⟩; have n0_ := Aside0.mk (Kd.R_below (by (with_reducible repeat (first | apply Kd.R_alloc | apply Kd.R_drewN | apply Kd.R_drew)); exact HO_288000.out) hb); have n1_ := Aside0.mk (Kd.R_below (by (with_reducible repeat (first | apply Kd.R_alloc | apply Kd.R_drewN | apply Kd.R_drew)); exact HO_288001.out) hb); have n2_ := Aside0.mk (Kd.R_below (by (with_reducible repeat (first | apply Kd.R_alloc | apply Kd.R_drewN | apply Kd.R_drew)); exact HO_295000.out) hb); have n3_ := Aside0.mk (Kd.R_below (by (with_reducible repeat (first | apply Kd.R_alloc | apply Kd.R_drewN | apply Kd.R_drew)); exact HO_295001.out) hb); have n4_ := Aside0.mk (Kd.R_below (by (with_reducible repeat (first | apply Kd.R_alloc | apply Kd.R_drewN | apply Kd.R_drew)); exact HO_303000.out) hb); have n5_ := Aside0.mk (Kd.R_below (by (with_reducible repeat (first | apply Kd.R_alloc | apply Kd.R_drewN | apply Kd.R_drew)); exact HO_303001.out) hb); have n6_ := Aside0.mk (blk_below (g := gb272) (o := .cells #[.slice A0_0 l0_0.length c0_0, .slice A0_1 l0_1.length c0_1] 25 (0, 0)) (by (with_reducible repeat (first | refine blk_drewN ?_ _ | refine blk_drew ?_ | refine blk_alloc ?_ _)); exact BK272.out) hb); have n7_ := Aside0.mk (blk_below (g := gb287) (o := .cells #[.slice Ao23 t280.length co23, .slice Ao26 t283.length co26] 31 (0, 0)) (by (with_reducible repeat (first | refine blk_drewN ?_ _ | refine blk_drew ?_ | refine blk_alloc ?_ _)); exact BK287.out) hb); have n8_ := Aside0.mk (blk_below (g := gb294) (o := .cells #[.slice Ao30 t312.length co30, .slice Ao34 t313.length co34] 31 (0, 0)) (by (with_reducible repeat (first | refine blk_drewN ?_ _ | refine blk_drew ?_ | refine blk_alloc ?_ _)); exact BK294.out) hb); have n9_ := Aside0.mk (blk_below (g := gb302) (o := .cells #[.slice Ao37 t295.length co37, .slice Ao42 t298.length co42] 31 (0, 0)) (by (with_reducible repeat (first | refine blk_drewN ?_ _ | refine blk_drew ?_ | refine blk_alloc ?_ _)); exact BK302.out) hb); have n10_ := Aside0.mk (below_step (by repeat (first | (with_reducible first | exact HB.out | apply below_alloc | apply pw_below_drewN | apply below_drew1 | refine below_set ?_ GE272.out | refine below_set ?_ GE287.out | refine below_set ?_ GE294.out | refine below_set ?_ GE302.out) | exact HB.out)) hb); clear HO_288000; clear HO_288001; clear HO_295000; clear HO_295001; clear HO_303000; clear HO_303001; clear BK272; clear BK287; clear BK294; clear BK302; clear HB; have HO_288000 := n0_; have HO_288001 := n1_; have HO_295000 := n2_; have HO_295001 := n3_; have HO_303000 := n4_; have HO_303001 := n5_; have BK272 := n6_; have BK287 := n7_; have BK294 := n8_; have BK302 := n9_; have HB := n10_; clear n0_ n1_ n2_ n3_ n4_ n5_ n6_ n7_ n8_ n9_ n10_; (try clear hb); (try clear hb2); (try clear hk); (try clear hi); have hnb118 := NB272_287.out; have hnc118 := NB287_272.out; have hnb119 := NB272_294.out; have hnc119 := NB294_272.out; have hcz120_0 : w117.cell? ⟨gb272, 0, none⟩ = some (.slice A0_0 l0_0.length c0_0) := (blk_cell BK272.out 0).trans rfl; have hcz120_1 : w117.cell? ⟨gb272, 1, none⟩ = some (.slice A0_1 l0_1.length c0_1) := (blk_cell BK272.out 1).trans rfl; have hfz120_0 := blk_frozen BK272.out 0; have hfz120_1 := blk_frozen BK272.out 1) | ((with_reducible refine gate_callee (f := 15) rfl ?_); refine goesL_ (some 83) rfl rfl Try.func15 (by kernel_rfl) rfl #[.agg #[.slice A0_0 l0_0.length c0_0, .slice A0_1 l0_1.length c0_1]] rfl (by (try simp only [List.map_toArray, List.map_cons, List.map_nil]); first | done | rfl | (simp only [List.length_drop, List.length_take]; rfl)) ?_; (with_reducible refine (laws_toShop.calls kj65 _ _ l0_0 _ _ l0_1 t319 t322 _ ?side1 ?side2 ?side3 ?side4 A108.out).mono ?_); (case side1 => repeat (first | exact (Kd.C_below HR0_0.out HB.out) | (with_reducible refine Kd.C_alloc ?_ _) | (with_reducible refine Kd.C_drewN ?_ _) | (with_reducible refine Kd.C_drew ?_))); (case side2 => exact HC0_0.out); (case side3 => repeat (first | exact (Kd.C_below HR0_1.out HB.out) | (with_reducible refine Kd.C_alloc ?_ _) | (with_reducible refine Kd.C_drewN ?_ _) | (with_reducible refine Kd.C_drew ?_))); (case side4 => exact HC0_1.out); rintro e w121 ⟨v320, v323, rfl, ho0, ho1, hb⟩; refine ⟨_, rfl, ?_⟩; have n0_ := Aside0.mk (Kd.R_elder' (by (with_reducible repeat (first | apply Kd.R_alloc | apply Kd.R_drewN | apply Kd.R_drew)); exact HO_288000.out) (Kd.R_base ho0) hb); have n1_ := Aside0.mk (Kd.R_elder' (by (with_reducible repeat (first | apply Kd.R_alloc | apply Kd.R_drewN | apply Kd.R_drew)); exact HO_288001.out) (Kd.R_base ho1) hb); have n2_ := Aside0.mk (Kd.R_elder' (by (with_reducible repeat (first | apply Kd.R_alloc | apply Kd.R_drewN | apply Kd.R_drew)); exact HO_295000.out) (Kd.R_base ho0) hb); have n3_ := Aside0.mk (Kd.R_elder' (by (with_reducible repeat (first | apply Kd.R_alloc | apply Kd.R_drewN | apply Kd.R_drew)); exact HO_295001.out) (Kd.R_base ho1) hb); have n4_ := Aside0.mk (Kd.R_elder' (by (with_reducible repeat (first | apply Kd.R_alloc | apply Kd.R_drewN | apply Kd.R_drew)); exact HO_303000.out) (Kd.R_base ho0) hb); have n5_ := Aside0.mk (Kd.R_elder' (by (with_reducible repeat (first | apply Kd.R_alloc | apply Kd.R_drewN | apply Kd.R_drew)); exact HO_303001.out) (Kd.R_base ho1) hb); have n6_ := Aside0.mk (Kd.R_lower (Kd.R_new' (Kd.R_new' (Kd.R_new' ho0 (Kd.R_lt (by (with_reducible repeat (first | apply Kd.R_alloc | apply Kd.R_drewN | apply Kd.R_drew)); exact HO_288000.out))) (Kd.R_lt (by (with_reducible repeat (first | apply Kd.R_alloc | apply Kd.R_drewN | apply Kd.R_drew)); exact HO_295000.out))) (Kd.R_lt (by (with_reducible repeat (first | apply Kd.R_alloc | apply Kd.R_drewN | apply Kd.R_drew)); exact HO_303000.out))) (below_size (by repeat (first | (with_reducible first | exact HB.out | apply below_alloc | apply pw_below_drewN | apply below_drew1 | refine below_set ?_ GE272.out | refine below_set ?_ GE287.out | refine below_set ?_ GE294.out | refine below_set ?_ GE302.out) | exact HB.out)))); have n7_ := Aside0.mk (Kd.R_lower (Kd.R_new' (Kd.R_new' (Kd.R_new' ho1 (Kd.R_lt (by (with_reducible repeat (first | apply Kd.R_alloc | apply Kd.R_drewN | apply Kd.R_drew)); exact HO_288001.out))) (Kd.R_lt (by (with_reducible repeat (first | apply Kd.R_alloc | apply Kd.R_drewN | apply Kd.R_drew)); exact HO_295001.out))) (Kd.R_lt (by (with_reducible repeat (first | apply Kd.R_alloc | apply Kd.R_drewN | apply Kd.R_drew)); exact HO_303001.out))) (below_size (by repeat (first | (with_reducible first | exact HB.out | apply below_alloc | apply pw_below_drewN | apply below_drew1 | refine below_set ?_ GE272.out | refine below_set ?_ GE287.out | refine below_set ?_ GE294.out | refine below_set ?_ GE302.out) | exact HB.out)))); have n8_ := Aside0.mk (blk_below (g := gb272) (o := .cells #[.slice A0_0 l0_0.length c0_0, .slice A0_1 l0_1.length c0_1] 25 (0, 0)) (by (with_reducible repeat (first | refine blk_drewN ?_ _ | refine blk_drew ?_ | refine blk_alloc ?_ _)); exact BK272.out) hb); have n9_ := Aside0.mk (blk_below (g := gb287) (o := .cells #[.slice Ao23 t280.length co23, .slice Ao26 t283.length co26] 31 (0, 0)) (by (with_reducible repeat (first | refine blk_drewN ?_ _ | refine blk_drew ?_ | refine blk_alloc ?_ _)); exact BK287.out) hb); have n10_ := Aside0.mk (blk_below (g := gb294) (o := .cells #[.slice Ao30 t312.length co30, .slice Ao34 t313.length co34] 31 (0, 0)) (by (with_reducible repeat (first | refine blk_drewN ?_ _ | refine blk_drew ?_ | refine blk_alloc ?_ _)); exact BK294.out) hb); have n11_ := Aside0.mk (blk_below (g := gb302) (o := .cells #[.slice Ao37 t295.length co37, .slice Ao42 t298.length co42] 31 (0, 0)) (by (with_reducible repeat (first | refine blk_drewN ?_ _ | refine blk_drew ?_ | refine blk_alloc ?_ _)); exact BK302.out) hb); have n12_ := Aside0.mk (below_step (by repeat (first | (with_reducible first | exact HB.out | apply below_alloc | apply pw_below_drewN | apply below_drew1 | refine below_set ?_ GE272.out | refine below_set ?_ GE287.out | refine below_set ?_ GE294.out | refine below_set ?_ GE302.out) | exact HB.out)) hb); clear HO_288000; clear HO_288001; clear HO_295000; clear HO_295001; clear HO_303000; clear HO_303001; clear BK272; clear BK287; clear BK294; clear BK302; clear HB; have HO_288000 := n0_; have HO_288001 := n1_; have HO_295000 := n2_; have HO_295001 := n3_; have HO_303000 := n4_; have HO_303001 := n5_; have HO321 := n6_; have HO324 := n7_; have BK272 := n8_; have BK287 := n9_; have BK294 := n10_; have BK302 := n11_; have HB := n12_; clear n0_ n1_ n2_ n3_ n4_ n5_ n6_ n7_ n8_ n9_ n10_ n11_ n12_; (try clear hb); (try clear hb2); (try clear hk); (try clear hi); (try clear ho0); (try clear ho1); obtain ⟨Ao122, co122, eo122⟩ := Kd.R_slice HO321.out; subst eo122; obtain ⟨Ao123, co123, eo123⟩ := Kd.R_slice HO324.out; subst eo123) | ((with_reducible refine gate_callee (f := 34) rfl ?_); refine goesL_ (some 86) rfl rfl Try.func34 (by kernel_rfl) rfl #[.agg #[.slice Ao122 t319.length co122, .slice Ao123 t322.length co123], .int .i64 a1, .int .i64 a2] rfl (by (try simp only [List.map_toArray, List.map_cons, List.map_nil]); first | done | rfl | (simp only [List.length_drop, List.length_take]; rfl)) ?_; (with_reducible refine (impl_BuyParts.calls kj65 _ _ t319 _ _ t322 a1 a2 t325 t328 t331 _ ?side1 ?side2 ?side3 ?side4 A109.out).mono ?_); (case side1 => repeat (first | exact (Kd.R_reads' HO321.out).2.2 | (with_reducible refine Kd.C_alloc ?_ _) | (with_reducible refine Kd.C_drewN ?_ _) | (with_reducible refine Kd.C_drew ?_))); (case side2 => exact (Kd.R_reads' HO321.out).2.1); (case side3 => repeat (first | exact (Kd.R_reads' HO324.out).2.2 | (with_reducible refine Kd.C_alloc ?_ _) | (with_reducible refine Kd.C_drewN ?_ _) | (with_reducible refine Kd.C_drew ?_))); (case side4 => exact (Kd.R_reads' HO324.out).2.1); rintro e w124 ⟨v326, v329, rfl, ho0, ho1, hb⟩; refine ⟨_, rfl, ?_⟩; have n0_ := Aside0.mk (Kd.R_elder' (by (with_reducible repeat (first | apply Kd.R_alloc | apply Kd.R_drewN | apply Kd.R_drew)); exact HO_288000.out) (Kd.R_base ho0) hb); have n1_ := Aside0.mk (Kd.R_elder' (by (with_reducible repeat (first | apply Kd.R_alloc | apply Kd.R_drewN | apply Kd.R_drew)); exact HO_288001.out) (Kd.R_base ho1) hb); have n2_ := Aside0.mk (Kd.R_elder' (by (with_reducible repeat (first | apply Kd.R_alloc | apply Kd.R_drewN | apply Kd.R_drew)); exact HO_295000.out) (Kd.R_base ho0) hb); have n3_ := Aside0.mk (Kd.R_elder' (by (with_reducible repeat (first | apply Kd.R_alloc | apply Kd.R_drewN | apply Kd.R_drew)); exact HO_295001.out) (Kd.R_base ho1) hb); have n4_ := Aside0.mk (Kd.R_elder' (by (with_reducible repeat (first | apply Kd.R_alloc | apply Kd.R_drewN | apply Kd.R_drew)); exact HO_303000.out) (Kd.R_base ho0) hb); have n5_ := Aside0.mk (Kd.R_elder' (by (with_reducible repeat (first | apply Kd.R_alloc | apply Kd.R_drewN | apply Kd.R_drew)); exact HO_303001.out) (Kd.R_base ho1) hb); have n6_ := Aside0.mk (Kd.R_elder' (by (with_reducible repeat (first | apply Kd.R_alloc | apply Kd.R_drewN | apply Kd.R_drew)); exact HO321.out) (Kd.R_base ho0) hb); have n7_ := Aside0.mk (Kd.R_elder' (by (with_reducible repeat (first | apply Kd.R_alloc | apply Kd.R_drewN | apply Kd.R_drew)); exact HO324.out) (Kd.R_base ho1) hb); have n8_ := Aside0.mk (Kd.R_lower (Kd.R_new' (Kd.R_new' (Kd.R_new' (Kd.R_new' ho0 (Kd.R_lt (by (with_reducible repeat (first | apply Kd.R_alloc | apply Kd.R_drewN | apply Kd.R_drew)); exact HO_288000.out))) (Kd.R_lt (by (with_reducible repeat (first | apply Kd.R_alloc | apply Kd.R_drewN | apply Kd.R_drew)); exact HO_295000.out))) (Kd.R_lt (by (with_reducible repeat (first | apply Kd.R_alloc | apply Kd.R_drewN | apply Kd.R_drew)); exact HO_303000.out))) (Kd.R_lt (by (with_reducible repeat (first | apply Kd.R_alloc | apply Kd.R_drewN | apply Kd.R_drew)); exact HO321.out))) (below_size (by repeat (first | (with_reducible first | exact HB.out | apply below_alloc | apply pw_below_drewN | apply below_drew1 | refine below_set ?_ GE272.out | refine below_set ?_ GE287.out | refine below_set ?_ GE294.out | refine below_set ?_ GE302.out) | exact HB.out)))); have n9_ := Aside0.mk (Kd.R_lower (Kd.R_new' (Kd.R_new' (Kd.R_new' (Kd.R_new' ho1 (Kd.R_lt (by (with_reducible repeat (first | apply Kd.R_alloc | apply Kd.R_drewN | apply Kd.R_drew)); exact HO_288001.out))) (Kd.R_lt (by (with_reducible repeat (first | apply Kd.R_alloc | apply Kd.R_drewN | apply Kd.R_drew)); exact HO_295001.out))) (Kd.R_lt (by (with_reducible repeat (first | apply Kd.R_alloc | apply Kd.R_drewN | apply Kd.R_drew)); exact HO_303001.out))) (Kd.R_lt (by (with_reducible repeat (first | apply Kd.R_alloc | apply Kd.R_drewN | apply Kd.R_drew)); exact HO324.out))) (below_size (by repeat (first | (with_reducible first | exact HB.out | apply below_alloc | apply pw_below_drewN | apply below_drew1 | refine below_set ?_ GE272.out | refine below_set ?_ GE287.out | refine below_set ?_ GE294.out | refine below_set ?_ GE302.out) | exact HB.out)))); have n10_ := Aside0.mk (blk_below (g := gb272) (o := .cells #[.slice A0_0 l0_0.length c0_0, .slice A0_1 l0_1.length c0_1] 25 (0, 0)) (by (with_reducible repeat (first | refine blk_drewN ?_ _ | refine blk_drew ?_ | refine blk_alloc ?_ _)); exact BK272.out) hb); have n11_ := Aside0.mk (blk_below (g := gb287) (o := .cells #[.slice Ao23 t280.length co23, .slice Ao26 t283.length co26] 31 (0, 0)) (by (with_reducible repeat (first | refine blk_drewN ?_ _ | refine blk_drew ?_ | refine blk_alloc ?_ _)); exact BK287.out) hb); have n12_ := Aside0.mk (blk_below (g := gb294) (o := .cells #[.slice Ao30 t312.length co30, .slice Ao34 t313.length co34] 31 (0, 0)) (by (with_reducible repeat (first | refine blk_drewN ?_ _ | refine blk_drew ?_ | refine blk_alloc ?_ _)); exact BK294.out) hb); have n13_ := Aside0.mk (blk_below (g := gb302) (o := .cells #[.slice Ao37 t295.length co37, .slice Ao42 t298.length co42] 31 (0, 0)) (by (with_reducible repeat (first | refine blk_drewN ?_ _ | refine blk_drew ?_ | refine blk_alloc ?_ _)); exact BK302.out) hb); have n14_ := Aside0.mk (below_step (by repeat (first | (with_reducible first | exact HB.out | apply below_alloc | apply pw_below_drewN | apply below_drew1 | refine below_set ?_ GE272.out | refine below_set ?_ GE287.out | refine below_set ?_ GE294.out | refine below_set ?_ GE302.out) | exact HB.out)) hb); clear HO_288000; clear HO_288001; clear HO_295000; clear HO_295001; clear HO_303000; clear HO_303001; clear HO321; clear HO324; clear BK272; clear BK287; clear BK294; clear BK302; clear HB; have HO_288000 := n0_; have HO_288001 := n1_; have HO_295000 := n2_; have HO_295001 := n3_; have HO_303000 := n4_; have HO_303001 := n5_; have HO321 := n6_; have HO324 := n7_; have HO327 := n8_; have HO330 := n9_; have BK272 := n10_; have BK287 := n11_; have BK294 := n12_; have BK302 := n13_; have HB := n14_; clear n0_ n1_ n2_ n3_ n4_ n5_ n6_ n7_ n8_ n9_ n10_ n11_ n12_ n13_ n14_; (try clear hb); (try clear hb2); (try clear hk); (try clear hi); (try clear ho0); (try clear ho1)) | ((with_reducible refine gate_dst (N := 16) rfl ?_); refine box_event ?hg (N := 16) ?hd (cs := #[.slice none 0 0, .slice none 0 0]) (t := 31) ?hr ?_; (case hd => rfl); (case hg => rfl); (case hr => first | (go_simp; done) | (go_simp; rfl)); intro gb332 hg w125 hbox hb; have n0_ := Aside0.mk (Kd.R_below (by (with_reducible repeat (first | apply Kd.R_alloc | apply Kd.R_drewN | apply Kd.R_drew)); exact HO_288000.out) hb); have n1_ := Aside0.mk (Kd.R_below (by (with_reducible repeat (first | apply Kd.R_alloc | apply Kd.R_drewN | apply Kd.R_drew)); exact HO_288001.out) hb); have n2_ := Aside0.mk (Kd.R_below (by (with_reducible repeat (first | apply Kd.R_alloc | apply Kd.R_drewN | apply Kd.R_drew)); exact HO_295000.out) hb); have n3_ := Aside0.mk (Kd.R_below (by (with_reducible repeat (first | apply Kd.R_alloc | apply Kd.R_drewN | apply Kd.R_drew)); exact HO_295001.out) hb); have n4_ := Aside0.mk (Kd.R_below (by (with_reducible repeat (first | apply Kd.R_alloc | apply Kd.R_drewN | apply Kd.R_drew)); exact HO_303000.out) hb); have n5_ := Aside0.mk (Kd.R_below (by (with_reducible repeat (first | apply Kd.R_alloc | apply Kd.R_drewN | apply Kd.R_drew)); exact HO_303001.out) hb); have n6_ := Aside0.mk (Kd.R_below (by (with_reducible repeat (first | apply Kd.R_alloc | apply Kd.R_drewN | apply Kd.R_drew)); exact HO321.out) hb); have n7_ := Aside0.mk (Kd.R_below (by (with_reducible repeat (first | apply Kd.R_alloc | apply Kd.R_drewN | apply Kd.R_drew)); exact HO324.out) hb); have n8_ := Aside0.mk (Kd.R_below (by (with_reducible repeat (first | apply Kd.R_alloc | apply Kd.R_drewN | apply Kd.R_drew)); exact HO327.out) hb); have n9_ := Aside0.mk (Kd.R_below (by (with_reducible repeat (first | apply Kd.R_alloc | apply Kd.R_drewN | apply Kd.R_drew)); exact HO330.out) hb); have n10_ := Aside0.mk (blk_below (g := gb272) (o := .cells #[.slice A0_0 l0_0.length c0_0, .slice A0_1 l0_1.length c0_1] 25 (0, 0)) (by (with_reducible repeat (first | refine blk_drewN ?_ _ | refine blk_drew ?_ | refine blk_alloc ?_ _)); exact BK272.out) hb); have n11_ := Aside0.mk (blk_below (g := gb287) (o := .cells #[.slice Ao23 t280.length co23, .slice Ao26 t283.length co26] 31 (0, 0)) (by (with_reducible repeat (first | refine blk_drewN ?_ _ | refine blk_drew ?_ | refine blk_alloc ?_ _)); exact BK287.out) hb); have n12_ := Aside0.mk (blk_below (g := gb294) (o := .cells #[.slice Ao30 t312.length co30, .slice Ao34 t313.length co34] 31 (0, 0)) (by (with_reducible repeat (first | refine blk_drewN ?_ _ | refine blk_drew ?_ | refine blk_alloc ?_ _)); exact BK294.out) hb); have n13_ := Aside0.mk (blk_below (g := gb302) (o := .cells #[.slice Ao37 t295.length co37, .slice Ao42 t298.length co42] 31 (0, 0)) (by (with_reducible repeat (first | refine blk_drewN ?_ _ | refine blk_drew ?_ | refine blk_alloc ?_ _)); exact BK302.out) hb); have n14_ := Aside0.mk (below_step (by repeat (first | (with_reducible first | exact HB.out | apply below_alloc | apply pw_below_drewN | apply below_drew1 | refine below_set ?_ GE272.out | refine below_set ?_ GE287.out | refine below_set ?_ GE294.out | refine below_set ?_ GE302.out) | exact HB.out)) hb); have n15_ := Aside0.mk (hbox); have n16_ := Aside0.mk ((by rw [hg]; exact (below_size (by repeat (first | (with_reducible first | exact HB.out | apply below_alloc | apply pw_below_drewN | apply below_drew1 | refine below_set ?_ GE272.out | refine below_set ?_ GE287.out | refine below_set ?_ GE294.out | refine below_set ?_ GE302.out) | exact HB.out))) : w.heap.size ≤ gb332)); have n17_ := Aside0.mk ((by rw [hg]; exact (below_size (by repeat (first | (with_reducible first | exact HB.out | apply below_alloc | apply pw_below_drewN | apply below_drew1 | refine below_set ?_ GE272.out | refine below_set ?_ GE287.out | refine below_set ?_ GE294.out | refine below_set ?_ GE302.out) | exact HB.out))) : w.heap.size ≤ gb332)); have n18_ := Aside0.mk ((by rw [hg]; exact Nat.ne_of_lt (blk_lt (g := gb272) (o := .cells #[.slice A0_0 l0_0.length c0_0, .slice A0_1 l0_1.length c0_1] 25 (0, 0)) (by (with_reducible repeat (first | refine blk_drewN ?_ _ | refine blk_drew ?_ | refine blk_alloc ?_ _)); exact BK272.out)) : gb272 ≠ gb332)); have n19_ := Aside0.mk ((by rw [hg]; exact Nat.ne_of_gt (blk_lt (g := gb272) (o := .cells #[.slice A0_0 l0_0.length c0_0, .slice A0_1 l0_1.length c0_1] 25 (0, 0)) (by (with_reducible repeat (first | refine blk_drewN ?_ _ | refine blk_drew ?_ | refine blk_alloc ?_ _)); exact BK272.out)) : gb332 ≠ gb272)); have n20_ := Aside0.mk ((by rw [hg]; exact Nat.ne_of_lt (blk_lt (g := gb287) (o := .cells #[.slice Ao23 t280.length co23, .slice Ao26 t283.length co26] 31 (0, 0)) (by (with_reducible repeat (first | refine blk_drewN ?_ _ | refine blk_drew ?_ | refine blk_alloc ?_ _)); exact BK287.out)) : gb287 ≠ gb332)); have n21_ := Aside0.mk ((by rw [hg]; exact Nat.ne_of_gt (blk_lt (g := gb287) (o := .cells #[.slice Ao23 t280.length co23, .slice Ao26 t283.length co26] 31 (0, 0)) (by (with_reducible repeat (first | refine blk_drewN ?_ _ | refine blk_drew ?_ | refine blk_alloc ?_ _)); exact BK287.out)) : gb332 ≠ gb287)); have n22_ := Aside0.mk ((by rw [hg]; exact Nat.ne_of_lt (blk_lt (g := gb294) (o := .cells #[.slice Ao30 t312.length co30, .slice Ao34 t313.length co34] 31 (0, 0)) (by (with_reducible repeat (first | refine blk_drewN ?_ _ | refine blk_drew ?_ | refine blk_alloc ?_ _)); exact BK294.out)) : gb294 ≠ gb332)); have n23_ := Aside0.mk ((by rw [hg]; exact Nat.ne_of_gt (blk_lt (g := gb294) (o := .cells #[.slice Ao30 t312.length co30, .slice Ao34 t313.length co34] 31 (0, 0)) (by (with_reducible repeat (first | refine blk_drewN ?_ _ | refine blk_drew ?_ | refine blk_alloc ?_ _)); exact BK294.out)) : gb332 ≠ gb294)); have n24_ := Aside0.mk ((by rw [hg]; exact Nat.ne_of_lt (blk_lt (g := gb302) (o := .cells #[.slice Ao37 t295.length co37, .slice Ao42 t298.length co42] 31 (0, 0)) (by (with_reducible repeat (first | refine blk_drewN ?_ _ | refine blk_drew ?_ | refine blk_alloc ?_ _)); exact BK302.out)) : gb302 ≠ gb332)); have n25_ := Aside0.mk ((by rw [hg]; exact Nat.ne_of_gt (blk_lt (g := gb302) (o := .cells #[.slice Ao37 t295.length co37, .slice Ao42 t298.length co42] 31 (0, 0)) (by (with_reducible repeat (first | refine blk_drewN ?_ _ | refine blk_drew ?_ | refine blk_alloc ?_ _)); exact BK302.out)) : gb332 ≠ gb302)); clear HO_288000; clear HO_288001; clear HO_295000; clear HO_295001; clear HO_303000; clear HO_303001; clear HO321; clear HO324; clear HO327; clear HO330; clear BK272; clear BK287; clear BK294; clear BK302; clear HB; have HO_288000 := n0_; have HO_288001 := n1_; have HO_295000 := n2_; have HO_295001 := n3_; have HO_303000 := n4_; have HO_303001 := n5_; have HO321 := n6_; have HO324 := n7_; have HO327 := n8_; have HO330 := n9_; have BK272 := n10_; have BK287 := n11_; have BK294 := n12_; have BK302 := n13_; have HB := n14_; have BK332 := n15_; have GW332 := n16_; have GE332 := n17_; have NB272_332 := n18_; have NB332_272 := n19_; have NB287_332 := n20_; have NB332_287 := n21_; have NB294_332 := n22_; have NB332_294 := n23_; have NB302_332 := n24_; have NB332_302 := n25_; clear n0_ n1_ n2_ n3_ n4_ n5_ n6_ n7_ n8_ n9_ n10_ n11_ n12_ n13_ n14_ n15_ n16_ n17_ n18_ n19_ n20_ n21_ n22_ n23_ n24_ n25_; clear hb hbox hg; obtain ⟨Ao126, co126, eo126⟩ := Kd.R_slice HO327.out; subst eo126; have hnb127 := NB332_272.out; have hnc127 := NB272_332.out; have hnb128 := NB332_287.out; have hnc128 := NB287_332.out; have hnb129 := NB332_294.out; have hnc129 := NB294_332.out; have hnb130 := NB332_302.out; have hnc130 := NB302_332.out; have hcz131_0 : w125.cell? ⟨gb332, 0, none⟩ = some (.slice none 0 0) := (blk_cell BK332.out 0).trans rfl; have hcz131_1 : w125.cell? ⟨gb332, 1, none⟩ = some (.slice none 0 0) := (blk_cell BK332.out 1).trans rfl; have hfz131_0 := blk_frozen BK332.out 0; have hfz131_1 := blk_frozen BK332.out 1; obtain ⟨Ao132, co132, eo132⟩ := Kd.R_slice HO330.out; subst eo132))
                      (try simp only [Act.put, List.setIfInBounds_toArray, List.set_cons_zero, List.set_cons_succ])
                      go_cut [97] (fun v97 wc => ∃ (kq : Nat) (x97_109 : Bool), v97 = .bool x97_109 ∧ Aside0 (laws_FnExactBuyParts.j2 kq t315 x97_109 t316 t317 = some r) ∧ Aside0 (kq ≤ kj65) ∧ Aside0 (Kd.R (Kd.int .i64) 3 wc w.heap.size (fun k_ => some k_ ≠ ((.slice Ao30 t312.length co30) : Value).ownBlock ∧ some k_ ≠ ((.slice Ao37 t295.length co37) : Value).ownBlock ∧ some k_ ≠ ((.slice Ao126 t325.length co126) : Value).ownBlock) (.slice Ao23 t280.length co23) t280) ∧ Aside0 (Kd.R k50 50 wc w.heap.size (fun k_ => some k_ ≠ ((.slice Ao34 t313.length co34) : Value).ownBlock ∧ some k_ ≠ ((.slice Ao42 t298.length co42) : Value).ownBlock ∧ some k_ ≠ ((.slice Ao132 t328.length co132) : Value).ownBlock) (.slice Ao26 t283.length co26) t283) ∧ Aside0 (Kd.R (Kd.int .i64) 3 wc w.heap.size (fun k_ => some k_ ≠ ((.slice Ao23 t280.length co23) : Value).ownBlock ∧ some k_ ≠ ((.slice Ao37 t295.length co37) : Value).ownBlock ∧ some k_ ≠ ((.slice Ao126 t325.length co126) : Value).ownBlock) (.slice Ao30 t312.length co30) t312) ∧ Aside0 (Kd.R k50 50 wc w.heap.size (fun k_ => some k_ ≠ ((.slice Ao26 t283.length co26) : Value).ownBlock ∧ some k_ ≠ ((.slice Ao42 t298.length co42) : Value).ownBlock ∧ some k_ ≠ ((.slice Ao132 t328.length co132) : Value).ownBlock) (.slice Ao34 t313.length co34) t313) ∧ Aside0 (Kd.R (Kd.int .i64) 3 wc w.heap.size (fun k_ => some k_ ≠ ((.slice Ao23 t280.length co23) : Value).ownBlock ∧ some k_ ≠ ((.slice Ao30 t312.length co30) : Value).ownBlock ∧ some k_ ≠ ((.slice Ao126 t325.length co126) : Value).ownBlock) (.slice Ao37 t295.length co37) t316) ∧ Aside0 (Kd.R k50 50 wc w.heap.size (fun k_ => some k_ ≠ ((.slice Ao26 t283.length co26) : Value).ownBlock ∧ some k_ ≠ ((.slice Ao34 t313.length co34) : Value).ownBlock ∧ some k_ ≠ ((.slice Ao132 t328.length co132) : Value).ownBlock) (.slice Ao42 t298.length co42) t317) ∧ Aside0 (Kd.R (Kd.int .i64) 3 wc w.heap.size (fun k_ => some k_ ≠ ((.slice Ao23 t280.length co23) : Value).ownBlock ∧ some k_ ≠ ((.slice Ao30 t312.length co30) : Value).ownBlock ∧ some k_ ≠ ((.slice Ao37 t295.length co37) : Value).ownBlock) (.slice Ao126 t325.length co126) t325) ∧ Aside0 (Kd.R k50 50 wc w.heap.size (fun k_ => some k_ ≠ ((.slice Ao26 t283.length co26) : Value).ownBlock ∧ some k_ ≠ ((.slice Ao34 t313.length co34) : Value).ownBlock ∧ some k_ ≠ ((.slice Ao42 t298.length co42) : Value).ownBlock) (.slice Ao132 t328.length co132) t328) ∧ Aside0 (wc.heap[gb272]? = some (.cells #[(.slice A0_0 l0_0.length c0_0), (.slice A0_1 l0_1.length c0_1)] 25 (0, 0))) ∧ Aside0 (wc.heap[gb287]? = some (.cells #[(.slice Ao23 t280.length co23), (.slice Ao26 t283.length co26)] 31 (0, 0))) ∧ Aside0 (wc.heap[gb294]? = some (.cells #[(.slice Ao30 t312.length co30), (.slice Ao34 t313.length co34)] 31 (0, 0))) ∧ Aside0 (wc.heap[gb302]? = some (.cells #[(.slice Ao37 t295.length co37), (.slice Ao42 t298.length co42)] 31 (0, 0))) ∧ Aside0 (wc.heap[gb332]? = some (.cells #[(.slice Ao126 t325.length co126), (.slice Ao132 t328.length co132)] 31 (0, 0))) ∧ Aside0 (Below w.heap.size w wc))
                      case first =>
                        have H := HC110.out
                        clear HC110
                        replace H := Option.bind_eq_some_iff.mp H
                        obtain ⟨t333, A1330, H⟩ := H
                        replace H : (if t333 = true then (laws_FnExactBuyParts.j2 kj65 t315 (t331 != t286) t316 t317) else (laws_FnExactBuyParts.j2 kj65 t315 true t316 t317)) = some r := H
                        have A133 := Aside0.mk A1330
                        clear A1330
                        by_cases c134 : t333 = true
                        · subst c134
                          have H1 : (laws_FnExactBuyParts.j2 kj65 t315 (t331 != t286) t316 t317) = some r := by rw [if_pos rfl] at H; exact H
                          clear H
                          have H := H1
                          clear H1
                          have H' := Aside0.mk H
                          clear H
                          have hnb135 := NB332_272.out
                          have hnc135 := NB272_332.out
                          have hnb136 := NB332_287.out
                          have hnc136 := NB287_332.out
                          have hnb137 := NB332_294.out
                          have hnc137 := NB294_332.out
                          have hnb138 := NB332_302.out
                          have hnc138 := NB302_332.out
                          have hcz139_0 : w125.cell? ⟨gb332, 0, none⟩ = some (.slice none 0 0) := (blk_cell BK332.out 0).trans rfl
                          have hcz139_1 : w125.cell? ⟨gb332, 1, none⟩ = some (.slice none 0 0) := (blk_cell BK332.out 1).trans rfl
                          have hfz139_0 := blk_frozen BK332.out 0
                          have hfz139_1 := blk_frozen BK332.out 1
                          have hnb140 := NB287_272.out
                          have hnc140 := NB272_287.out
                          have hnb141 := NB287_294.out
                          have hnc141 := NB294_287.out
                          have hnb142 := NB287_302.out
                          have hnc142 := NB302_287.out
                          have hcz143_0 : w125.cell? ⟨gb287, 0, none⟩ = some (.slice Ao23 t280.length co23) := (blk_cell BK287.out 0).trans rfl
                          have hcz143_1 : w125.cell? ⟨gb287, 1, none⟩ = some (.slice Ao26 t283.length co26) := (blk_cell BK287.out 1).trans rfl
                          have hfz143_0 := blk_frozen BK287.out 0
                          have hfz143_1 := blk_frozen BK287.out 1
                          go_wp2_with (first | ((with_reducible refine gate_callee (f := 18) rfl ?_); refine goesL_ (some 91) rfl rfl Try.func18 (by kernel_rfl) rfl #[.agg #[.slice Ao126 t325.length co126, .slice Ao132 t328.length co132], .agg #[.slice Ao23 t280.length co23, .slice Ao26 t283.length co26]] rfl (by (try simp only [List.map_toArray, List.map_cons, List.map_nil]); first | done | rfl | (simp only [List.length_drop, List.length_take]; rfl)) ?_; (with_reducible refine (laws_eqShop.calls kj65 _ _ t325 _ _ t328 _ _ t280 _ _ t283 true _ ?side1 ?side2 ?side3 ?side4 ?side5 ?side6 ?side7 ?side8 A133.out).mono ?_); (case side1 => refine (Kd.R_reads' (e := 3) (base := w.heap.size) (ok := fun k_ => ((((True ∧ some k_ ≠ (.slice Ao23 t280.length co23 : Value).ownBlock) ∧ some k_ ≠ (.slice Ao30 t312.length co30 : Value).ownBlock) ∧ some k_ ≠ (.slice Ao37 t295.length co37 : Value).ownBlock) ∧ some k_ ≠ (.slice Ao122 t319.length co122 : Value).ownBlock)) (n := t325.length) (c := co126) ?_).2.2; exact (by (with_reducible repeat (first | apply Kd.R_alloc | apply Kd.R_drewN | apply Kd.R_drew)); exact (Kd.R_mono (Kd.R_far (p := ⟨gb332, 1, none⟩) (Kd.R_far (p := ⟨gb332, 0, none⟩) (Kd.R_types HO327.out BK332.out (by decide)) (fun _ hk => hk.2) (.slice Ao126 t325.length co126)) (fun _ hk => hk.2) (.slice Ao132 t328.length co132)) (fun _ h_ => h_.1)))); (case side2 => exact (Kd.R_reads' HO327.out).2.1); (case side3 => refine (Kd.R_reads' (e := 50) (base := w.heap.size) (ok := fun k_ => ((((True ∧ some k_ ≠ (.slice Ao26 t283.length co26 : Value).ownBlock) ∧ some k_ ≠ (.slice Ao34 t313.length co34 : Value).ownBlock) ∧ some k_ ≠ (.slice Ao42 t298.length co42 : Value).ownBlock) ∧ some k_ ≠ (.slice Ao123 t322.length co123 : Value).ownBlock)) (n := t328.length) (c := co132) ?_).2.2; exact (by (with_reducible repeat (first | apply Kd.R_alloc | apply Kd.R_drewN | apply Kd.R_drew)); exact (Kd.R_mono (Kd.R_far (p := ⟨gb332, 1, none⟩) (Kd.R_far (p := ⟨gb332, 0, none⟩) (Kd.R_types HO330.out BK332.out (by decide)) (fun _ hk => hk.2) (.slice Ao126 t325.length co126)) (fun _ hk => hk.2) (.slice Ao132 t328.length co132)) (fun _ h_ => h_.1)))); (case side4 => exact (Kd.R_reads' HO330.out).2.1); (case side5 => refine (Kd.R_reads' (e := 3) (base := w.heap.size) (ok := fun k_ => (((some k_ ≠ (.slice Ao30 t312.length co30 : Value).ownBlock ∧ some k_ ≠ (.slice Ao37 t295.length co37 : Value).ownBlock) ∧ some k_ ≠ (.slice Ao122 t319.length co122 : Value).ownBlock) ∧ some k_ ≠ (.slice Ao126 t325.length co126 : Value).ownBlock)) (n := t280.length) (c := co23) ?_).2.2; exact (by (with_reducible repeat (first | apply Kd.R_alloc | apply Kd.R_drewN | apply Kd.R_drew)); exact (Kd.R_mono (Kd.R_far (p := ⟨gb332, 1, none⟩) (Kd.R_far (p := ⟨gb332, 0, none⟩) (Kd.R_types HO_288000.out BK332.out (by decide)) (fun _ hk => hk.2) (.slice Ao126 t325.length co126)) (fun _ hk => hk.2) (.slice Ao132 t328.length co132)) (fun _ h_ => h_.1)))); (case side6 => exact (Kd.R_reads' HO_288000.out).2.1); (case side7 => refine (Kd.R_reads' (e := 50) (base := w.heap.size) (ok := fun k_ => (((some k_ ≠ (.slice Ao34 t313.length co34 : Value).ownBlock ∧ some k_ ≠ (.slice Ao42 t298.length co42 : Value).ownBlock) ∧ some k_ ≠ (.slice Ao123 t322.length co123 : Value).ownBlock) ∧ some k_ ≠ (.slice Ao132 t328.length co132 : Value).ownBlock)) (n := t283.length) (c := co26) ?_).2.2; exact (by (with_reducible repeat (first | apply Kd.R_alloc | apply Kd.R_drewN | apply Kd.R_drew)); exact (Kd.R_mono (Kd.R_far (p := ⟨gb332, 1, none⟩) (Kd.R_far (p := ⟨gb332, 0, none⟩) (Kd.R_types HO_288001.out BK332.out (by decide)) (fun _ hk => hk.2) (.slice Ao126 t325.length co126)) (fun _ hk => hk.2) (.slice Ao132 t328.length co132)) (fun _ h_ => h_.1)))); (case side8 => exact (Kd.R_reads' HO_288001.out).2.1); rintro e w144 ⟨rfl, hb⟩; refine ⟨_, rfl, ?_⟩; have n0_ := Aside0.mk (Kd.R_below (by (with_reducible repeat (first | apply Kd.R_alloc | apply Kd.R_drewN | apply Kd.R_drew)); exact (Kd.R_mono (Kd.R_far (p := ⟨gb332, 1, none⟩) (Kd.R_far (p := ⟨gb332, 0, none⟩) (Kd.R_types HO_288000.out BK332.out (by decide)) (fun _ hk => hk.2) (.slice Ao126 t325.length co126)) (fun _ hk => hk.2) (.slice Ao132 t328.length co132)) (fun _ h_ => h_.1))) hb); have n1_ := Aside0.mk (Kd.R_below (by (with_reducible repeat (first | apply Kd.R_alloc | apply Kd.R_drewN | apply Kd.R_drew)); exact (Kd.R_mono (Kd.R_far (p := ⟨gb332, 1, none⟩) (Kd.R_far (p := ⟨gb332, 0, none⟩) (Kd.R_types HO_288001.out BK332.out (by decide)) (fun _ hk => hk.2) (.slice Ao126 t325.length co126)) (fun _ hk => hk.2) (.slice Ao132 t328.length co132)) (fun _ h_ => h_.1))) hb); have n2_ := Aside0.mk (Kd.R_below (by (with_reducible repeat (first | apply Kd.R_alloc | apply Kd.R_drewN | apply Kd.R_drew)); exact (Kd.R_mono (Kd.R_far (p := ⟨gb332, 1, none⟩) (Kd.R_far (p := ⟨gb332, 0, none⟩) (Kd.R_types HO_295000.out BK332.out (by decide)) (fun _ hk => hk.2) (.slice Ao126 t325.length co126)) (fun _ hk => hk.2) (.slice Ao132 t328.length co132)) (fun _ h_ => h_.1))) hb); have n3_ := Aside0.mk (Kd.R_below (by (with_reducible repeat (first | apply Kd.R_alloc | apply Kd.R_drewN | apply Kd.R_drew)); exact (Kd.R_mono (Kd.R_far (p := ⟨gb332, 1, none⟩) (Kd.R_far (p := ⟨gb332, 0, none⟩) (Kd.R_types HO_295001.out BK332.out (by decide)) (fun _ hk => hk.2) (.slice Ao126 t325.length co126)) (fun _ hk => hk.2) (.slice Ao132 t328.length co132)) (fun _ h_ => h_.1))) hb); have n4_ := Aside0.mk (Kd.R_below (by (with_reducible repeat (first | apply Kd.R_alloc | apply Kd.R_drewN | apply Kd.R_drew)); exact (Kd.R_mono (Kd.R_far (p := ⟨gb332, 1, none⟩) (Kd.R_far (p := ⟨gb332, 0, none⟩) (Kd.R_types HO_303000.out BK332.out (by decide)) (fun _ hk => hk.2) (.slice Ao126 t325.length co126)) (fun _ hk => hk.2) (.slice Ao132 t328.length co132)) (fun _ h_ => h_.1))) hb); have n5_ := Aside0.mk (Kd.R_below (by (with_reducible repeat (first | apply Kd.R_alloc | apply Kd.R_drewN | apply Kd.R_drew)); exact (Kd.R_mono (Kd.R_far (p := ⟨gb332, 1, none⟩) (Kd.R_far (p := ⟨gb332, 0, none⟩) (Kd.R_types HO_303001.out BK332.out (by decide)) (fun _ hk => hk.2) (.slice Ao126 t325.length co126)) (fun _ hk => hk.2) (.slice Ao132 t328.length co132)) (fun _ h_ => h_.1))) hb); have n6_ := Aside0.mk (Kd.R_below (by (with_reducible repeat (first | apply Kd.R_alloc | apply Kd.R_drewN | apply Kd.R_drew)); exact (Kd.R_mono (Kd.R_far (p := ⟨gb332, 1, none⟩) (Kd.R_far (p := ⟨gb332, 0, none⟩) (Kd.R_types HO321.out BK332.out (by decide)) (fun _ hk => hk.2) (.slice Ao126 t325.length co126)) (fun _ hk => hk.2) (.slice Ao132 t328.length co132)) (fun _ h_ => h_.1))) hb); have n7_ := Aside0.mk (Kd.R_below (by (with_reducible repeat (first | apply Kd.R_alloc | apply Kd.R_drewN | apply Kd.R_drew)); exact (Kd.R_mono (Kd.R_far (p := ⟨gb332, 1, none⟩) (Kd.R_far (p := ⟨gb332, 0, none⟩) (Kd.R_types HO324.out BK332.out (by decide)) (fun _ hk => hk.2) (.slice Ao126 t325.length co126)) (fun _ hk => hk.2) (.slice Ao132 t328.length co132)) (fun _ h_ => h_.1))) hb); have n8_ := Aside0.mk (Kd.R_below (by (with_reducible repeat (first | apply Kd.R_alloc | apply Kd.R_drewN | apply Kd.R_drew)); exact (Kd.R_mono (Kd.R_far (p := ⟨gb332, 1, none⟩) (Kd.R_far (p := ⟨gb332, 0, none⟩) (Kd.R_types HO327.out BK332.out (by decide)) (fun _ hk => hk.2) (.slice Ao126 t325.length co126)) (fun _ hk => hk.2) (.slice Ao132 t328.length co132)) (fun _ h_ => h_.1))) hb); have n9_ := Aside0.mk (Kd.R_below (by (with_reducible repeat (first | apply Kd.R_alloc | apply Kd.R_drewN | apply Kd.R_drew)); exact (Kd.R_mono (Kd.R_far (p := ⟨gb332, 1, none⟩) (Kd.R_far (p := ⟨gb332, 0, none⟩) (Kd.R_types HO330.out BK332.out (by decide)) (fun _ hk => hk.2) (.slice Ao126 t325.length co126)) (fun _ hk => hk.2) (.slice Ao132 t328.length co132)) (fun _ h_ => h_.1))) hb); have n10_ := Aside0.mk (blk_below (g := gb272) (o := .cells #[.slice A0_0 l0_0.length c0_0, .slice A0_1 l0_1.length c0_1] 25 (0, 0)) (by (with_reducible repeat (first | refine blk_drewN ?_ _ | refine blk_drew ?_ | refine blk_alloc ?_ _)); refine blk_far ?_ NB272_332.out _; (with_reducible repeat (first | refine blk_drewN ?_ _ | refine blk_drew ?_ | refine blk_alloc ?_ _)); refine blk_far ?_ NB272_332.out _; (with_reducible repeat (first | refine blk_drewN ?_ _ | refine blk_drew ?_ | refine blk_alloc ?_ _)); exact BK272.out) hb); have n11_ := Aside0.mk (blk_below (g := gb287) (o := .cells #[.slice Ao23 t280.length co23, .slice Ao26 t283.length co26] 31 (0, 0)) (by (with_reducible repeat (first | refine blk_drewN ?_ _ | refine blk_drew ?_ | refine blk_alloc ?_ _)); refine blk_far ?_ NB287_332.out _; (with_reducible repeat (first | refine blk_drewN ?_ _ | refine blk_drew ?_ | refine blk_alloc ?_ _)); refine blk_far ?_ NB287_332.out _; (with_reducible repeat (first | refine blk_drewN ?_ _ | refine blk_drew ?_ | refine blk_alloc ?_ _)); exact BK287.out) hb); have n12_ := Aside0.mk (blk_below (g := gb294) (o := .cells #[.slice Ao30 t312.length co30, .slice Ao34 t313.length co34] 31 (0, 0)) (by (with_reducible repeat (first | refine blk_drewN ?_ _ | refine blk_drew ?_ | refine blk_alloc ?_ _)); refine blk_far ?_ NB294_332.out _; (with_reducible repeat (first | refine blk_drewN ?_ _ | refine blk_drew ?_ | refine blk_alloc ?_ _)); refine blk_far ?_ NB294_332.out _; (with_reducible repeat (first | refine blk_drewN ?_ _ | refine blk_drew ?_ | refine blk_alloc ?_ _)); exact BK294.out) hb); have n13_ := Aside0.mk (blk_below (g := gb302) (o := .cells #[.slice Ao37 t295.length co37, .slice Ao42 t298.length co42] 31 (0, 0)) (by (with_reducible repeat (first | refine blk_drewN ?_ _ | refine blk_drew ?_ | refine blk_alloc ?_ _)); refine blk_far ?_ NB302_332.out _; (with_reducible repeat (first | refine blk_drewN ?_ _ | refine blk_drew ?_ | refine blk_alloc ?_ _)); refine blk_far ?_ NB302_332.out _; (with_reducible repeat (first | refine blk_drewN ?_ _ | refine blk_drew ?_ | refine blk_alloc ?_ _)); exact BK302.out) hb); have n14_ := Aside0.mk (blk_below (g := gb332) (o := .cells #[.slice Ao126 t325.length co126, .slice Ao132 t328.length co132] 31 (0, 0)) (by (with_reducible repeat (first | refine blk_drewN ?_ _ | refine blk_drew ?_ | refine blk_alloc ?_ _)); refine blk_put (cs := #[.slice Ao126 t325.length co126, .slice none 0 0]) ?_ 1 _ rfl; (with_reducible repeat (first | refine blk_drewN ?_ _ | refine blk_drew ?_ | refine blk_alloc ?_ _)); refine blk_put (cs := #[.slice none 0 0, .slice none 0 0]) ?_ 0 _ rfl; (with_reducible repeat (first | refine blk_drewN ?_ _ | refine blk_drew ?_ | refine blk_alloc ?_ _)); exact BK332.out) hb); have n15_ := Aside0.mk (below_step (by repeat (first | (with_reducible first | exact HB.out | apply below_alloc | apply pw_below_drewN | apply below_drew1 | refine below_set ?_ GE272.out | refine below_set ?_ GE287.out | refine below_set ?_ GE294.out | refine below_set ?_ GE302.out | refine below_set ?_ GE332.out) | exact HB.out)) hb); clear HO_288000; clear HO_288001; clear HO_295000; clear HO_295001; clear HO_303000; clear HO_303001; clear HO321; clear HO324; clear HO327; clear HO330; clear BK272; clear BK287; clear BK294; clear BK302; clear BK332; clear HB; have HO_288000 := n0_; have HO_288001 := n1_; have HO_295000 := n2_; have HO_295001 := n3_; have HO_303000 := n4_; have HO_303001 := n5_; have HO321 := n6_; have HO324 := n7_; have HO327 := n8_; have HO330 := n9_; have BK272 := n10_; have BK287 := n11_; have BK294 := n12_; have BK302 := n13_; have BK332 := n14_; have HB := n15_; clear n0_ n1_ n2_ n3_ n4_ n5_ n6_ n7_ n8_ n9_ n10_ n11_ n12_ n13_ n14_ n15_; (try clear hb); (try clear hb2); (try clear hk); (try clear hi)))
                          go_meet
                          case rel => exact ⟨_, ((t331 != t286)), (by first | rfl | (simp; done) | (simp [*]; done)), H', ⟨by have := HJ12.out; have := HJ65.out; first | omega | exact Nat.le_refl _⟩, ⟨by (try simp only [hl295000_65]); (try simp only [hl295001_65]); (with_reducible repeat (first | apply Kd.R_alloc | apply Kd.R_drewN | apply Kd.R_drew)); exact Kd.R_mono HO_288000.out (fun _ hk => ⟨hk.1.1.1, ⟨hk.1.1.2, hk.2⟩⟩)⟩, ⟨by (try simp only [hl295000_65]); (try simp only [hl295001_65]); (with_reducible repeat (first | apply Kd.R_alloc | apply Kd.R_drewN | apply Kd.R_drew)); exact Kd.R_mono HO_288001.out (fun _ hk => ⟨hk.1.1.1, ⟨hk.1.1.2, hk.2⟩⟩)⟩, ⟨by (try simp only [hl295000_65]); (try simp only [hl295001_65]); (with_reducible repeat (first | apply Kd.R_alloc | apply Kd.R_drewN | apply Kd.R_drew)); exact Kd.R_mono HO_295000.out (fun _ hk => ⟨hk.1.1.1, ⟨hk.1.1.2, hk.2⟩⟩)⟩, ⟨by (try simp only [hl295000_65]); (try simp only [hl295001_65]); (with_reducible repeat (first | apply Kd.R_alloc | apply Kd.R_drewN | apply Kd.R_drew)); exact Kd.R_mono HO_295001.out (fun _ hk => ⟨hk.1.1.1, ⟨hk.1.1.2, hk.2⟩⟩)⟩, ⟨by (try simp only [hl295000_65]); (try simp only [hl295001_65]); (with_reducible repeat (first | apply Kd.R_alloc | apply Kd.R_drewN | apply Kd.R_drew)); exact Kd.R_mono HO_303000.out (fun _ hk => ⟨hk.1.1.1, ⟨hk.1.1.2, hk.2⟩⟩)⟩, ⟨by (try simp only [hl295000_65]); (try simp only [hl295001_65]); (with_reducible repeat (first | apply Kd.R_alloc | apply Kd.R_drewN | apply Kd.R_drew)); exact Kd.R_mono HO_303001.out (fun _ hk => ⟨hk.1.1.1, ⟨hk.1.1.2, hk.2⟩⟩)⟩, ⟨by (try simp only [hl295000_65]); (try simp only [hl295001_65]); (with_reducible repeat (first | apply Kd.R_alloc | apply Kd.R_drewN | apply Kd.R_drew)); exact Kd.R_mono HO327.out (fun _ hk => ⟨hk.1.1.1.2, ⟨hk.1.1.2, hk.1.2⟩⟩)⟩, ⟨by (try simp only [hl295000_65]); (try simp only [hl295001_65]); (with_reducible repeat (first | apply Kd.R_alloc | apply Kd.R_drewN | apply Kd.R_drew)); exact Kd.R_mono HO330.out (fun _ hk => ⟨hk.1.1.1.2, ⟨hk.1.1.2, hk.1.2⟩⟩)⟩, ⟨by (try simp only [hl295000_65]); (try simp only [hl295001_65]); (with_reducible repeat (first | refine blk_drewN ?_ _ | refine blk_drew ?_ | refine blk_alloc ?_ _)); exact BK272.out⟩, ⟨by (try simp only [hl295000_65]); (try simp only [hl295001_65]); (with_reducible repeat (first | refine blk_drewN ?_ _ | refine blk_drew ?_ | refine blk_alloc ?_ _)); exact BK287.out⟩, ⟨by (try simp only [hl295000_65]); (try simp only [hl295001_65]); (with_reducible repeat (first | refine blk_drewN ?_ _ | refine blk_drew ?_ | refine blk_alloc ?_ _)); exact BK294.out⟩, ⟨by (try simp only [hl295000_65]); (try simp only [hl295001_65]); (with_reducible repeat (first | refine blk_drewN ?_ _ | refine blk_drew ?_ | refine blk_alloc ?_ _)); exact BK302.out⟩, ⟨by (try simp only [hl295000_65]); (try simp only [hl295001_65]); (with_reducible repeat (first | refine blk_drewN ?_ _ | refine blk_drew ?_ | refine blk_alloc ?_ _)); exact BK332.out⟩, ⟨by repeat (first | (with_reducible first | exact HB.out | apply below_alloc | apply pw_below_drewN | apply below_drew1 | refine below_set ?_ GE272.out | refine below_set ?_ GE287.out | refine below_set ?_ GE294.out | refine below_set ?_ GE302.out | refine below_set ?_ GE332.out) | exact HB.out)⟩⟩
                        · replace c134 := Bool.eq_false_iff.mpr c134
                          subst c134
                          have H1 : (laws_FnExactBuyParts.j2 kj65 t315 true t316 t317) = some r := by rw [if_neg (show ¬ (false = true) by decide)] at H; exact H
                          clear H
                          have H := H1
                          clear H1
                          have H' := Aside0.mk H
                          clear H
                          have hnb145 := NB332_272.out
                          have hnc145 := NB272_332.out
                          have hnb146 := NB332_287.out
                          have hnc146 := NB287_332.out
                          have hnb147 := NB332_294.out
                          have hnc147 := NB294_332.out
                          have hnb148 := NB332_302.out
                          have hnc148 := NB302_332.out
                          have hcz149_0 : w125.cell? ⟨gb332, 0, none⟩ = some (.slice none 0 0) := (blk_cell BK332.out 0).trans rfl
                          have hcz149_1 : w125.cell? ⟨gb332, 1, none⟩ = some (.slice none 0 0) := (blk_cell BK332.out 1).trans rfl
                          have hfz149_0 := blk_frozen BK332.out 0
                          have hfz149_1 := blk_frozen BK332.out 1
                          have hnb150 := NB287_272.out
                          have hnc150 := NB272_287.out
                          have hnb151 := NB287_294.out
                          have hnc151 := NB294_287.out
                          have hnb152 := NB287_302.out
                          have hnc152 := NB302_287.out
                          have hcz153_0 : w125.cell? ⟨gb287, 0, none⟩ = some (.slice Ao23 t280.length co23) := (blk_cell BK287.out 0).trans rfl
                          have hcz153_1 : w125.cell? ⟨gb287, 1, none⟩ = some (.slice Ao26 t283.length co26) := (blk_cell BK287.out 1).trans rfl
                          have hfz153_0 := blk_frozen BK287.out 0
                          have hfz153_1 := blk_frozen BK287.out 1
                          go_wp2_with (first | ((with_reducible refine gate_callee (f := 18) rfl ?_); refine goesL_ (some 91) rfl rfl Try.func18 (by kernel_rfl) rfl #[.agg #[.slice Ao126 t325.length co126, .slice Ao132 t328.length co132], .agg #[.slice Ao23 t280.length co23, .slice Ao26 t283.length co26]] rfl (by (try simp only [List.map_toArray, List.map_cons, List.map_nil]); first | done | rfl | (simp only [List.length_drop, List.length_take]; rfl)) ?_; (with_reducible refine (laws_eqShop.calls kj65 _ _ t325 _ _ t328 _ _ t280 _ _ t283 false _ ?side1 ?side2 ?side3 ?side4 ?side5 ?side6 ?side7 ?side8 A133.out).mono ?_); (case side1 => refine (Kd.R_reads' (e := 3) (base := w.heap.size) (ok := fun k_ => ((((True ∧ some k_ ≠ (.slice Ao23 t280.length co23 : Value).ownBlock) ∧ some k_ ≠ (.slice Ao30 t312.length co30 : Value).ownBlock) ∧ some k_ ≠ (.slice Ao37 t295.length co37 : Value).ownBlock) ∧ some k_ ≠ (.slice Ao122 t319.length co122 : Value).ownBlock)) (n := t325.length) (c := co126) ?_).2.2; exact (by (with_reducible repeat (first | apply Kd.R_alloc | apply Kd.R_drewN | apply Kd.R_drew)); exact (Kd.R_mono (Kd.R_far (p := ⟨gb332, 1, none⟩) (Kd.R_far (p := ⟨gb332, 0, none⟩) (Kd.R_types HO327.out BK332.out (by decide)) (fun _ hk => hk.2) (.slice Ao126 t325.length co126)) (fun _ hk => hk.2) (.slice Ao132 t328.length co132)) (fun _ h_ => h_.1)))); (case side2 => exact (Kd.R_reads' HO327.out).2.1); (case side3 => refine (Kd.R_reads' (e := 50) (base := w.heap.size) (ok := fun k_ => ((((True ∧ some k_ ≠ (.slice Ao26 t283.length co26 : Value).ownBlock) ∧ some k_ ≠ (.slice Ao34 t313.length co34 : Value).ownBlock) ∧ some k_ ≠ (.slice Ao42 t298.length co42 : Value).ownBlock) ∧ some k_ ≠ (.slice Ao123 t322.length co123 : Value).ownBlock)) (n := t328.length) (c := co132) ?_).2.2; exact (by (with_reducible repeat (first | apply Kd.R_alloc | apply Kd.R_drewN | apply Kd.R_drew)); exact (Kd.R_mono (Kd.R_far (p := ⟨gb332, 1, none⟩) (Kd.R_far (p := ⟨gb332, 0, none⟩) (Kd.R_types HO330.out BK332.out (by decide)) (fun _ hk => hk.2) (.slice Ao126 t325.length co126)) (fun _ hk => hk.2) (.slice Ao132 t328.length co132)) (fun _ h_ => h_.1)))); (case side4 => exact (Kd.R_reads' HO330.out).2.1); (case side5 => refine (Kd.R_reads' (e := 3) (base := w.heap.size) (ok := fun k_ => (((some k_ ≠ (.slice Ao30 t312.length co30 : Value).ownBlock ∧ some k_ ≠ (.slice Ao37 t295.length co37 : Value).ownBlock) ∧ some k_ ≠ (.slice Ao122 t319.length co122 : Value).ownBlock) ∧ some k_ ≠ (.slice Ao126 t325.length co126 : Value).ownBlock)) (n := t280.length) (c := co23) ?_).2.2; exact (by (with_reducible repeat (first | apply Kd.R_alloc | apply Kd.R_drewN | apply Kd.R_drew)); exact (Kd.R_mono (Kd.R_far (p := ⟨gb332, 1, none⟩) (Kd.R_far (p := ⟨gb332, 0, none⟩) (Kd.R_types HO_288000.out BK332.out (by decide)) (fun _ hk => hk.2) (.slice Ao126 t325.length co126)) (fun _ hk => hk.2) (.slice Ao132 t328.length co132)) (fun _ h_ => h_.1)))); (case side6 => exact (Kd.R_reads' HO_288000.out).2.1); (case side7 => refine (Kd.R_reads' (e := 50) (base := w.heap.size) (ok := fun k_ => (((some k_ ≠ (.slice Ao34 t313.length co34 : Value).ownBlock ∧ some k_ ≠ (.slice Ao42 t298.length co42 : Value).ownBlock) ∧ some k_ ≠ (.slice Ao123 t322.length co123 : Value).ownBlock) ∧ some k_ ≠ (.slice Ao132 t328.length co132 : Value).ownBlock)) (n := t283.length) (c := co26) ?_).2.2; exact (by (with_reducible repeat (first | apply Kd.R_alloc | apply Kd.R_drewN | apply Kd.R_drew)); exact (Kd.R_mono (Kd.R_far (p := ⟨gb332, 1, none⟩) (Kd.R_far (p := ⟨gb332, 0, none⟩) (Kd.R_types HO_288001.out BK332.out (by decide)) (fun _ hk => hk.2) (.slice Ao126 t325.length co126)) (fun _ hk => hk.2) (.slice Ao132 t328.length co132)) (fun _ h_ => h_.1)))); (case side8 => exact (Kd.R_reads' HO_288001.out).2.1); rintro e w154 ⟨rfl, hb⟩; refine ⟨_, rfl, ?_⟩; have n0_ := Aside0.mk (Kd.R_below (by (with_reducible repeat (first | apply Kd.R_alloc | apply Kd.R_drewN | apply Kd.R_drew)); exact (Kd.R_mono (Kd.R_far (p := ⟨gb332, 1, none⟩) (Kd.R_far (p := ⟨gb332, 0, none⟩) (Kd.R_types HO_288000.out BK332.out (by decide)) (fun _ hk => hk.2) (.slice Ao126 t325.length co126)) (fun _ hk => hk.2) (.slice Ao132 t328.length co132)) (fun _ h_ => h_.1))) hb); have n1_ := Aside0.mk (Kd.R_below (by (with_reducible repeat (first | apply Kd.R_alloc | apply Kd.R_drewN | apply Kd.R_drew)); exact (Kd.R_mono (Kd.R_far (p := ⟨gb332, 1, none⟩) (Kd.R_far (p := ⟨gb332, 0, none⟩) (Kd.R_types HO_288001.out BK332.out (by decide)) (fun _ hk => hk.2) (.slice Ao126 t325.length co126)) (fun _ hk => hk.2) (.slice Ao132 t328.length co132)) (fun _ h_ => h_.1))) hb); have n2_ := Aside0.mk (Kd.R_below (by (with_reducible repeat (first | apply Kd.R_alloc | apply Kd.R_drewN | apply Kd.R_drew)); exact (Kd.R_mono (Kd.R_far (p := ⟨gb332, 1, none⟩) (Kd.R_far (p := ⟨gb332, 0, none⟩) (Kd.R_types HO_295000.out BK332.out (by decide)) (fun _ hk => hk.2) (.slice Ao126 t325.length co126)) (fun _ hk => hk.2) (.slice Ao132 t328.length co132)) (fun _ h_ => h_.1))) hb); have n3_ := Aside0.mk (Kd.R_below (by (with_reducible repeat (first | apply Kd.R_alloc | apply Kd.R_drewN | apply Kd.R_drew)); exact (Kd.R_mono (Kd.R_far (p := ⟨gb332, 1, none⟩) (Kd.R_far (p := ⟨gb332, 0, none⟩) (Kd.R_types HO_295001.out BK332.out (by decide)) (fun _ hk => hk.2) (.slice Ao126 t325.length co126)) (fun _ hk => hk.2) (.slice Ao132 t328.length co132)) (fun _ h_ => h_.1))) hb); have n4_ := Aside0.mk (Kd.R_below (by (with_reducible repeat (first | apply Kd.R_alloc | apply Kd.R_drewN | apply Kd.R_drew)); exact (Kd.R_mono (Kd.R_far (p := ⟨gb332, 1, none⟩) (Kd.R_far (p := ⟨gb332, 0, none⟩) (Kd.R_types HO_303000.out BK332.out (by decide)) (fun _ hk => hk.2) (.slice Ao126 t325.length co126)) (fun _ hk => hk.2) (.slice Ao132 t328.length co132)) (fun _ h_ => h_.1))) hb); have n5_ := Aside0.mk (Kd.R_below (by (with_reducible repeat (first | apply Kd.R_alloc | apply Kd.R_drewN | apply Kd.R_drew)); exact (Kd.R_mono (Kd.R_far (p := ⟨gb332, 1, none⟩) (Kd.R_far (p := ⟨gb332, 0, none⟩) (Kd.R_types HO_303001.out BK332.out (by decide)) (fun _ hk => hk.2) (.slice Ao126 t325.length co126)) (fun _ hk => hk.2) (.slice Ao132 t328.length co132)) (fun _ h_ => h_.1))) hb); have n6_ := Aside0.mk (Kd.R_below (by (with_reducible repeat (first | apply Kd.R_alloc | apply Kd.R_drewN | apply Kd.R_drew)); exact (Kd.R_mono (Kd.R_far (p := ⟨gb332, 1, none⟩) (Kd.R_far (p := ⟨gb332, 0, none⟩) (Kd.R_types HO321.out BK332.out (by decide)) (fun _ hk => hk.2) (.slice Ao126 t325.length co126)) (fun _ hk => hk.2) (.slice Ao132 t328.length co132)) (fun _ h_ => h_.1))) hb); have n7_ := Aside0.mk (Kd.R_below (by (with_reducible repeat (first | apply Kd.R_alloc | apply Kd.R_drewN | apply Kd.R_drew)); exact (Kd.R_mono (Kd.R_far (p := ⟨gb332, 1, none⟩) (Kd.R_far (p := ⟨gb332, 0, none⟩) (Kd.R_types HO324.out BK332.out (by decide)) (fun _ hk => hk.2) (.slice Ao126 t325.length co126)) (fun _ hk => hk.2) (.slice Ao132 t328.length co132)) (fun _ h_ => h_.1))) hb); have n8_ := Aside0.mk (Kd.R_below (by (with_reducible repeat (first | apply Kd.R_alloc | apply Kd.R_drewN | apply Kd.R_drew)); exact (Kd.R_mono (Kd.R_far (p := ⟨gb332, 1, none⟩) (Kd.R_far (p := ⟨gb332, 0, none⟩) (Kd.R_types HO327.out BK332.out (by decide)) (fun _ hk => hk.2) (.slice Ao126 t325.length co126)) (fun _ hk => hk.2) (.slice Ao132 t328.length co132)) (fun _ h_ => h_.1))) hb); have n9_ := Aside0.mk (Kd.R_below (by (with_reducible repeat (first | apply Kd.R_alloc | apply Kd.R_drewN | apply Kd.R_drew)); exact (Kd.R_mono (Kd.R_far (p := ⟨gb332, 1, none⟩) (Kd.R_far (p := ⟨gb332, 0, none⟩) (Kd.R_types HO330.out BK332.out (by decide)) (fun _ hk => hk.2) (.slice Ao126 t325.length co126)) (fun _ hk => hk.2) (.slice Ao132 t328.length co132)) (fun _ h_ => h_.1))) hb); have n10_ := Aside0.mk (blk_below (g := gb272) (o := .cells #[.slice A0_0 l0_0.length c0_0, .slice A0_1 l0_1.length c0_1] 25 (0, 0)) (by (with_reducible repeat (first | refine blk_drewN ?_ _ | refine blk_drew ?_ | refine blk_alloc ?_ _)); refine blk_far ?_ NB272_332.out _; (with_reducible repeat (first | refine blk_drewN ?_ _ | refine blk_drew ?_ | refine blk_alloc ?_ _)); refine blk_far ?_ NB272_332.out _; (with_reducible repeat (first | refine blk_drewN ?_ _ | refine blk_drew ?_ | refine blk_alloc ?_ _)); exact BK272.out) hb); have n11_ := Aside0.mk (blk_below (g := gb287) (o := .cells #[.slice Ao23 t280.length co23, .slice Ao26 t283.length co26] 31 (0, 0)) (by (with_reducible repeat (first | refine blk_drewN ?_ _ | refine blk_drew ?_ | refine blk_alloc ?_ _)); refine blk_far ?_ NB287_332.out _; (with_reducible repeat (first | refine blk_drewN ?_ _ | refine blk_drew ?_ | refine blk_alloc ?_ _)); refine blk_far ?_ NB287_332.out _; (with_reducible repeat (first | refine blk_drewN ?_ _ | refine blk_drew ?_ | refine blk_alloc ?_ _)); exact BK287.out) hb); have n12_ := Aside0.mk (blk_below (g := gb294) (o := .cells #[.slice Ao30 t312.length co30, .slice Ao34 t313.length co34] 31 (0, 0)) (by (with_reducible repeat (first | refine blk_drewN ?_ _ | refine blk_drew ?_ | refine blk_alloc ?_ _)); refine blk_far ?_ NB294_332.out _; (with_reducible repeat (first | refine blk_drewN ?_ _ | refine blk_drew ?_ | refine blk_alloc ?_ _)); refine blk_far ?_ NB294_332.out _; (with_reducible repeat (first | refine blk_drewN ?_ _ | refine blk_drew ?_ | refine blk_alloc ?_ _)); exact BK294.out) hb); have n13_ := Aside0.mk (blk_below (g := gb302) (o := .cells #[.slice Ao37 t295.length co37, .slice Ao42 t298.length co42] 31 (0, 0)) (by (with_reducible repeat (first | refine blk_drewN ?_ _ | refine blk_drew ?_ | refine blk_alloc ?_ _)); refine blk_far ?_ NB302_332.out _; (with_reducible repeat (first | refine blk_drewN ?_ _ | refine blk_drew ?_ | refine blk_alloc ?_ _)); refine blk_far ?_ NB302_332.out _; (with_reducible repeat (first | refine blk_drewN ?_ _ | refine blk_drew ?_ | refine blk_alloc ?_ _)); exact BK302.out) hb); have n14_ := Aside0.mk (blk_below (g := gb332) (o := .cells #[.slice Ao126 t325.length co126, .slice Ao132 t328.length co132] 31 (0, 0)) (by (with_reducible repeat (first | refine blk_drewN ?_ _ | refine blk_drew ?_ | refine blk_alloc ?_ _)); refine blk_put (cs := #[.slice Ao126 t325.length co126, .slice none 0 0]) ?_ 1 _ rfl; (with_reducible repeat (first | refine blk_drewN ?_ _ | refine blk_drew ?_ | refine blk_alloc ?_ _)); refine blk_put (cs := #[.slice none 0 0, .slice none 0 0]) ?_ 0 _ rfl; (with_reducible repeat (first | refine blk_drewN ?_ _ | refine blk_drew ?_ | refine blk_alloc ?_ _)); exact BK332.out) hb); have n15_ := Aside0.mk (below_step (by repeat (first | (with_reducible first | exact HB.out | apply below_alloc | apply pw_below_drewN | apply below_drew1 | refine below_set ?_ GE272.out | refine below_set ?_ GE287.out | refine below_set ?_ GE294.out | refine below_set ?_ GE302.out | refine below_set ?_ GE332.out) | exact HB.out)) hb); clear HO_288000; clear HO_288001; clear HO_295000; clear HO_295001; clear HO_303000; clear HO_303001; clear HO321; clear HO324; clear HO327; clear HO330; clear BK272; clear BK287; clear BK294; clear BK302; clear BK332; clear HB; have HO_288000 := n0_; have HO_288001 := n1_; have HO_295000 := n2_; have HO_295001 := n3_; have HO_303000 := n4_; have HO_303001 := n5_; have HO321 := n6_; have HO324 := n7_; have HO327 := n8_; have HO330 := n9_; have BK272 := n10_; have BK287 := n11_; have BK294 := n12_; have BK302 := n13_; have BK332 := n14_; have HB := n15_; clear n0_ n1_ n2_ n3_ n4_ n5_ n6_ n7_ n8_ n9_ n10_ n11_ n12_ n13_ n14_ n15_; (try clear hb); (try clear hb2); (try clear hk); (try clear hi)))
                          go_meet
                          case rel => exact ⟨_, (true), (by first | rfl | (simp; done) | (simp [*]; done)), H', ⟨by have := HJ12.out; have := HJ65.out; first | omega | exact Nat.le_refl _⟩, ⟨by (try simp only [hl295000_65]); (try simp only [hl295001_65]); (with_reducible repeat (first | apply Kd.R_alloc | apply Kd.R_drewN | apply Kd.R_drew)); exact Kd.R_mono HO_288000.out (fun _ hk => ⟨hk.1.1.1, ⟨hk.1.1.2, hk.2⟩⟩)⟩, ⟨by (try simp only [hl295000_65]); (try simp only [hl295001_65]); (with_reducible repeat (first | apply Kd.R_alloc | apply Kd.R_drewN | apply Kd.R_drew)); exact Kd.R_mono HO_288001.out (fun _ hk => ⟨hk.1.1.1, ⟨hk.1.1.2, hk.2⟩⟩)⟩, ⟨by (try simp only [hl295000_65]); (try simp only [hl295001_65]); (with_reducible repeat (first | apply Kd.R_alloc | apply Kd.R_drewN | apply Kd.R_drew)); exact Kd.R_mono HO_295000.out (fun _ hk => ⟨hk.1.1.1, ⟨hk.1.1.2, hk.2⟩⟩)⟩, ⟨by (try simp only [hl295000_65]); (try simp only [hl295001_65]); (with_reducible repeat (first | apply Kd.R_alloc | apply Kd.R_drewN | apply Kd.R_drew)); exact Kd.R_mono HO_295001.out (fun _ hk => ⟨hk.1.1.1, ⟨hk.1.1.2, hk.2⟩⟩)⟩, ⟨by (try simp only [hl295000_65]); (try simp only [hl295001_65]); (with_reducible repeat (first | apply Kd.R_alloc | apply Kd.R_drewN | apply Kd.R_drew)); exact Kd.R_mono HO_303000.out (fun _ hk => ⟨hk.1.1.1, ⟨hk.1.1.2, hk.2⟩⟩)⟩, ⟨by (try simp only [hl295000_65]); (try simp only [hl295001_65]); (with_reducible repeat (first | apply Kd.R_alloc | apply Kd.R_drewN | apply Kd.R_drew)); exact Kd.R_mono HO_303001.out (fun _ hk => ⟨hk.1.1.1, ⟨hk.1.1.2, hk.2⟩⟩)⟩, ⟨by (try simp only [hl295000_65]); (try simp only [hl295001_65]); (with_reducible repeat (first | apply Kd.R_alloc | apply Kd.R_drewN | apply Kd.R_drew)); exact Kd.R_mono HO327.out (fun _ hk => ⟨hk.1.1.1.2, ⟨hk.1.1.2, hk.1.2⟩⟩)⟩, ⟨by (try simp only [hl295000_65]); (try simp only [hl295001_65]); (with_reducible repeat (first | apply Kd.R_alloc | apply Kd.R_drewN | apply Kd.R_drew)); exact Kd.R_mono HO330.out (fun _ hk => ⟨hk.1.1.1.2, ⟨hk.1.1.2, hk.1.2⟩⟩)⟩, ⟨by (try simp only [hl295000_65]); (try simp only [hl295001_65]); (with_reducible repeat (first | refine blk_drewN ?_ _ | refine blk_drew ?_ | refine blk_alloc ?_ _)); exact BK272.out⟩, ⟨by (try simp only [hl295000_65]); (try simp only [hl295001_65]); (with_reducible repeat (first | refine blk_drewN ?_ _ | refine blk_drew ?_ | refine blk_alloc ?_ _)); exact BK287.out⟩, ⟨by (try simp only [hl295000_65]); (try simp only [hl295001_65]); (with_reducible repeat (first | refine blk_drewN ?_ _ | refine blk_drew ?_ | refine blk_alloc ?_ _)); exact BK294.out⟩, ⟨by (try simp only [hl295000_65]); (try simp only [hl295001_65]); (with_reducible repeat (first | refine blk_drewN ?_ _ | refine blk_drew ?_ | refine blk_alloc ?_ _)); exact BK302.out⟩, ⟨by (try simp only [hl295000_65]); (try simp only [hl295001_65]); (with_reducible repeat (first | refine blk_drewN ?_ _ | refine blk_drew ?_ | refine blk_alloc ?_ _)); exact BK332.out⟩, ⟨by repeat (first | (with_reducible first | exact HB.out | apply below_alloc | apply pw_below_drewN | apply below_drew1 | refine below_set ?_ GE272.out | refine below_set ?_ GE287.out | refine below_set ?_ GE294.out | refine below_set ?_ GE302.out | refine below_set ?_ GE332.out) | exact HB.out)⟩⟩
                      case rest =>
                        clear HC110
                        try clear c1
                        try clear c2
                        try clear p2
                        try clear c3
                        try clear c4
                        try clear c5
                        try clear c5b0
                        try clear c6
                        try clear c7
                        try clear c8
                        try clear c9
                        try clear c10
                        try clear c11
                        try clear c12
                        try clear c13
                        try clear c14
                        try clear c15
                        try clear c18
                        try clear c19
                        try clear c24
                        try clear c30
                        try clear c31
                        try clear c32
                        try clear c33
                        try clear c34
                        try clear c38
                        try clear c39
                        try clear c40
                        try clear c44
                        try clear c45
                        try clear c46
                        try clear c47
                        try clear c49
                        try clear c50
                        try clear c53
                        try clear c54
                        try clear c55
                        try clear c57
                        try clear c58
                        try clear c61
                        try clear c64
                        try clear c72
                        try clear c73
                        try clear c74
                        try clear c77
                        try clear c77b0
                        try clear c79
                        try clear c80
                        try clear c81
                        try clear c82
                        try clear c84
                        try clear c85
                        try clear c88
                        try clear c89
                        try clear c90
                        try clear c92
                        try clear c93
                        try clear c96
                        try clear c99
                        try clear c99b0
                        try clear c100
                        try clear c101
                        try clear c102
                        try clear c107
                        try clear c107b0
                        try clear c107b1
                        try clear c111
                        try clear c112
                        try clear c113
                        try clear c118
                        try clear c119
                        try clear c127
                        try clear c128
                        try clear c129
                        try clear c130
                        try clear c134
                        try clear c135
                        try clear c136
                        try clear c137
                        try clear c138
                        try clear c140
                        try clear c141
                        try clear c142
                        try clear c145
                        try clear c146
                        try clear c147
                        try clear c148
                        try clear c150
                        try clear c151
                        try clear c152
                        try clear hcz103_0
                        try clear hcz103_1
                        try clear hcz105_0
                        try clear hcz105_1
                        try clear hcz114_0
                        try clear hcz114_1
                        try clear hcz116_0
                        try clear hcz116_1
                        try clear hcz120_0
                        try clear hcz120_1
                        try clear hcz131_0
                        try clear hcz131_1
                        try clear hcz139_0
                        try clear hcz139_1
                        try clear hcz143_0
                        try clear hcz143_1
                        try clear hcz149_0
                        try clear hcz149_1
                        try clear hcz153_0
                        try clear hcz153_1
                        try clear hcz15_0
                        try clear hcz15_1
                        try clear hcz17_0
                        try clear hcz17_1
                        try clear hcz25_0
                        try clear hcz25_1
                        try clear hcz27_0
                        try clear hcz27_1
                        try clear hcz33_0
                        try clear hcz33_1
                        try clear hcz41_0
                        try clear hcz41_1
                        try clear hcz48_0
                        try clear hcz48_1
                        try clear hcz51_0
                        try clear hcz51_1
                        try clear hcz56_0
                        try clear hcz56_1
                        try clear hcz59_0
                        try clear hcz59_1
                        try clear hcz75_0
                        try clear hcz75_1
                        try clear hcz7_0
                        try clear hcz7_1
                        try clear hcz83_0
                        try clear hcz83_1
                        try clear hcz86_0
                        try clear hcz86_1
                        try clear hcz91_0
                        try clear hcz91_1
                        try clear hcz94_0
                        try clear hcz94_1
                        try clear hfz103_0
                        try clear hfz103_1
                        try clear hfz105_0
                        try clear hfz105_1
                        try clear hfz114_0
                        try clear hfz114_1
                        try clear hfz116_0
                        try clear hfz116_1
                        try clear hfz120_0
                        try clear hfz120_1
                        try clear hfz131_0
                        try clear hfz131_1
                        try clear hfz139_0
                        try clear hfz139_1
                        try clear hfz143_0
                        try clear hfz143_1
                        try clear hfz149_0
                        try clear hfz149_1
                        try clear hfz153_0
                        try clear hfz153_1
                        try clear hfz15_0
                        try clear hfz15_1
                        try clear hfz17_0
                        try clear hfz17_1
                        try clear hfz25_0
                        try clear hfz25_1
                        try clear hfz27_0
                        try clear hfz27_1
                        try clear hfz33_0
                        try clear hfz33_1
                        try clear hfz41_0
                        try clear hfz41_1
                        try clear hfz48_0
                        try clear hfz48_1
                        try clear hfz51_0
                        try clear hfz51_1
                        try clear hfz56_0
                        try clear hfz56_1
                        try clear hfz59_0
                        try clear hfz59_1
                        try clear hfz75_0
                        try clear hfz75_1
                        try clear hfz7_0
                        try clear hfz7_1
                        try clear hfz83_0
                        try clear hfz83_1
                        try clear hfz86_0
                        try clear hfz86_1
                        try clear hfz91_0
                        try clear hfz91_1
                        try clear hfz94_0
                        try clear hfz94_1
                        try clear p2
                        obtain ⟨kq, x97_109, rfl, HA, HJ109, HO_288000, HO_288001, HO_295000, HO_295001, HO_303000, HO_303001, HO_333000, HO_333001, BK272, BK287, BK294, BK302, BK332, HB⟩ := hcut
                        have hl303000_109 := (Kd.R_reads' HO_303000.out).1
                        rw [hl303000_109] at HO_303000
                        (try simp only [hl303000_109])
                        (try simp only [hl303000_109] at BK272)
                        (try simp only [hl303000_109] at BK287)
                        (try simp only [hl303000_109] at BK294)
                        (try simp only [hl303000_109] at BK302)
                        (try simp only [hl303000_109] at BK332)
                        (try simp only [hl303000_109] at HO_288000)
                        (try simp only [hl303000_109] at HO_288001)
                        (try simp only [hl303000_109] at HO_295000)
                        (try simp only [hl303000_109] at HO_295001)
                        (try simp only [hl303000_109] at HO_303001)
                        (try simp only [hl303000_109] at HO_333000)
                        (try simp only [hl303000_109] at HO_333001)
                        have hl303001_109 := (Kd.R_reads' HO_303001.out).1
                        rw [hl303001_109] at HO_303001
                        (try simp only [hl303001_109])
                        (try simp only [hl303001_109] at BK272)
                        (try simp only [hl303001_109] at BK287)
                        (try simp only [hl303001_109] at BK294)
                        (try simp only [hl303001_109] at BK302)
                        (try simp only [hl303001_109] at BK332)
                        (try simp only [hl303001_109] at HO_288000)
                        (try simp only [hl303001_109] at HO_288001)
                        (try simp only [hl303001_109] at HO_295000)
                        (try simp only [hl303001_109] at HO_295001)
                        (try simp only [hl303001_109] at HO_303000)
                        (try simp only [hl303001_109] at HO_333000)
                        (try simp only [hl303001_109] at HO_333001)
                        cases kq with
                        | zero => exact absurd HA.out (by simp [laws_FnExactBuyParts.j2])
                        | succ kj109 =>
                          have H := HA.out
                          clear HA
                          simp only [laws_FnExactBuyParts.j2] at H
                          by_cases c155 : x97_109 = true
                          · subst c155
                            have H1 : (some false) = some r := by rw [if_pos rfl] at H; exact H
                            clear H
                            have H := H1
                            clear H1
                            obtain rfl := Option.some.inj H
                            go_wp2
                            go_ret
                            exact ⟨by first | rfl | (simp [errW_none, errW_some] <;> rfl) | (simp [*, errW_none, errW_some] <;> rfl), by repeat (first | (with_reducible first | exact HB.out | apply below_alloc | apply pw_below_drewN | apply below_drew1 | refine below_set ?_ GE272.out | refine below_set ?_ GE287.out | refine below_set ?_ GE294.out | refine below_set ?_ GE302.out | refine below_set ?_ GE332.out) | exact HB.out)⟩
                          · replace c155 := Bool.eq_false_iff.mpr c155
                            subst c155
                            have H1 : ((laws_heldShop.f kj109 t316 t317 1).bind fun t334 => (if t334 < 0 then (some false) else (if t334 = t315 then (some true) else (some false)))) = some r := by rw [if_neg (show ¬ (false = true) by decide)] at H; exact H
                            clear H
                            have H := H1
                            clear H1
                            replace H := Option.bind_eq_some_iff.mp H
                            obtain ⟨t334, A1560, H⟩ := H
                            replace H : (if t334 < 0 then (some false) else (if t334 = t315 then (some true) else (some false))) = some r := H
                            have A156 := Aside0.mk A1560
                            clear A1560
                            by_cases c157 : t334 < 0
                            · rw [if_pos c157] at H
                              have c157b0 : decide (t334 < 0) = true := decide_eq_true c157
                              clear c157
                              obtain rfl := Option.some.inj H
                              have hnb158 := NB302_272.out
                              have hnc158 := NB272_302.out
                              have hnb159 := NB302_287.out
                              have hnc159 := NB287_302.out
                              have hnb160 := NB302_294.out
                              have hnc160 := NB294_302.out
                              have hnb161 := NB302_332.out
                              have hnc161 := NB332_302.out
                              have hcz162_0 : wc.cell? ⟨gb302, 0, none⟩ = some (.slice Ao37 t316.length co37) := (blk_cell BK302.out 0).trans rfl
                              have hcz162_1 : wc.cell? ⟨gb302, 1, none⟩ = some (.slice Ao42 t317.length co42) := (blk_cell BK302.out 1).trans rfl
                              have hfz162_0 := blk_frozen BK302.out 0
                              have hfz162_1 := blk_frozen BK302.out 1
                              go_wp2_with (first | ((with_reducible refine gate_callee (f := 30) rfl ?_); refine goesL_ (some 100) rfl rfl Try.func30 (by kernel_rfl) rfl #[.agg #[.slice Ao37 t316.length co37, .slice Ao42 t317.length co42], .int .i64 1] rfl (by (try simp only [List.map_toArray, List.map_cons, List.map_nil]); first | done | rfl | (simp only [List.length_drop, List.length_take]; rfl)) ?_; (with_reducible refine (laws_heldShop.calls kj109 _ _ t316 _ _ t317 1 t334 _ ?side1 ?side2 ?side3 ?side4 A156.out).mono ?_); (case side1 => repeat (first | exact (Kd.R_reads' HO_303000.out).2.2 | (with_reducible refine Kd.C_alloc ?_ _) | (with_reducible refine Kd.C_drewN ?_ _) | (with_reducible refine Kd.C_drew ?_))); (case side2 => exact (Kd.R_reads' HO_303000.out).2.1); (case side3 => repeat (first | exact (Kd.R_reads' HO_303001.out).2.2 | (with_reducible refine Kd.C_alloc ?_ _) | (with_reducible refine Kd.C_drewN ?_ _) | (with_reducible refine Kd.C_drew ?_))); (case side4 => exact (Kd.R_reads' HO_303001.out).2.1); rintro e w163 ⟨rfl, hb⟩; refine ⟨_, rfl, ?_⟩; have n0_ := Aside0.mk (Kd.R_below (by (with_reducible repeat (first | apply Kd.R_alloc | apply Kd.R_drewN | apply Kd.R_drew)); exact HO_288000.out) hb); have n1_ := Aside0.mk (Kd.R_below (by (with_reducible repeat (first | apply Kd.R_alloc | apply Kd.R_drewN | apply Kd.R_drew)); exact HO_288001.out) hb); have n2_ := Aside0.mk (Kd.R_below (by (with_reducible repeat (first | apply Kd.R_alloc | apply Kd.R_drewN | apply Kd.R_drew)); exact HO_295000.out) hb); have n3_ := Aside0.mk (Kd.R_below (by (with_reducible repeat (first | apply Kd.R_alloc | apply Kd.R_drewN | apply Kd.R_drew)); exact HO_295001.out) hb); have n4_ := Aside0.mk (Kd.R_below (by (with_reducible repeat (first | apply Kd.R_alloc | apply Kd.R_drewN | apply Kd.R_drew)); exact HO_303000.out) hb); have n5_ := Aside0.mk (Kd.R_below (by (with_reducible repeat (first | apply Kd.R_alloc | apply Kd.R_drewN | apply Kd.R_drew)); exact HO_303001.out) hb); have n6_ := Aside0.mk (Kd.R_below (by (with_reducible repeat (first | apply Kd.R_alloc | apply Kd.R_drewN | apply Kd.R_drew)); exact HO_333000.out) hb); have n7_ := Aside0.mk (Kd.R_below (by (with_reducible repeat (first | apply Kd.R_alloc | apply Kd.R_drewN | apply Kd.R_drew)); exact HO_333001.out) hb); have n8_ := Aside0.mk (blk_below (g := gb272) (o := .cells #[.slice A0_0 l0_0.length c0_0, .slice A0_1 l0_1.length c0_1] 25 (0, 0)) (by (with_reducible repeat (first | refine blk_drewN ?_ _ | refine blk_drew ?_ | refine blk_alloc ?_ _)); exact BK272.out) hb); have n9_ := Aside0.mk (blk_below (g := gb287) (o := .cells #[.slice Ao23 t280.length co23, .slice Ao26 t283.length co26] 31 (0, 0)) (by (with_reducible repeat (first | refine blk_drewN ?_ _ | refine blk_drew ?_ | refine blk_alloc ?_ _)); exact BK287.out) hb); have n10_ := Aside0.mk (blk_below (g := gb294) (o := .cells #[.slice Ao30 t312.length co30, .slice Ao34 t313.length co34] 31 (0, 0)) (by (with_reducible repeat (first | refine blk_drewN ?_ _ | refine blk_drew ?_ | refine blk_alloc ?_ _)); exact BK294.out) hb); have n11_ := Aside0.mk (blk_below (g := gb302) (o := .cells #[.slice Ao37 t316.length co37, .slice Ao42 t317.length co42] 31 (0, 0)) (by (with_reducible repeat (first | refine blk_drewN ?_ _ | refine blk_drew ?_ | refine blk_alloc ?_ _)); exact BK302.out) hb); have n12_ := Aside0.mk (blk_below (g := gb332) (o := .cells #[.slice Ao126 t325.length co126, .slice Ao132 t328.length co132] 31 (0, 0)) (by (with_reducible repeat (first | refine blk_drewN ?_ _ | refine blk_drew ?_ | refine blk_alloc ?_ _)); exact BK332.out) hb); have n13_ := Aside0.mk (below_step (by repeat (first | (with_reducible first | exact HB.out | apply below_alloc | apply pw_below_drewN | apply below_drew1 | refine below_set ?_ GE272.out | refine below_set ?_ GE287.out | refine below_set ?_ GE294.out | refine below_set ?_ GE302.out | refine below_set ?_ GE332.out) | exact HB.out)) hb); clear HO_288000; clear HO_288001; clear HO_295000; clear HO_295001; clear HO_303000; clear HO_303001; clear HO_333000; clear HO_333001; clear BK272; clear BK287; clear BK294; clear BK302; clear BK332; clear HB; have HO_288000 := n0_; have HO_288001 := n1_; have HO_295000 := n2_; have HO_295001 := n3_; have HO_303000 := n4_; have HO_303001 := n5_; have HO_333000 := n6_; have HO_333001 := n7_; have BK272 := n8_; have BK287 := n9_; have BK294 := n10_; have BK302 := n11_; have BK332 := n12_; have HB := n13_; clear n0_ n1_ n2_ n3_ n4_ n5_ n6_ n7_ n8_ n9_ n10_ n11_ n12_ n13_; (try clear hb); (try clear hb2); (try clear hk); (try clear hi)))
                              go_ret
                              exact ⟨by first | rfl | (simp [errW_none, errW_some] <;> rfl) | (simp [*, errW_none, errW_some] <;> rfl), by repeat (first | (with_reducible first | exact HB.out | apply below_alloc | apply pw_below_drewN | apply below_drew1 | refine below_set ?_ GE272.out | refine below_set ?_ GE287.out | refine below_set ?_ GE294.out | refine below_set ?_ GE302.out | refine below_set ?_ GE332.out) | exact HB.out)⟩
                            · rw [if_neg c157] at H
                              have c157b0 : decide (t334 < 0) = false := decide_eq_false c157
                              clear c157
                              by_cases c164 : t334 = t315
                              · rw [if_pos c164] at H
                                have c164b0 : (t334 == t315) = true := beq_iff_eq.mpr c164
                                have c164b1 : (t334 != t315) = false := bne_eq_false_iff_eq.mpr c164
                                clear c164
                                obtain rfl := Option.some.inj H
                                have hnb165 := NB302_272.out
                                have hnc165 := NB272_302.out
                                have hnb166 := NB302_287.out
                                have hnc166 := NB287_302.out
                                have hnb167 := NB302_294.out
                                have hnc167 := NB294_302.out
                                have hnb168 := NB302_332.out
                                have hnc168 := NB332_302.out
                                have hcz169_0 : wc.cell? ⟨gb302, 0, none⟩ = some (.slice Ao37 t316.length co37) := (blk_cell BK302.out 0).trans rfl
                                have hcz169_1 : wc.cell? ⟨gb302, 1, none⟩ = some (.slice Ao42 t317.length co42) := (blk_cell BK302.out 1).trans rfl
                                have hfz169_0 := blk_frozen BK302.out 0
                                have hfz169_1 := blk_frozen BK302.out 1
                                go_wp2_with (first | ((with_reducible refine gate_callee (f := 30) rfl ?_); refine goesL_ (some 100) rfl rfl Try.func30 (by kernel_rfl) rfl #[.agg #[.slice Ao37 t316.length co37, .slice Ao42 t317.length co42], .int .i64 1] rfl (by (try simp only [List.map_toArray, List.map_cons, List.map_nil]); first | done | rfl | (simp only [List.length_drop, List.length_take]; rfl)) ?_; (with_reducible refine (laws_heldShop.calls kj109 _ _ t316 _ _ t317 1 t334 _ ?side1 ?side2 ?side3 ?side4 A156.out).mono ?_); (case side1 => repeat (first | exact (Kd.R_reads' HO_303000.out).2.2 | (with_reducible refine Kd.C_alloc ?_ _) | (with_reducible refine Kd.C_drewN ?_ _) | (with_reducible refine Kd.C_drew ?_))); (case side2 => exact (Kd.R_reads' HO_303000.out).2.1); (case side3 => repeat (first | exact (Kd.R_reads' HO_303001.out).2.2 | (with_reducible refine Kd.C_alloc ?_ _) | (with_reducible refine Kd.C_drewN ?_ _) | (with_reducible refine Kd.C_drew ?_))); (case side4 => exact (Kd.R_reads' HO_303001.out).2.1); rintro e w170 ⟨rfl, hb⟩; refine ⟨_, rfl, ?_⟩; have n0_ := Aside0.mk (Kd.R_below (by (with_reducible repeat (first | apply Kd.R_alloc | apply Kd.R_drewN | apply Kd.R_drew)); exact HO_288000.out) hb); have n1_ := Aside0.mk (Kd.R_below (by (with_reducible repeat (first | apply Kd.R_alloc | apply Kd.R_drewN | apply Kd.R_drew)); exact HO_288001.out) hb); have n2_ := Aside0.mk (Kd.R_below (by (with_reducible repeat (first | apply Kd.R_alloc | apply Kd.R_drewN | apply Kd.R_drew)); exact HO_295000.out) hb); have n3_ := Aside0.mk (Kd.R_below (by (with_reducible repeat (first | apply Kd.R_alloc | apply Kd.R_drewN | apply Kd.R_drew)); exact HO_295001.out) hb); have n4_ := Aside0.mk (Kd.R_below (by (with_reducible repeat (first | apply Kd.R_alloc | apply Kd.R_drewN | apply Kd.R_drew)); exact HO_303000.out) hb); have n5_ := Aside0.mk (Kd.R_below (by (with_reducible repeat (first | apply Kd.R_alloc | apply Kd.R_drewN | apply Kd.R_drew)); exact HO_303001.out) hb); have n6_ := Aside0.mk (Kd.R_below (by (with_reducible repeat (first | apply Kd.R_alloc | apply Kd.R_drewN | apply Kd.R_drew)); exact HO_333000.out) hb); have n7_ := Aside0.mk (Kd.R_below (by (with_reducible repeat (first | apply Kd.R_alloc | apply Kd.R_drewN | apply Kd.R_drew)); exact HO_333001.out) hb); have n8_ := Aside0.mk (blk_below (g := gb272) (o := .cells #[.slice A0_0 l0_0.length c0_0, .slice A0_1 l0_1.length c0_1] 25 (0, 0)) (by (with_reducible repeat (first | refine blk_drewN ?_ _ | refine blk_drew ?_ | refine blk_alloc ?_ _)); exact BK272.out) hb); have n9_ := Aside0.mk (blk_below (g := gb287) (o := .cells #[.slice Ao23 t280.length co23, .slice Ao26 t283.length co26] 31 (0, 0)) (by (with_reducible repeat (first | refine blk_drewN ?_ _ | refine blk_drew ?_ | refine blk_alloc ?_ _)); exact BK287.out) hb); have n10_ := Aside0.mk (blk_below (g := gb294) (o := .cells #[.slice Ao30 t312.length co30, .slice Ao34 t313.length co34] 31 (0, 0)) (by (with_reducible repeat (first | refine blk_drewN ?_ _ | refine blk_drew ?_ | refine blk_alloc ?_ _)); exact BK294.out) hb); have n11_ := Aside0.mk (blk_below (g := gb302) (o := .cells #[.slice Ao37 t316.length co37, .slice Ao42 t317.length co42] 31 (0, 0)) (by (with_reducible repeat (first | refine blk_drewN ?_ _ | refine blk_drew ?_ | refine blk_alloc ?_ _)); exact BK302.out) hb); have n12_ := Aside0.mk (blk_below (g := gb332) (o := .cells #[.slice Ao126 t325.length co126, .slice Ao132 t328.length co132] 31 (0, 0)) (by (with_reducible repeat (first | refine blk_drewN ?_ _ | refine blk_drew ?_ | refine blk_alloc ?_ _)); exact BK332.out) hb); have n13_ := Aside0.mk (below_step (by repeat (first | (with_reducible first | exact HB.out | apply below_alloc | apply pw_below_drewN | apply below_drew1 | refine below_set ?_ GE272.out | refine below_set ?_ GE287.out | refine below_set ?_ GE294.out | refine below_set ?_ GE302.out | refine below_set ?_ GE332.out) | exact HB.out)) hb); clear HO_288000; clear HO_288001; clear HO_295000; clear HO_295001; clear HO_303000; clear HO_303001; clear HO_333000; clear HO_333001; clear BK272; clear BK287; clear BK294; clear BK302; clear BK332; clear HB; have HO_288000 := n0_; have HO_288001 := n1_; have HO_295000 := n2_; have HO_295001 := n3_; have HO_303000 := n4_; have HO_303001 := n5_; have HO_333000 := n6_; have HO_333001 := n7_; have BK272 := n8_; have BK287 := n9_; have BK294 := n10_; have BK302 := n11_; have BK332 := n12_; have HB := n13_; clear n0_ n1_ n2_ n3_ n4_ n5_ n6_ n7_ n8_ n9_ n10_ n11_ n12_ n13_; (try clear hb); (try clear hb2); (try clear hk); (try clear hi)))
                                go_ret
                                exact ⟨by first | rfl | (simp [errW_none, errW_some] <;> rfl) | (simp [*, errW_none, errW_some] <;> rfl), by repeat (first | (with_reducible first | exact HB.out | apply below_alloc | apply pw_below_drewN | apply below_drew1 | refine below_set ?_ GE272.out | refine below_set ?_ GE287.out | refine below_set ?_ GE294.out | refine below_set ?_ GE302.out | refine below_set ?_ GE332.out) | exact HB.out)⟩
                              · rw [if_neg c164] at H
                                have c164b0 : (t334 == t315) = false := beq_eq_false_iff_ne.mpr c164
                                have c164b1 : (t334 != t315) = true := bne_iff_ne.mpr c164
                                obtain rfl := Option.some.inj H
                                have hnb171 := NB302_272.out
                                have hnc171 := NB272_302.out
                                have hnb172 := NB302_287.out
                                have hnc172 := NB287_302.out
                                have hnb173 := NB302_294.out
                                have hnc173 := NB294_302.out
                                have hnb174 := NB302_332.out
                                have hnc174 := NB332_302.out
                                have hcz175_0 : wc.cell? ⟨gb302, 0, none⟩ = some (.slice Ao37 t316.length co37) := (blk_cell BK302.out 0).trans rfl
                                have hcz175_1 : wc.cell? ⟨gb302, 1, none⟩ = some (.slice Ao42 t317.length co42) := (blk_cell BK302.out 1).trans rfl
                                have hfz175_0 := blk_frozen BK302.out 0
                                have hfz175_1 := blk_frozen BK302.out 1
                                go_wp2_with (first | ((with_reducible refine gate_callee (f := 30) rfl ?_); refine goesL_ (some 100) rfl rfl Try.func30 (by kernel_rfl) rfl #[.agg #[.slice Ao37 t316.length co37, .slice Ao42 t317.length co42], .int .i64 1] rfl (by (try simp only [List.map_toArray, List.map_cons, List.map_nil]); first | done | rfl | (simp only [List.length_drop, List.length_take]; rfl)) ?_; (with_reducible refine (laws_heldShop.calls kj109 _ _ t316 _ _ t317 1 t334 _ ?side1 ?side2 ?side3 ?side4 A156.out).mono ?_); (case side1 => repeat (first | exact (Kd.R_reads' HO_303000.out).2.2 | (with_reducible refine Kd.C_alloc ?_ _) | (with_reducible refine Kd.C_drewN ?_ _) | (with_reducible refine Kd.C_drew ?_))); (case side2 => exact (Kd.R_reads' HO_303000.out).2.1); (case side3 => repeat (first | exact (Kd.R_reads' HO_303001.out).2.2 | (with_reducible refine Kd.C_alloc ?_ _) | (with_reducible refine Kd.C_drewN ?_ _) | (with_reducible refine Kd.C_drew ?_))); (case side4 => exact (Kd.R_reads' HO_303001.out).2.1); rintro e w176 ⟨rfl, hb⟩; refine ⟨_, rfl, ?_⟩; have n0_ := Aside0.mk (Kd.R_below (by (with_reducible repeat (first | apply Kd.R_alloc | apply Kd.R_drewN | apply Kd.R_drew)); exact HO_288000.out) hb); have n1_ := Aside0.mk (Kd.R_below (by (with_reducible repeat (first | apply Kd.R_alloc | apply Kd.R_drewN | apply Kd.R_drew)); exact HO_288001.out) hb); have n2_ := Aside0.mk (Kd.R_below (by (with_reducible repeat (first | apply Kd.R_alloc | apply Kd.R_drewN | apply Kd.R_drew)); exact HO_295000.out) hb); have n3_ := Aside0.mk (Kd.R_below (by (with_reducible repeat (first | apply Kd.R_alloc | apply Kd.R_drewN | apply Kd.R_drew)); exact HO_295001.out) hb); have n4_ := Aside0.mk (Kd.R_below (by (with_reducible repeat (first | apply Kd.R_alloc | apply Kd.R_drewN | apply Kd.R_drew)); exact HO_303000.out) hb); have n5_ := Aside0.mk (Kd.R_below (by (with_reducible repeat (first | apply Kd.R_alloc | apply Kd.R_drewN | apply Kd.R_drew)); exact HO_303001.out) hb); have n6_ := Aside0.mk (Kd.R_below (by (with_reducible repeat (first | apply Kd.R_alloc | apply Kd.R_drewN | apply Kd.R_drew)); exact HO_333000.out) hb); have n7_ := Aside0.mk (Kd.R_below (by (with_reducible repeat (first | apply Kd.R_alloc | apply Kd.R_drewN | apply Kd.R_drew)); exact HO_333001.out) hb); have n8_ := Aside0.mk (blk_below (g := gb272) (o := .cells #[.slice A0_0 l0_0.length c0_0, .slice A0_1 l0_1.length c0_1] 25 (0, 0)) (by (with_reducible repeat (first | refine blk_drewN ?_ _ | refine blk_drew ?_ | refine blk_alloc ?_ _)); exact BK272.out) hb); have n9_ := Aside0.mk (blk_below (g := gb287) (o := .cells #[.slice Ao23 t280.length co23, .slice Ao26 t283.length co26] 31 (0, 0)) (by (with_reducible repeat (first | refine blk_drewN ?_ _ | refine blk_drew ?_ | refine blk_alloc ?_ _)); exact BK287.out) hb); have n10_ := Aside0.mk (blk_below (g := gb294) (o := .cells #[.slice Ao30 t312.length co30, .slice Ao34 t313.length co34] 31 (0, 0)) (by (with_reducible repeat (first | refine blk_drewN ?_ _ | refine blk_drew ?_ | refine blk_alloc ?_ _)); exact BK294.out) hb); have n11_ := Aside0.mk (blk_below (g := gb302) (o := .cells #[.slice Ao37 t316.length co37, .slice Ao42 t317.length co42] 31 (0, 0)) (by (with_reducible repeat (first | refine blk_drewN ?_ _ | refine blk_drew ?_ | refine blk_alloc ?_ _)); exact BK302.out) hb); have n12_ := Aside0.mk (blk_below (g := gb332) (o := .cells #[.slice Ao126 t325.length co126, .slice Ao132 t328.length co132] 31 (0, 0)) (by (with_reducible repeat (first | refine blk_drewN ?_ _ | refine blk_drew ?_ | refine blk_alloc ?_ _)); exact BK332.out) hb); have n13_ := Aside0.mk (below_step (by repeat (first | (with_reducible first | exact HB.out | apply below_alloc | apply pw_below_drewN | apply below_drew1 | refine below_set ?_ GE272.out | refine below_set ?_ GE287.out | refine below_set ?_ GE294.out | refine below_set ?_ GE302.out | refine below_set ?_ GE332.out) | exact HB.out)) hb); clear HO_288000; clear HO_288001; clear HO_295000; clear HO_295001; clear HO_303000; clear HO_303001; clear HO_333000; clear HO_333001; clear BK272; clear BK287; clear BK294; clear BK302; clear BK332; clear HB; have HO_288000 := n0_; have HO_288001 := n1_; have HO_295000 := n2_; have HO_295001 := n3_; have HO_303000 := n4_; have HO_303001 := n5_; have HO_333000 := n6_; have HO_333001 := n7_; have BK272 := n8_; have BK287 := n9_; have BK294 := n10_; have BK302 := n11_; have BK332 := n12_; have HB := n13_; clear n0_ n1_ n2_ n3_ n4_ n5_ n6_ n7_ n8_ n9_ n10_ n11_ n12_ n13_; (try clear hb); (try clear hb2); (try clear hk); (try clear hi)))
                                go_ret
                                exact ⟨by first | rfl | (simp [errW_none, errW_some] <;> rfl) | (simp [*, errW_none, errW_some] <;> rfl), by repeat (first | (with_reducible first | exact HB.out | apply below_alloc | apply pw_below_drewN | apply below_drew1 | refine below_set ?_ GE272.out | refine below_set ?_ GE287.out | refine below_set ?_ GE294.out | refine below_set ?_ GE302.out | refine below_set ?_ GE332.out) | exact HB.out)⟩
                    · rw [if_neg c107] at H
                      have c107b0 : (t318 == t315) = false := beq_eq_false_iff_ne.mpr c107
                      have c107b1 : (t318 != t315) = true := bne_iff_ne.mpr c107
                      obtain rfl := Option.some.inj H
                      have hnb177 := NB302_272.out
                      have hnc177 := NB272_302.out
                      have hnb178 := NB302_287.out
                      have hnc178 := NB287_302.out
                      have hnb179 := NB302_294.out
                      have hnc179 := NB294_302.out
                      have hcz180_0 : wc.cell? ⟨gb302, 0, none⟩ = some (.slice Ao37 t295.length co37) := (blk_cell BK302.out 0).trans rfl
                      have hcz180_1 : wc.cell? ⟨gb302, 1, none⟩ = some (.slice Ao42 t298.length co42) := (blk_cell BK302.out 1).trans rfl
                      have hfz180_0 := blk_frozen BK302.out 0
                      have hfz180_1 := blk_frozen BK302.out 1
                      go_wp2_with (first | ((with_reducible refine gate_callee (f := 19) rfl ?_); refine goesL_ (some 72) rfl rfl Try.func19 (by kernel_rfl) rfl #[.agg #[.slice Ao37 t295.length co37, .slice Ao42 t298.length co42], .int .i64 1] rfl (by (try simp only [List.map_toArray, List.map_cons, List.map_nil]); first | done | rfl | (simp only [List.length_drop, List.length_take]; rfl)) ?_; (with_reducible refine (laws_markShop.calls kj65 (fun k_ => some k_ = (.slice Ao37 t295.length co37 : Value).ownBlock) (.slice Ao37 t295.length co37) t295 (fun k_ => some k_ = (.slice Ao42 t298.length co42 : Value).ownBlock) (.slice Ao42 t298.length co42) t298 1 t315 t316 t317 w _ ?side1 ?side2 ?side3 A97.out).mono ?_); (case side1 => repeat (first | (with_reducible first | exact HB.out | apply below_alloc | apply pw_below_drewN | apply below_drew1 | refine below_set ?_ GE272.out | refine below_set ?_ GE287.out | refine below_set ?_ GE294.out | refine below_set ?_ GE302.out) | exact HB.out)); (case side2 => exact Kd.R_tight rfl HO_303000.out); (case side3 => exact Kd.R_tight rfl HO_303001.out); rintro e w181 ⟨rfl, hy0, hy1, hb, hkp⟩; refine ⟨_, rfl, ?_⟩; have n0_ := Aside0.mk (Kd.R_mono (ok' := fun k_ => some k_ ≠ (.slice Ao30 t312.length co30 : Value).ownBlock ∧ some k_ ≠ (.slice Ao37 t295.length co37 : Value).ownBlock) (Kd.R_keptB ((Kd.R_apart' HO_288000.out (Kd.R_typed HO_303001.out) (by decide))) hkp (fun k_ hk_ hs_ => Or.elim hs_ (fun e_ => (hk_.1.2) e_) (fun e_ => (hk_.2) e_))) (fun k_ hk_ => ⟨hk_.1.1.1, hk_.1.1.2⟩)); have n1_ := Aside0.mk (Kd.R_mono (ok' := fun k_ => some k_ ≠ (.slice Ao34 t313.length co34 : Value).ownBlock ∧ some k_ ≠ (.slice Ao42 t298.length co42 : Value).ownBlock) (Kd.R_keptB ((Kd.R_apart' HO_288001.out (Kd.R_typed HO_303000.out) (by decide))) hkp (fun k_ hk_ hs_ => Or.elim hs_ (fun e_ => (hk_.2) e_) (fun e_ => (hk_.1.2) e_))) (fun k_ hk_ => ⟨hk_.1.1.1, hk_.1.1.2⟩)); have n2_ := Aside0.mk (Kd.R_mono (ok' := fun k_ => some k_ ≠ (.slice Ao23 t280.length co23 : Value).ownBlock ∧ some k_ ≠ (.slice Ao37 t295.length co37 : Value).ownBlock) (Kd.R_keptB ((Kd.R_apart' HO_295000.out (Kd.R_typed HO_303001.out) (by decide))) hkp (fun k_ hk_ hs_ => Or.elim hs_ (fun e_ => (hk_.1.2) e_) (fun e_ => (hk_.2) e_))) (fun k_ hk_ => ⟨hk_.1.1.1, hk_.1.1.2⟩)); have n3_ := Aside0.mk (Kd.R_mono (ok' := fun k_ => some k_ ≠ (.slice Ao26 t283.length co26 : Value).ownBlock ∧ some k_ ≠ (.slice Ao42 t298.length co42 : Value).ownBlock) (Kd.R_keptB ((Kd.R_apart' HO_295001.out (Kd.R_typed HO_303000.out) (by decide))) hkp (fun k_ hk_ hs_ => Or.elim hs_ (fun e_ => (hk_.2) e_) (fun e_ => (hk_.1.2) e_))) (fun k_ hk_ => ⟨hk_.1.1.1, hk_.1.1.2⟩)); have n4_ := Aside0.mk (Kd.R_reok rfl hy0 (fun k_ e_ => HO_303000.out.1 k_ e_)); have n5_ := Aside0.mk (Kd.R_reok rfl hy1 (fun k_ e_ => HO_303001.out.1 k_ e_)); have n6_ := Aside0.mk (blk_kept (by (with_reducible repeat (first | refine blk_drewN ?_ _ | refine blk_drew ?_ | refine blk_alloc ?_ _)); exact BK272.out) hkp (fun hs_ => Or.elim hs_ (fun e_ => (fun e_ => (Kd.R_ne HO_303000.out BK272.out (by decide)) e_) e_) (fun e_ => (fun e_ => (Kd.R_ne HO_303001.out BK272.out (by decide)) e_) e_))); have n7_ := Aside0.mk (blk_kept (by (with_reducible repeat (first | refine blk_drewN ?_ _ | refine blk_drew ?_ | refine blk_alloc ?_ _)); exact BK287.out) hkp (fun hs_ => Or.elim hs_ (fun e_ => (fun e_ => (Kd.R_ne HO_303000.out BK287.out (by decide)) e_) e_) (fun e_ => (fun e_ => (Kd.R_ne HO_303001.out BK287.out (by decide)) e_) e_))); have n8_ := Aside0.mk (blk_kept (by (with_reducible repeat (first | refine blk_drewN ?_ _ | refine blk_drew ?_ | refine blk_alloc ?_ _)); exact BK294.out) hkp (fun hs_ => Or.elim hs_ (fun e_ => (fun e_ => (Kd.R_ne HO_303000.out BK294.out (by decide)) e_) e_) (fun e_ => (fun e_ => (Kd.R_ne HO_303001.out BK294.out (by decide)) e_) e_))); have n9_ := Aside0.mk (blk_kept (by (with_reducible repeat (first | refine blk_drewN ?_ _ | refine blk_drew ?_ | refine blk_alloc ?_ _)); exact BK302.out) hkp (fun hs_ => Or.elim hs_ (fun e_ => (fun e_ => (Kd.R_ne HO_303000.out BK302.out (by decide)) e_) e_) (fun e_ => (fun e_ => (Kd.R_ne HO_303001.out BK302.out (by decide)) e_) e_))); have n10_ := Aside0.mk (hb); clear HO_288000; clear HO_288001; clear HO_295000; clear HO_295001; clear HO_303000; clear HO_303001; clear BK272; clear BK287; clear BK294; clear BK302; clear HB; have HO_288000 := n0_; have HO_288001 := n1_; have HO_295000 := n2_; have HO_295001 := n3_; have HO_303000 := n4_; have HO_303001 := n5_; have BK272 := n6_; have BK287 := n7_; have BK294 := n8_; have BK302 := n9_; have HB := n10_; clear n0_ n1_ n2_ n3_ n4_ n5_ n6_ n7_ n8_ n9_ n10_; (try clear hb); (try clear hkp); (try clear hy0); (try clear hy1); have hcz182_0 : w181.cell? ⟨gb302, 0, none⟩ = some (.slice Ao37 t295.length co37) := (blk_cell BK302.out 0).trans rfl; have hcz182_1 : w181.cell? ⟨gb302, 1, none⟩ = some (.slice Ao42 t298.length co42) := (blk_cell BK302.out 1).trans rfl; have hfz182_0 := blk_frozen BK302.out 0; have hfz182_1 := blk_frozen BK302.out 1) | ((with_reducible refine gate_callee (f := 30) rfl ?_); refine goesL_ (some 75) rfl rfl Try.func30 (by kernel_rfl) rfl #[.agg #[.slice Ao37 t316.length co37, .slice Ao42 t317.length co42], .int .i64 1] rfl (by (try simp only [List.map_toArray, List.map_cons, List.map_nil]); first | done | (rw [show t316.length = t295.length from (Kd.R_reads' HO_303000.out).1.symm, show t317.length = t298.length from (Kd.R_reads' HO_303001.out).1.symm] <;> rfl) | rfl | (simp only [List.length_drop, List.length_take]; rfl)) ?_; (with_reducible refine (laws_heldShop.calls kj65 _ _ t316 _ _ t317 1 t318 _ ?side1 ?side2 ?side3 ?side4 A98.out).mono ?_); (case side1 => repeat (first | exact (Kd.R_reads' HO_303000.out).2.2 | (with_reducible refine Kd.C_alloc ?_ _) | (with_reducible refine Kd.C_drewN ?_ _) | (with_reducible refine Kd.C_drew ?_))); (case side2 => rw [show t316.length = t295.length from (Kd.R_reads' HO_303000.out).1.symm]; exact (Kd.R_reads' HO_303000.out).2.1); (case side3 => repeat (first | exact (Kd.R_reads' HO_303001.out).2.2 | (with_reducible refine Kd.C_alloc ?_ _) | (with_reducible refine Kd.C_drewN ?_ _) | (with_reducible refine Kd.C_drew ?_))); (case side4 => rw [show t317.length = t298.length from (Kd.R_reads' HO_303001.out).1.symm]; exact (Kd.R_reads' HO_303001.out).2.1); rintro e w183 ⟨rfl, hb⟩; refine ⟨_, rfl, ?_⟩; have n0_ := Aside0.mk (Kd.R_below (by (with_reducible repeat (first | apply Kd.R_alloc | apply Kd.R_drewN | apply Kd.R_drew)); exact HO_288000.out) hb); have n1_ := Aside0.mk (Kd.R_below (by (with_reducible repeat (first | apply Kd.R_alloc | apply Kd.R_drewN | apply Kd.R_drew)); exact HO_288001.out) hb); have n2_ := Aside0.mk (Kd.R_below (by (with_reducible repeat (first | apply Kd.R_alloc | apply Kd.R_drewN | apply Kd.R_drew)); exact HO_295000.out) hb); have n3_ := Aside0.mk (Kd.R_below (by (with_reducible repeat (first | apply Kd.R_alloc | apply Kd.R_drewN | apply Kd.R_drew)); exact HO_295001.out) hb); have n4_ := Aside0.mk (Kd.R_below (by (with_reducible repeat (first | apply Kd.R_alloc | apply Kd.R_drewN | apply Kd.R_drew)); exact HO_303000.out) hb); have n5_ := Aside0.mk (Kd.R_below (by (with_reducible repeat (first | apply Kd.R_alloc | apply Kd.R_drewN | apply Kd.R_drew)); exact HO_303001.out) hb); have n6_ := Aside0.mk (blk_below (g := gb272) (o := .cells #[.slice A0_0 l0_0.length c0_0, .slice A0_1 l0_1.length c0_1] 25 (0, 0)) (by (with_reducible repeat (first | refine blk_drewN ?_ _ | refine blk_drew ?_ | refine blk_alloc ?_ _)); exact BK272.out) hb); have n7_ := Aside0.mk (blk_below (g := gb287) (o := .cells #[.slice Ao23 t280.length co23, .slice Ao26 t283.length co26] 31 (0, 0)) (by (with_reducible repeat (first | refine blk_drewN ?_ _ | refine blk_drew ?_ | refine blk_alloc ?_ _)); exact BK287.out) hb); have n8_ := Aside0.mk (blk_below (g := gb294) (o := .cells #[.slice Ao30 t312.length co30, .slice Ao34 t313.length co34] 31 (0, 0)) (by (with_reducible repeat (first | refine blk_drewN ?_ _ | refine blk_drew ?_ | refine blk_alloc ?_ _)); exact BK294.out) hb); have n9_ := Aside0.mk (blk_below (g := gb302) (o := .cells #[.slice Ao37 t295.length co37, .slice Ao42 t298.length co42] 31 (0, 0)) (by (with_reducible repeat (first | refine blk_drewN ?_ _ | refine blk_drew ?_ | refine blk_alloc ?_ _)); exact BK302.out) hb); have n10_ := Aside0.mk (below_step (by repeat (first | (with_reducible first | exact HB.out | apply below_alloc | apply pw_below_drewN | apply below_drew1 | refine below_set ?_ GE272.out | refine below_set ?_ GE287.out | refine below_set ?_ GE294.out | refine below_set ?_ GE302.out) | exact HB.out)) hb); clear HO_288000; clear HO_288001; clear HO_295000; clear HO_295001; clear HO_303000; clear HO_303001; clear BK272; clear BK287; clear BK294; clear BK302; clear HB; have HO_288000 := n0_; have HO_288001 := n1_; have HO_295000 := n2_; have HO_295001 := n3_; have HO_303000 := n4_; have HO_303001 := n5_; have BK272 := n6_; have BK287 := n7_; have BK294 := n8_; have BK302 := n9_; have HB := n10_; clear n0_ n1_ n2_ n3_ n4_ n5_ n6_ n7_ n8_ n9_ n10_; (try clear hb); (try clear hb2); (try clear hk); (try clear hi)))
                      go_ret
                      exact ⟨by first | rfl | (simp [errW_none, errW_some] <;> rfl) | (simp [*, errW_none, errW_some] <;> rfl), by repeat (first | (with_reducible first | exact HB.out | apply below_alloc | apply pw_below_drewN | apply below_drew1 | refine below_set ?_ GE272.out | refine below_set ?_ GE287.out | refine below_set ?_ GE294.out | refine below_set ?_ GE302.out) | exact HB.out)⟩
          · replace c64 := Bool.eq_false_iff.mpr c64
            subst c64
            have H1 : (some false) = some r := by rw [if_neg (show ¬ (false = true) by decide)] at H; exact H
            clear H
            have H := H1
            clear H1
            obtain rfl := Option.some.inj H
            try go_wp2
            have n0_ := Aside0.mk (Kd.R_drew HO_288000.out)
            have n1_ := Aside0.mk (Kd.R_drew HO_288001.out)
            have n2_ := Aside0.mk (Kd.R_drew HO_295000.out)
            have n3_ := Aside0.mk (Kd.R_drew HO_295001.out)
            have n4_ := Aside0.mk (Kd.R_drew HO_303000.out)
            have n5_ := Aside0.mk (Kd.R_drew HO_303001.out)
            have n6_ := Aside0.mk (blk_drew BK272.out)
            have n7_ := Aside0.mk (blk_drew BK287.out)
            have n8_ := Aside0.mk (blk_drew BK294.out)
            have n9_ := Aside0.mk (blk_drew BK302.out)
            have n10_ := Aside0.mk (below_drew1 HB.out)
            clear HO_288000
            clear HO_288001
            clear HO_295000
            clear HO_295001
            clear HO_303000
            clear HO_303001
            clear BK272
            clear BK287
            clear BK294
            clear BK302
            clear HB
            have HO_288000 := n0_
            have HO_288001 := n1_
            have HO_295000 := n2_
            have HO_295001 := n3_
            have HO_303000 := n4_
            have HO_303001 := n5_
            have BK272 := n6_
            have BK287 := n7_
            have BK294 := n8_
            have BK302 := n9_
            have HB := n10_
            clear n0_ n1_ n2_ n3_ n4_ n5_ n6_ n7_ n8_ n9_ n10_
            refine start_ (n := 5) (S := fun w' => w'.cell? ⟨gb294, 0, none⟩ = some (.slice Ao30 t288.length co30) ∧ w'.cell? ⟨gb294, 1, none⟩ = some (.slice Ao34 t291.length co34) ∧ w'.cell? ⟨gb272, 0, none⟩ = some (.slice A0_0 l0_0.length c0_0) ∧ w'.cell? ⟨gb272, 1, none⟩ = some (.slice A0_1 l0_1.length c0_1)) (ds := []) #[false, false, false, false, false] (by kernel_rfl) rfl rfl ⟨(blk_cell BK294.out 0).trans rfl, (blk_cell BK294.out 1).trans rfl, (blk_cell BK272.out 0).trans rfl, (blk_cell BK272.out 1).trans rfl⟩ (fun hHeld => ?_)
            generalize wc.drew = w184 at HO_288000 HO_288001 HO_295000 HO_295001 HO_303000 HO_303001 BK272 BK287 BK294 BK302 HB hHeld ⊢
            refine take_ (i := 0) (N := some 49) (v := ?_) (a' := ?_) #[true, false, false, false, false] rfl rfl (by kernel_rfl) (fun _ _ _ h => h) (Or.inl ⟨by rfl, ?_⟩) hHeld ?_ ?_
            rotate_left
            · rintro w' ⟨s0, s1, s2, s3⟩
              go_simp
              with_reducible rfl
            rotate_left
            · simp only [Act.put, List.setIfInBounds_toArray, List.set_cons_zero, List.set_cons_succ, i64_w, i32_w]
              rfl
            refine take_ (i := 1) (N := some 50) (v := ?_) (a' := ?_) #[true, true, false, false, false] rfl rfl (by kernel_rfl) (fun _ _ _ h => h) (Or.inl ⟨by rfl, ?_⟩) hHeld ?_ ?_
            rotate_left
            · rintro w' ⟨s0, s1, s2, s3⟩
              go_simp
              with_reducible rfl
            rotate_left
            · simp only [Act.put, List.setIfInBounds_toArray, List.set_cons_zero, List.set_cons_succ, i64_w, i32_w]
              rfl
            refine one_ (i := 2) (N := some 51) #[true, true, true, false, false] rfl rfl (by kernel_rfl) (by decide) (fun K hK => ?_)
            refine goes_ Try.func15 (by kernel_rfl) rfl #[.agg #[.slice A0_0 l0_0.length c0_0, .slice A0_1 l0_1.length c0_1]] (by rfl) rfl rfl (by (try simp only [List.map_toArray, List.map_cons, List.map_nil]); first | done | rfl | (simp only [List.length_drop, List.length_take]; rfl)) ?_
            with_reducible refine (laws_toShop.calls kj12 _ _ l0_0 _ _ l0_1 t304 t307 _ ?side1 ?side2 ?side3 ?side4 A62.out).mono ?_
            (case side1 => repeat (first | exact (Kd.C_below HR0_0.out HB.out) | (with_reducible refine Kd.C_alloc ?_ _) | (with_reducible refine Kd.C_drewN ?_ _) | (with_reducible refine Kd.C_drew ?_)))
            (case side2 => exact HC0_0.out)
            (case side3 => repeat (first | exact (Kd.C_below HR0_1.out HB.out) | (with_reducible refine Kd.C_alloc ?_ _) | (with_reducible refine Kd.C_drewN ?_ _) | (with_reducible refine Kd.C_drew ?_)))
            (case side4 => exact HC0_1.out)
            rintro e w185 ⟨v305, v308, rfl, ho0, ho1, hb⟩
            refine ⟨_, rfl, ?_⟩
            have n0_ := Aside0.mk (Kd.R_elder' (by (with_reducible repeat (first | apply Kd.R_alloc | apply Kd.R_drewN | apply Kd.R_drew)); exact HO_288000.out) (Kd.R_base ho0) hb)
            have n1_ := Aside0.mk (Kd.R_elder' (by (with_reducible repeat (first | apply Kd.R_alloc | apply Kd.R_drewN | apply Kd.R_drew)); exact HO_288001.out) (Kd.R_base ho1) hb)
            have n2_ := Aside0.mk (Kd.R_elder' (by (with_reducible repeat (first | apply Kd.R_alloc | apply Kd.R_drewN | apply Kd.R_drew)); exact HO_295000.out) (Kd.R_base ho0) hb)
            have n3_ := Aside0.mk (Kd.R_elder' (by (with_reducible repeat (first | apply Kd.R_alloc | apply Kd.R_drewN | apply Kd.R_drew)); exact HO_295001.out) (Kd.R_base ho1) hb)
            have n4_ := Aside0.mk (Kd.R_elder' (by (with_reducible repeat (first | apply Kd.R_alloc | apply Kd.R_drewN | apply Kd.R_drew)); exact HO_303000.out) (Kd.R_base ho0) hb)
            have n5_ := Aside0.mk (Kd.R_elder' (by (with_reducible repeat (first | apply Kd.R_alloc | apply Kd.R_drewN | apply Kd.R_drew)); exact HO_303001.out) (Kd.R_base ho1) hb)
            have n6_ := Aside0.mk (Kd.R_lower (Kd.R_new' (Kd.R_new' (Kd.R_new' ho0 (Kd.R_lt (by (with_reducible repeat (first | apply Kd.R_alloc | apply Kd.R_drewN | apply Kd.R_drew)); exact HO_288000.out))) (Kd.R_lt (by (with_reducible repeat (first | apply Kd.R_alloc | apply Kd.R_drewN | apply Kd.R_drew)); exact HO_295000.out))) (Kd.R_lt (by (with_reducible repeat (first | apply Kd.R_alloc | apply Kd.R_drewN | apply Kd.R_drew)); exact HO_303000.out))) (below_size (by repeat (first | (with_reducible first | exact HB.out | apply below_alloc | apply pw_below_drewN | apply below_drew1 | refine below_set ?_ GE272.out | refine below_set ?_ GE287.out | refine below_set ?_ GE294.out | refine below_set ?_ GE302.out) | exact HB.out))))
            have n7_ := Aside0.mk (Kd.R_lower (Kd.R_new' (Kd.R_new' (Kd.R_new' ho1 (Kd.R_lt (by (with_reducible repeat (first | apply Kd.R_alloc | apply Kd.R_drewN | apply Kd.R_drew)); exact HO_288001.out))) (Kd.R_lt (by (with_reducible repeat (first | apply Kd.R_alloc | apply Kd.R_drewN | apply Kd.R_drew)); exact HO_295001.out))) (Kd.R_lt (by (with_reducible repeat (first | apply Kd.R_alloc | apply Kd.R_drewN | apply Kd.R_drew)); exact HO_303001.out))) (below_size (by repeat (first | (with_reducible first | exact HB.out | apply below_alloc | apply pw_below_drewN | apply below_drew1 | refine below_set ?_ GE272.out | refine below_set ?_ GE287.out | refine below_set ?_ GE294.out | refine below_set ?_ GE302.out) | exact HB.out))))
            have n8_ := Aside0.mk (blk_below (g := gb272) (o := .cells #[.slice A0_0 l0_0.length c0_0, .slice A0_1 l0_1.length c0_1] 25 (0, 0)) (by (with_reducible repeat (first | refine blk_drewN ?_ _ | refine blk_drew ?_ | refine blk_alloc ?_ _)); exact BK272.out) hb)
            have n9_ := Aside0.mk (blk_below (g := gb287) (o := .cells #[.slice Ao23 t280.length co23, .slice Ao26 t283.length co26] 31 (0, 0)) (by (with_reducible repeat (first | refine blk_drewN ?_ _ | refine blk_drew ?_ | refine blk_alloc ?_ _)); exact BK287.out) hb)
            have n10_ := Aside0.mk (blk_below (g := gb294) (o := .cells #[.slice Ao30 t288.length co30, .slice Ao34 t291.length co34] 31 (0, 0)) (by (with_reducible repeat (first | refine blk_drewN ?_ _ | refine blk_drew ?_ | refine blk_alloc ?_ _)); exact BK294.out) hb)
            have n11_ := Aside0.mk (blk_below (g := gb302) (o := .cells #[.slice Ao37 t295.length co37, .slice Ao42 t298.length co42] 31 (0, 0)) (by (with_reducible repeat (first | refine blk_drewN ?_ _ | refine blk_drew ?_ | refine blk_alloc ?_ _)); exact BK302.out) hb)
            have n12_ := Aside0.mk (below_step (by repeat (first | (with_reducible first | exact HB.out | apply below_alloc | apply pw_below_drewN | apply below_drew1 | refine below_set ?_ GE272.out | refine below_set ?_ GE287.out | refine below_set ?_ GE294.out | refine below_set ?_ GE302.out) | exact HB.out)) hb)
            clear HO_288000
            clear HO_288001
            clear HO_295000
            clear HO_295001
            clear HO_303000
            clear HO_303001
            clear BK272
            clear BK287
            clear BK294
            clear BK302
            clear HB
            have HO_288000 := n0_
            have HO_288001 := n1_
            have HO_295000 := n2_
            have HO_295001 := n3_
            have HO_303000 := n4_
            have HO_303001 := n5_
            have HO306 := n6_
            have HO309 := n7_
            have BK272 := n8_
            have BK287 := n9_
            have BK294 := n10_
            have BK302 := n11_
            have HB := n12_
            clear n0_ n1_ n2_ n3_ n4_ n5_ n6_ n7_ n8_ n9_ n10_ n11_ n12_
            (try clear hb)
            (try clear hb2)
            (try clear hk)
            (try clear hi)
            (try clear ho0)
            (try clear ho1)
            obtain ⟨Ao186, co186, eo186⟩ := Kd.R_slice HO306.out
            (first | subst eo186 | (injection eo186 with f1_ f2_ f3_; have f4_ := f1_.symm; have f5_ := f3_.symm; clear f1_ f2_ f3_; subst f4_; subst f5_))
            obtain ⟨Ao187, co187, eo187⟩ := Kd.R_slice HO309.out
            (first | subst eo187 | (injection eo187 with f1_ f2_ f3_; have f4_ := f1_.symm; have f5_ := f3_.symm; clear f1_ f2_ f3_; subst f4_; subst f5_))
            refine hK.out _ _ ⟨(blk_cell BK294.out 0).trans rfl, (blk_cell BK294.out 1).trans rfl, (blk_cell BK272.out 0).trans rfl, (blk_cell BK272.out 1).trans rfl⟩ (fun hHeld => ?_)
            clear hK K
            refine norm_ (a' := ?_) ?_ ?_
            rotate_left
            · show Act.put _ (some 51) _ = _
              simp only [Act.put, List.setIfInBounds_toArray, List.set_cons_zero, List.set_cons_succ, i64_w, i32_w]
              rfl
            refine one_ (i := 3) (N := some 52) #[true, true, true, true, false] rfl rfl (by kernel_rfl) (by decide) (fun K hK => ?_)
            refine goes_ Try.func18 (by kernel_rfl) rfl #[.agg #[.slice Ao30 t288.length co30, .slice Ao34 t291.length co34], .agg #[.slice Ao186 t304.length co186, .slice Ao187 t307.length co187]] (by rfl) rfl rfl (by (try simp only [List.map_toArray, List.map_cons, List.map_nil]); first | done | rfl | (simp only [List.length_drop, List.length_take]; rfl)) ?_
            with_reducible refine (laws_eqShop.calls kj12 _ _ t288 _ _ t291 _ _ t304 _ _ t307 false _ ?side1 ?side2 ?side3 ?side4 ?side5 ?side6 ?side7 ?side8 A63.out).mono ?_
            (case side1 => repeat (first | exact (Kd.R_reads' HO_295000.out).2.2 | (with_reducible refine Kd.C_alloc ?_ _) | (with_reducible refine Kd.C_drewN ?_ _) | (with_reducible refine Kd.C_drew ?_)))
            (case side2 => exact (Kd.R_reads' HO_295000.out).2.1)
            (case side3 => repeat (first | exact (Kd.R_reads' HO_295001.out).2.2 | (with_reducible refine Kd.C_alloc ?_ _) | (with_reducible refine Kd.C_drewN ?_ _) | (with_reducible refine Kd.C_drew ?_)))
            (case side4 => exact (Kd.R_reads' HO_295001.out).2.1)
            (case side5 => repeat (first | exact (Kd.R_reads' HO306.out).2.2 | (with_reducible refine Kd.C_alloc ?_ _) | (with_reducible refine Kd.C_drewN ?_ _) | (with_reducible refine Kd.C_drew ?_)))
            (case side6 => exact (Kd.R_reads' HO306.out).2.1)
            (case side7 => repeat (first | exact (Kd.R_reads' HO309.out).2.2 | (with_reducible refine Kd.C_alloc ?_ _) | (with_reducible refine Kd.C_drewN ?_ _) | (with_reducible refine Kd.C_drew ?_)))
            (case side8 => exact (Kd.R_reads' HO309.out).2.1)
            rintro e w188 ⟨rfl, hb⟩
            refine ⟨_, rfl, ?_⟩
            have n0_ := Aside0.mk (Kd.R_below (by (with_reducible repeat (first | apply Kd.R_alloc | apply Kd.R_drewN | apply Kd.R_drew)); exact HO_288000.out) hb)
            have n1_ := Aside0.mk (Kd.R_below (by (with_reducible repeat (first | apply Kd.R_alloc | apply Kd.R_drewN | apply Kd.R_drew)); exact HO_288001.out) hb)
            have n2_ := Aside0.mk (Kd.R_below (by (with_reducible repeat (first | apply Kd.R_alloc | apply Kd.R_drewN | apply Kd.R_drew)); exact HO_295000.out) hb)
            have n3_ := Aside0.mk (Kd.R_below (by (with_reducible repeat (first | apply Kd.R_alloc | apply Kd.R_drewN | apply Kd.R_drew)); exact HO_295001.out) hb)
            have n4_ := Aside0.mk (Kd.R_below (by (with_reducible repeat (first | apply Kd.R_alloc | apply Kd.R_drewN | apply Kd.R_drew)); exact HO_303000.out) hb)
            have n5_ := Aside0.mk (Kd.R_below (by (with_reducible repeat (first | apply Kd.R_alloc | apply Kd.R_drewN | apply Kd.R_drew)); exact HO_303001.out) hb)
            have n6_ := Aside0.mk (Kd.R_below (by (with_reducible repeat (first | apply Kd.R_alloc | apply Kd.R_drewN | apply Kd.R_drew)); exact HO306.out) hb)
            have n7_ := Aside0.mk (Kd.R_below (by (with_reducible repeat (first | apply Kd.R_alloc | apply Kd.R_drewN | apply Kd.R_drew)); exact HO309.out) hb)
            have n8_ := Aside0.mk (blk_below (g := gb272) (o := .cells #[.slice A0_0 l0_0.length c0_0, .slice A0_1 l0_1.length c0_1] 25 (0, 0)) (by (with_reducible repeat (first | refine blk_drewN ?_ _ | refine blk_drew ?_ | refine blk_alloc ?_ _)); exact BK272.out) hb)
            have n9_ := Aside0.mk (blk_below (g := gb287) (o := .cells #[.slice Ao23 t280.length co23, .slice Ao26 t283.length co26] 31 (0, 0)) (by (with_reducible repeat (first | refine blk_drewN ?_ _ | refine blk_drew ?_ | refine blk_alloc ?_ _)); exact BK287.out) hb)
            have n10_ := Aside0.mk (blk_below (g := gb294) (o := .cells #[.slice Ao30 t288.length co30, .slice Ao34 t291.length co34] 31 (0, 0)) (by (with_reducible repeat (first | refine blk_drewN ?_ _ | refine blk_drew ?_ | refine blk_alloc ?_ _)); exact BK294.out) hb)
            have n11_ := Aside0.mk (blk_below (g := gb302) (o := .cells #[.slice Ao37 t295.length co37, .slice Ao42 t298.length co42] 31 (0, 0)) (by (with_reducible repeat (first | refine blk_drewN ?_ _ | refine blk_drew ?_ | refine blk_alloc ?_ _)); exact BK302.out) hb)
            have n12_ := Aside0.mk (below_step (by repeat (first | (with_reducible first | exact HB.out | apply below_alloc | apply pw_below_drewN | apply below_drew1 | refine below_set ?_ GE272.out | refine below_set ?_ GE287.out | refine below_set ?_ GE294.out | refine below_set ?_ GE302.out) | exact HB.out)) hb)
            clear HO_288000
            clear HO_288001
            clear HO_295000
            clear HO_295001
            clear HO_303000
            clear HO_303001
            clear HO306
            clear HO309
            clear BK272
            clear BK287
            clear BK294
            clear BK302
            clear HB
            have HO_288000 := n0_
            have HO_288001 := n1_
            have HO_295000 := n2_
            have HO_295001 := n3_
            have HO_303000 := n4_
            have HO_303001 := n5_
            have HO306 := n6_
            have HO309 := n7_
            have BK272 := n8_
            have BK287 := n9_
            have BK294 := n10_
            have BK302 := n11_
            have HB := n12_
            clear n0_ n1_ n2_ n3_ n4_ n5_ n6_ n7_ n8_ n9_ n10_ n11_ n12_
            (try clear hb)
            (try clear hb2)
            (try clear hk)
            (try clear hi)
            refine hK.out _ _ ⟨(blk_cell BK294.out 0).trans rfl, (blk_cell BK294.out 1).trans rfl, (blk_cell BK272.out 0).trans rfl, (blk_cell BK272.out 1).trans rfl⟩ (fun hHeld => ?_)
            clear hK K
            refine norm_ (a' := ?_) ?_ ?_
            rotate_left
            · show Act.put _ (some 52) _ = _
              simp only [Act.put, List.setIfInBounds_toArray, List.set_cons_zero, List.set_cons_succ, i64_w, i32_w]
              rfl
            refine pure_ (i := 4) (N := some 53) (v := ?_) (a' := ?_) #[true, true, true, true, true] rfl rfl (by kernel_rfl) (fun _ _ _ h => h) (Or.inl ⟨by rfl, ?_⟩) ?_ ?_
            rotate_left
            · intro w'
              go_simp
              with_reducible rfl
            rotate_left
            · simp only [Act.put, List.setIfInBounds_toArray, List.set_cons_zero, List.set_cons_succ, i64_w, i32_w]
              rfl
            refine done_ (by kernel_rfl) ?_
            try go_wp2
            go_ret
            exact ⟨by first | rfl | (simp [errW_none, errW_some] <;> rfl) | (simp [*, errW_none, errW_some] <;> rfl), by repeat (first | (with_reducible first | exact HB.out | apply below_alloc | apply pw_below_drewN | apply below_drew1 | refine below_set ?_ GE272.out | refine below_set ?_ GE287.out | refine below_set ?_ GE294.out | refine below_set ?_ GE302.out) | exact HB.out)⟩




end Go.Proofs.Ythkhogecdeeomaa.Pall
