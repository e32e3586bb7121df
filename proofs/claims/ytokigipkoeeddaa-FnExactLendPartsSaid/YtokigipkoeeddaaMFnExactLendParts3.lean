-- written by the kit's print program, put together by a program
import Derived.Test.YtokigipkoeeddaaMFnExactLendParts2
namespace Go.Proofs.Ytokigipkoeeddaa.Pall
open Go.RowKit Go.Proofs.YtokigipkoeeddaaW.PrintWords Go.Proofs.YtokigipkoeeddaaW.PrintLast Go.Proofs.YtokigipkoeeddaaW.PrintMore
attribute [local go_sem] max2_int min2_int max_two min_two max_three min_three max_four min_four   -- for this text's walks alone
set_option linter.unusedVariables false
set_option linter.unusedSimpArgs false
/-! ### laws_FnExactLendParts: function 5 -/
mutual
def laws_FnExactLendParts.j0 : Nat → Bool → Bool → Bool → List Int → List (S39) → Int → Int → Int → Int → List Int → List (S41) → List Int → List (S41) → List Int → List (S41) → Option (Bool)
 | 0, _, _, _, _, _, _, _, _, _, _, _, _, _, _, _ => none
 | k + 1, x7, x10, x46, x451000, x451001, x452000, x452001, x452002, x452003, x471000, x471001, x478000, x478001, x490000, x490001 => if x46 = true then (some false) else ((laws_toShop.f k x451000 x451001).bind fun bt491 => ((laws_eqShop.f k x478000 x478001 bt491.1 bt491.2).bind fun t497 => (if t497 = true then ((laws_markShop.f k x478000 x478001 1).bind fun bt498 => (if bt498.1 < 0 then (laws_FnExactLendParts.j1 k x7 true x451000 x451001 x452000 x452001 x452002 x452003 x471000 x471001 x490000 x490001) else ((laws_eqShop.f k x490000 x490001 x471000 x471001).bind fun t501 => (if t501 = true then (laws_FnExactLendParts.j1 k x7 (x10 != x7) x451000 x451001 x452000 x452001 x452002 x452003 x471000 x471001 x490000 x490001) else (laws_FnExactLendParts.j1 k x7 true x451000 x451001 x452000 x452001 x452002 x452003 x471000 x471001 x490000 x490001))))) else (some false))))
def laws_FnExactLendParts.j1 : Nat → Bool → Bool → List Int → List (S39) → Int → Int → Int → Int → List Int → List (S41) → List Int → List (S41) → Option (Bool)
 | 0, _, _, _, _, _, _, _, _, _, _, _, _ => none
 | k + 1, x7, x67, x451000, x451001, x452000, x452001, x452002, x452003, x471000, x471001, x490000, x490001 => if x67 = true then (some false) else ((laws_markShop.f k x490000 x490001 1).bind fun bt502 => ((laws_heldShop.f k bt502.2.1 bt502.2.2 1).bind fun t505 => (if t505 < 0 then (some false) else (if t505 = bt502.1 then ((laws_toShop.f k x451000 x451001).bind fun bt506 => ((laws_toLoan.f x452000 x452001 x452002 x452003).bind fun bt512 => ((impl_LendParts.f k bt506.1 bt506.2 bt512.1 bt512.2.1 bt512.2.2.1 bt512.2.2.2).bind fun bt516 => ((laws_eqShop.f k bt516.1 bt516.2.1 x471000 x471001).bind fun t524 => (if t524 = true then (laws_FnExactLendParts.j2 k bt502.1 (bt516.2.2 != x7) bt502.2.1 bt502.2.2) else (laws_FnExactLendParts.j2 k bt502.1 true bt502.2.1 bt502.2.2)))))) else (some false)))))
def laws_FnExactLendParts.j2 : Nat → Int → Bool → List Int → List (S41) → Option (Bool)
 | 0, _, _, _, _ => none
 | k + 1, x12, x95, x490000, x490001 => if x95 = true then (some false) else ((laws_heldShop.f k x490000 x490001 1).bind fun t525 => (if t525 < 0 then (some false) else (if t525 = x12 then (some true) else (some false))))
end
def laws_FnExactLendParts.f (k : Nat) (l0_0 : List Int) (l0_1 : List (S39)) (a1_0 : Int) (a1_1 : Int) (a1_2 : Int) (a1_3 : Int) : Option (Bool) := (laws_szShop.f l0_0 l0_1 1048576).bind fun t452 => (if t452 < 0 then (some true) else ((laws_toShop.f k l0_0 l0_1).bind fun bt453 => ((laws_toLoan.f a1_0 a1_1 a1_2 a1_3).bind fun bt459 => ((spec_LendParts.f k bt453.1 bt453.2 bt459.1 bt459.2.1 bt459.2.2.1 bt459.2.2.2).bind fun bt463 => ((laws_toShop.f k l0_0 l0_1).bind fun bt471 => ((laws_toLoan.f a1_0 a1_1 a1_2 a1_3).bind fun bt478 => ((impl_LendParts.f k bt471.1 bt471.2 bt478.1 bt478.2.1 bt478.2.2.1 bt478.2.2.2).bind fun bt482 => ((laws_eqShop.f k bt482.1 bt482.2.1 bt463.1 bt463.2.1).bind fun t490 => (if t490 = true then (laws_FnExactLendParts.j0 k bt463.2.2 bt482.2.2 (bt482.2.2 != bt463.2.2) l0_0 l0_1 a1_0 a1_1 a1_2 a1_3 bt463.1 bt463.2.1 bt471.1 bt471.2 bt482.1 bt482.2.1) else (laws_FnExactLendParts.j0 k bt463.2.2 bt482.2.2 true l0_0 l0_1 a1_0 a1_1 a1_2 a1_3 bt463.1 bt463.2.1 bt471.1 bt471.2 bt482.1 bt482.2.1))))))))))
theorem laws_FnExactLendParts.mono_l : ∀ k, (∀ y0 y1 y2 y3 y4 y5 y6 y7 y8 y9 y10 y11 y12 y13 y14, LeO (laws_FnExactLendParts.j0 k y0 y1 y2 y3 y4 y5 y6 y7 y8 y9 y10 y11 y12 y13 y14) (laws_FnExactLendParts.j0 (k + 1) y0 y1 y2 y3 y4 y5 y6 y7 y8 y9 y10 y11 y12 y13 y14)) ∧ (∀ y0 y1 y2 y3 y4 y5 y6 y7 y8 y9 y10 y11, LeO (laws_FnExactLendParts.j1 k y0 y1 y2 y3 y4 y5 y6 y7 y8 y9 y10 y11) (laws_FnExactLendParts.j1 (k + 1) y0 y1 y2 y3 y4 y5 y6 y7 y8 y9 y10 y11)) ∧ (∀ y0 y1 y2 y3, LeO (laws_FnExactLendParts.j2 k y0 y1 y2 y3) (laws_FnExactLendParts.j2 (k + 1) y0 y1 y2 y3))
 | 0 => ⟨fun _ _ _ _ _ _ _ _ _ _ _ _ _ _ _ r h => by simp [laws_FnExactLendParts.j0] at h, fun _ _ _ _ _ _ _ _ _ _ _ _ r h => by simp [laws_FnExactLendParts.j1] at h, fun _ _ _ _ r h => by simp [laws_FnExactLendParts.j2] at h⟩
 | k + 1 => by
  obtain ⟨ih0, ih1, ih2⟩ := laws_FnExactLendParts.mono_l k
  refine ⟨?_, ?_, ?_⟩
  ·intro y0 y1 y2 y3 y4 y5 y6 y7 y8 y9 y10 y11 y12 y13 y14
   unfold laws_FnExactLendParts.j0
   repeat' first
   | (with_reducible exact ih0 _ _ _ _ _ _ _ _ _ _ _ _ _ _ _)
   | (with_reducible exact ih1 _ _ _ _ _ _ _ _ _ _ _ _)
   | (with_reducible exact ih2 _ _ _ _)
   | (with_reducible exact impl_LendParts.mono _ _ _ _ _ _ _)
   | (with_reducible exact laws_eqShop.mono _ _ _ _ _)
   | (with_reducible exact laws_heldShop.mono _ _ _ _)
   | (with_reducible exact laws_markShop.mono _ _ _ _)
   | (with_reducible exact laws_toShop.mono _ _ _)
   | (with_reducible exact spec_LendParts.mono _ _ _ _ _ _ _)
   | (with_reducible exact LeO.refl _)
   | (with_reducible exact LeO.none _)
   | (with_reducible refine LeO.ite ?_ ?_)
   | (with_reducible refine LeO.bind ?_ (fun _ => ?_))
   | exact ih0 _ _ _ _ _ _ _ _ _ _ _ _ _ _ _
   | exact ih1 _ _ _ _ _ _ _ _ _ _ _ _
   | exact ih2 _ _ _ _
   | exact impl_LendParts.mono _ _ _ _ _ _ _
   | exact laws_eqShop.mono _ _ _ _ _
   | exact laws_heldShop.mono _ _ _ _
   | exact laws_markShop.mono _ _ _ _
   | exact laws_toShop.mono _ _ _
   | exact spec_LendParts.mono _ _ _ _ _ _ _
   | exact LeO.none _
   | refine LeO.ite ?_ ?_
   | refine LeO.bind ?_ (fun _ => ?_)
  ·intro y0 y1 y2 y3 y4 y5 y6 y7 y8 y9 y10 y11
   unfold laws_FnExactLendParts.j1
   repeat' first
   | (with_reducible exact ih0 _ _ _ _ _ _ _ _ _ _ _ _ _ _ _)
   | (with_reducible exact ih1 _ _ _ _ _ _ _ _ _ _ _ _)
   | (with_reducible exact ih2 _ _ _ _)
   | (with_reducible exact impl_LendParts.mono _ _ _ _ _ _ _)
   | (with_reducible exact laws_eqShop.mono _ _ _ _ _)
   | (with_reducible exact laws_heldShop.mono _ _ _ _)
   | (with_reducible exact laws_markShop.mono _ _ _ _)
   | (with_reducible exact laws_toShop.mono _ _ _)
   | (with_reducible exact spec_LendParts.mono _ _ _ _ _ _ _)
   | (with_reducible exact LeO.refl _)
   | (with_reducible exact LeO.none _)
   | (with_reducible refine LeO.ite ?_ ?_)
   | (with_reducible refine LeO.bind ?_ (fun _ => ?_))
   | exact ih0 _ _ _ _ _ _ _ _ _ _ _ _ _ _ _
   | exact ih1 _ _ _ _ _ _ _ _ _ _ _ _
   | exact ih2 _ _ _ _
   | exact impl_LendParts.mono _ _ _ _ _ _ _
   | exact laws_eqShop.mono _ _ _ _ _
   | exact laws_heldShop.mono _ _ _ _
   | exact laws_markShop.mono _ _ _ _
   | exact laws_toShop.mono _ _ _
   | exact spec_LendParts.mono _ _ _ _ _ _ _
   | exact LeO.none _
   | refine LeO.ite ?_ ?_
   | refine LeO.bind ?_ (fun _ => ?_)
  ·intro y0 y1 y2 y3
   unfold laws_FnExactLendParts.j2
   repeat' first
   | (with_reducible exact ih0 _ _ _ _ _ _ _ _ _ _ _ _ _ _ _)
   | (with_reducible exact ih1 _ _ _ _ _ _ _ _ _ _ _ _)
   | (with_reducible exact ih2 _ _ _ _)
   | (with_reducible exact impl_LendParts.mono _ _ _ _ _ _ _)
   | (with_reducible exact laws_eqShop.mono _ _ _ _ _)
   | (with_reducible exact laws_heldShop.mono _ _ _ _)
   | (with_reducible exact laws_markShop.mono _ _ _ _)
   | (with_reducible exact laws_toShop.mono _ _ _)
   | (with_reducible exact spec_LendParts.mono _ _ _ _ _ _ _)
   | (with_reducible exact LeO.refl _)
   | (with_reducible exact LeO.none _)
   | (with_reducible refine LeO.ite ?_ ?_)
   | (with_reducible refine LeO.bind ?_ (fun _ => ?_))
   | exact ih0 _ _ _ _ _ _ _ _ _ _ _ _ _ _ _
   | exact ih1 _ _ _ _ _ _ _ _ _ _ _ _
   | exact ih2 _ _ _ _
   | exact impl_LendParts.mono _ _ _ _ _ _ _
   | exact laws_eqShop.mono _ _ _ _ _
   | exact laws_heldShop.mono _ _ _ _
   | exact laws_markShop.mono _ _ _ _
   | exact laws_toShop.mono _ _ _
   | exact spec_LendParts.mono _ _ _ _ _ _ _
   | exact LeO.none _
   | refine LeO.ite ?_ ?_
   | refine LeO.bind ?_ (fun _ => ?_)
theorem laws_FnExactLendParts.mono : ∀ a0 a1 a2 a3 a4 a5 k, LeO (laws_FnExactLendParts.f k a0 a1 a2 a3 a4 a5) (laws_FnExactLendParts.f (k + 1) a0 a1 a2 a3 a4 a5) := by
 intro a0 a1 a2 a3 a4 a5 k
 obtain ⟨ih0, ih1, ih2⟩ := laws_FnExactLendParts.mono_l k
 unfold laws_FnExactLendParts.f
 repeat' first
   | (with_reducible exact ih0 _ _ _ _ _ _ _ _ _ _ _ _ _ _ _)
   | (with_reducible exact ih1 _ _ _ _ _ _ _ _ _ _ _ _)
   | (with_reducible exact ih2 _ _ _ _)
   | (with_reducible exact impl_LendParts.mono _ _ _ _ _ _ _)
   | (with_reducible exact laws_eqShop.mono _ _ _ _ _)
   | (with_reducible exact laws_heldShop.mono _ _ _ _)
   | (with_reducible exact laws_markShop.mono _ _ _ _)
   | (with_reducible exact laws_toShop.mono _ _ _)
   | (with_reducible exact spec_LendParts.mono _ _ _ _ _ _ _)
   | (with_reducible exact LeO.refl _)
   | (with_reducible exact LeO.none _)
   | (with_reducible refine LeO.ite ?_ ?_)
   | (with_reducible refine LeO.bind ?_ (fun _ => ?_))
   | exact ih0 _ _ _ _ _ _ _ _ _ _ _ _ _ _ _
   | exact ih1 _ _ _ _ _ _ _ _ _ _ _ _
   | exact ih2 _ _ _ _
   | exact impl_LendParts.mono _ _ _ _ _ _ _
   | exact laws_eqShop.mono _ _ _ _ _
   | exact laws_heldShop.mono _ _ _ _
   | exact laws_markShop.mono _ _ _ _
   | exact laws_toShop.mono _ _ _
   | exact spec_LendParts.mono _ _ _ _ _ _ _
   | exact LeO.none _
   | refine LeO.ite ?_ ?_
   | refine LeO.bind ?_ (fun _ => ?_)
def laws_FnExactLendParts.T5 : Bool × List (List Nat × List Nat) := (true, [([], []), ([0], [0]), ([], []), ([2, 1], [2]), ([1, 3, 3], [1, 3]), ([4], [4]), ([5], [5]), ([5], [5]), ([], []), ([8, 6, 4, 0, 1, 2, 3, 4, 5, 6, 8], [6, 8]), ([7, 9, 0, 1, 2, 3, 4, 5, 6, 7, 8, 9], [7])])
def laws_FnExactLendParts.B5 : List Nat := [0, 1, 0, 7, 15, 31, 63, 63, 0, 383, 1023]
theorem laws_FnExactLendParts.tab5 : rtab .any (opsOf Try.f5 5) = laws_FnExactLendParts.T5 := by kernel_rfl
theorem laws_FnExactLendParts.bits5 : waitsOk laws_FnExactLendParts.T5.2 laws_FnExactLendParts.B5 = true := by kernel_rfl
def laws_FnExactLendParts.T7 : Bool × List (List Nat × List Nat) := (true, [([], []), ([], []), ([1], [1]), ([0, 2, 2], [0, 2]), ([3], [3]), ([4], [4]), ([4], [4]), ([], []), ([7, 5, 3, 0, 1, 2, 3, 4, 5, 7], [5, 7]), ([6, 8, 0, 1, 2, 3, 4, 5, 6, 7, 8], [6])])
def laws_FnExactLendParts.B7 : List Nat := [0, 0, 2, 7, 15, 31, 31, 0, 191, 511]
theorem laws_FnExactLendParts.tab7 : rtab .any (opsOf Try.f5 7) = laws_FnExactLendParts.T7 := by kernel_rfl
theorem laws_FnExactLendParts.bits7 : waitsOk laws_FnExactLendParts.T7.2 laws_FnExactLendParts.B7 = true := by kernel_rfl
def laws_FnExactLendParts.T24 : Bool × List (List Nat × List Nat) := (true, [([], []), ([0], [0]), ([], []), ([2, 1], [2]), ([1, 3, 3], [1, 3]), ([4], [4]), ([5], [5]), ([5], [5]), ([], []), ([8, 6, 4, 0, 1, 2, 3, 4, 5, 6, 8], [6, 8]), ([7, 9, 0, 1, 2, 3, 4, 5, 6, 7, 8, 9], [7])])
def laws_FnExactLendParts.B24 : List Nat := [0, 1, 0, 7, 15, 31, 63, 63, 0, 383, 1023]
theorem laws_FnExactLendParts.tab24 : rtab .any (opsOf Try.f5 24) = laws_FnExactLendParts.T24 := by kernel_rfl
theorem laws_FnExactLendParts.bits24 : waitsOk laws_FnExactLendParts.T24.2 laws_FnExactLendParts.B24 = true := by kernel_rfl
set_option maxHeartbeats 8000000 in
set_option maxRecDepth 100000 in
theorem laws_FnExactLendParts.calls (k : Nat) (A0_0 : Option Addr) (c0_0 : Nat) (l0_0 : List Int) (A0_1 : Option Addr) (c0_1 : Nat) (l0_1 : List (S39)) (a1_0 : Int) (a1_1 : Int) (a1_2 : Int) (a1_3 : Int) (r : Bool) (w : World) (hr0_0 : Kd.C (Kd.int .i64) w A0_0 l0_0.length l0_0) (hc0_0 : l0_0.length ≤ c0_0) (hr0_1 : Kd.C k39 w A0_1 l0_1.length l0_1) (hc0_1 : l0_1.length ≤ c0_1) (h : laws_FnExactLendParts.f k l0_0 l0_1 a1_0 a1_1 a1_2 a1_3 = some r) :
  Calls Try.prog 5 #[.agg #[.slice A0_0 l0_0.length c0_0, .slice A0_1 l0_1.length c0_1], .agg #[.int .i64 a1_0, .int .i64 a1_1, .int .i64 a1_2, .int .i64 a1_3]] w fun e w' => e = .returned (.bool r) ∧ Below w.heap.size w w' := by
 have hu25 := Try.underlying25
 have hu39 := Try.underlying39
 have hu29 := Try.underlying29
 have HR0_0 := Aside0.mk hr0_0
 have HC0_0 := Aside0.mk hc0_0
 clear hr0_0 hc0_0
 have HR0_1 := Aside0.mk hr0_1
 have HC0_1 := Aside0.mk hc0_1
 clear hr0_1 hc0_1
 have HB := Aside0.mk (Below.refl w.heap.size w)
 have H : ((laws_szShop.f l0_0 l0_1 1048576).bind fun t452 => (if t452 < 0 then (some true) else ((laws_toShop.f k l0_0 l0_1).bind fun bt453 => ((laws_toLoan.f a1_0 a1_1 a1_2 a1_3).bind fun bt459 => ((spec_LendParts.f k bt453.1 bt453.2 bt459.1 bt459.2.1 bt459.2.2.1 bt459.2.2.2).bind fun bt463 => ((laws_toShop.f k l0_0 l0_1).bind fun bt471 => ((laws_toLoan.f a1_0 a1_1 a1_2 a1_3).bind fun bt478 => ((impl_LendParts.f k bt471.1 bt471.2 bt478.1 bt478.2.1 bt478.2.2.1 bt478.2.2.2).bind fun bt482 => ((laws_eqShop.f k bt482.1 bt482.2.1 bt463.1 bt463.2.1).bind fun t490 => (if t490 = true then (laws_FnExactLendParts.j0 k bt463.2.2 bt482.2.2 (bt482.2.2 != bt463.2.2) l0_0 l0_1 a1_0 a1_1 a1_2 a1_3 bt463.1 bt463.2.1 bt471.1 bt471.2 bt482.1 bt482.2.1) else (laws_FnExactLendParts.j0 k bt463.2.2 bt482.2.2 true l0_0 l0_1 a1_0 a1_1 a1_2 a1_3 bt463.1 bt463.2.1 bt471.1 bt471.2 bt482.1 bt482.2.1))))))))))) = some r := h
 clear h
 obtain ⟨t452, A3, H⟩ := bindq H
 try dsimp only at H
 by_cases c4 : t452 < 0
 ·rw [if_pos c4] at H
  have c4b0 : decide (t452 < 0) = true := decide_eq_true c4
  clear c4
  obtain rfl := Option.some.inj H
  go_enter Try.func5, Try.ntmps5
  go_wp2_with (first | ((with_reducible refine gate_dst (N := 2) rfl ?_); refine box_event ?hg (N := 2) ?hd (cs := #[.slice A0_0 l0_0.length c0_0, .slice A0_1 l0_1.length c0_1]) (t := 25) ?hr ?_; (case hd => rfl); (case hg => rfl); (case hr => first | (go_simp; done) | (go_simp; rfl)); intro gb450 hg w5 hbox hb; have BK450 := Aside0.mk (hbox); have GE450 := Aside0.mk (gq hg); replace HB := sb hb; clear hb hbox hg) | ((with_reducible refine gate_dst (N := 3) rfl ?_); refine box_event ?hg (N := 3) ?hd (cs := #[.int .i64 a1_0, .int .i64 a1_1, .int .i64 a1_2, .int .i64 a1_3]) (t := 39) ?hr ?_; (case hd => rfl); (case hg => rfl); (case hr => first | (go_simp; done) | (go_simp; rfl)); intro gb451 hg w6 hbox hb; have BK451 := Aside0.mk (hbox); have GE451 := Aside0.mk (gq hg); replace HB := sb hb; have NB450_451 := nl hg BK450; have NB451_450 := ng hg BK450; replace BK450 := zb BK450 hb; clear hb hbox hg; have hnb7 := NB450_451.out; have hnc7 := NB451_450.out; have ⟨hcz8_0, hcz8_1, hfz8_0, hfz8_1⟩ := bc2 BK450) | ((with_reducible refine gate_callee (f := 7) rfl ?_); refine goesQ (some 18) Try.func7 #[.agg #[.slice A0_0 l0_0.length c0_0, .slice A0_1 l0_1.length c0_1], .int .i64 1048576] ?_; (with_reducible refine (laws_szShop.calls _ _ l0_0 _ _ l0_1 1048576 t452 _ ?s1 ?s2 ?s3 ?s4 A3.out).mono ?_); (case s1 => exact cq (Kd.C_below HR0_0.out HB.out)); (case s2 => exact HC0_0.out); (case s3 => exact cq (Kd.C_below HR0_1.out HB.out)); (case s4 => exact HC0_1.out); rintro e w9 ⟨rfl, hb⟩; refine ⟨_, rfl, ?_⟩; replace BK450 := zb BK450 hb; replace BK451 := zb BK451 hb; replace HB := sb hb; (try clear hb)))
  go_ret
  exact ⟨eq_, bq⟩
 ·rw [if_neg c4] at H
  have c4b0 : decide (t452 < 0) = false := decide_eq_false c4
  clear c4
  obtain ⟨⟨t453, t456⟩, A10, H⟩ := bindq H
  try dsimp only at H
  obtain ⟨⟨t459, t460, t461, t462⟩, A11, H⟩ := bindq H
  try dsimp only at H
  obtain ⟨⟨t463, t466, t469⟩, A12, H⟩ := bindq H
  try dsimp only at H
  obtain ⟨⟨t471, t474⟩, A13, H⟩ := bindq H
  try dsimp only at H
  obtain ⟨⟨t478, t479, t480, t481⟩, A14, H⟩ := bindq H
  try dsimp only at H
  obtain ⟨⟨t482, t485, t488⟩, A15, H⟩ := bindq H
  try dsimp only at H
  have HC16 := Aside0.mk H
  clear H
  go_enter Try.func5, Try.ntmps5
  try go_wp2_with (first | ((with_reducible refine gate_dst (N := 2) rfl ?_); refine box_event ?hg (N := 2) ?hd (cs := #[.slice A0_0 l0_0.length c0_0, .slice A0_1 l0_1.length c0_1]) (t := 25) ?hr ?_; (case hd => rfl); (case hg => rfl); (case hr => first | (go_simp; done) | (go_simp; rfl)); intro gb450 hg w17 hbox hb; have BK450 := Aside0.mk (hbox); have GE450 := Aside0.mk (gq hg); replace HB := sb hb; clear hb hbox hg) | ((with_reducible refine gate_dst (N := 3) rfl ?_); refine box_event ?hg (N := 3) ?hd (cs := #[.int .i64 a1_0, .int .i64 a1_1, .int .i64 a1_2, .int .i64 a1_3]) (t := 39) ?hr ?_; (case hd => rfl); (case hg => rfl); (case hr => first | (go_simp; done) | (go_simp; rfl)); intro gb451 hg w18 hbox hb; have BK451 := Aside0.mk (hbox); have GE451 := Aside0.mk (gq hg); replace HB := sb hb; have NB450_451 := nl hg BK450; have NB451_450 := ng hg BK450; replace BK450 := zb BK450 hb; clear hb hbox hg; have hnb19 := NB450_451.out; have hnc19 := NB451_450.out; have ⟨hcz20_0, hcz20_1, hfz20_0, hfz20_1⟩ := bc2 BK450) | ((with_reducible refine gate_callee (f := 7) rfl ?_); refine goesQ (some 18) Try.func7 #[.agg #[.slice A0_0 l0_0.length c0_0, .slice A0_1 l0_1.length c0_1], .int .i64 1048576] ?_; (with_reducible refine (laws_szShop.calls _ _ l0_0 _ _ l0_1 1048576 t452 _ ?s1 ?s2 ?s3 ?s4 A3.out).mono ?_); (case s1 => exact cq (Kd.C_below HR0_0.out HB.out)); (case s2 => exact HC0_0.out); (case s3 => exact cq (Kd.C_below HR0_1.out HB.out)); (case s4 => exact HC0_1.out); rintro e w21 ⟨rfl, hb⟩; refine ⟨_, rfl, ?_⟩; replace BK450 := zb BK450 hb; replace BK451 := zb BK451 hb; replace HB := sb hb; (try clear hb)))
  replace BK450 := Aside0.mk (blk_drew BK450.out)
  replace BK451 := Aside0.mk (blk_drew BK451.out)
  replace HB := Aside0.mk (below_drew1 HB.out)
  refine start_ (n := 11) (S := fun w' => w'.cell? ⟨gb450, 0, none⟩ = some (.slice A0_0 l0_0.length c0_0) ∧ w'.cell? ⟨gb450, 1, none⟩ = some (.slice A0_1 l0_1.length c0_1) ∧ w'.cell? ⟨gb451, 0, none⟩ = some (.int .i64 a1_0) ∧ w'.cell? ⟨gb451, 1, none⟩ = some (.int .i64 a1_1) ∧ w'.cell? ⟨gb451, 2, none⟩ = some (.int .i64 a1_2) ∧ w'.cell? ⟨gb451, 3, none⟩ = some (.int .i64 a1_3)) (ds := []) #[false, false, false, false, false, false, false, false, false, false, false] (by kernel_rfl) rfl rfl ⟨(blk_cell BK450.out 0).trans rfl, (blk_cell BK450.out 1).trans rfl, (blk_cell BK451.out 0).trans rfl, (blk_cell BK451.out 1).trans rfl, (blk_cell BK451.out 2).trans rfl, (blk_cell BK451.out 3).trans rfl⟩ (fun hHeld => ?_); refine with_tabW laws_FnExactLendParts.tab5 laws_FnExactLendParts.bits5 (fun HT_ HW_ => ?_)
  generalize w21.drew = w22 at BK450 BK451 HB hHeld ⊢
  refine take_ (i := 0) (N := some 22) (v := ?_) (a' := ?_) #[true, false, false, false, false, false, false, false, false, false, false] rfl rfl (take_ofW HT_.out HW_.out (by kernel_rfl)) (fun _ _ _ h => h) (Or.inl ⟨by rfl, ?_⟩) hHeld ?_ ?_
  rotate_left
  ·rintro w' ⟨s0, s1, s2, s3, s4, s5⟩
   go_simp
   with_reducible rfl
  rotate_left
  ·simp only [Act.put, List.setIfInBounds_toArray, List.set_cons_zero, List.set_cons_succ, i64_w, i32_w]
   rfl
  refine take_ (i := 2) (N := some 24) (v := ?_) (a' := ?_) #[true, false, true, false, false, false, false, false, false, false, false] rfl rfl (take_ofW HT_.out HW_.out (by kernel_rfl)) (fun _ _ _ h => h) (Or.inl ⟨by rfl, ?_⟩) hHeld ?_ ?_
  rotate_left
  ·rintro w' ⟨s0, s1, s2, s3, s4, s5⟩
   go_simp
   with_reducible rfl
  rotate_left
  ·simp only [Act.put, List.setIfInBounds_toArray, List.set_cons_zero, List.set_cons_succ, i64_w, i32_w]
   rfl
  refine join_ (σ := Value × Value × Value × Value × Nat) 2 #[true, true, true, true, true, true, true, true, true, false, false] (fun s_ => [(23, .agg #[s_.1, s_.2.1]), (25, .agg #[.int .i64 t459, .int .i64 t460, .int .i64 t461, .int .i64 t462]), (26, .tuple #[.agg #[s_.2.2.1, s_.2.2.2.1], .bool t469]), (6, .pointer (some ⟨s_.2.2.2.2, 0, none⟩)), (21, .tuple #[.agg #[s_.2.2.1, s_.2.2.2.1], .bool t469]), (27, .agg #[s_.2.2.1, s_.2.2.2.1]), (28, .bool t469)]) (fun s_ w' => (w'.cell? ⟨gb450, 0, none⟩ = some (.slice A0_0 l0_0.length c0_0) ∧ w'.cell? ⟨gb450, 1, none⟩ = some (.slice A0_1 l0_1.length c0_1) ∧ w'.cell? ⟨gb451, 0, none⟩ = some (.int .i64 a1_0) ∧ w'.cell? ⟨gb451, 1, none⟩ = some (.int .i64 a1_1) ∧ w'.cell? ⟨gb451, 2, none⟩ = some (.int .i64 a1_2) ∧ w'.cell? ⟨gb451, 3, none⟩ = some (.int .i64 a1_3)) ∧ (Kd.R (Kd.int .i64) 3 w' w.heap.size (fun k_ => some k_ ≠ (s_.2.2.1 : Value).ownBlock) s_.1 t453) ∧ (Kd.R k41 41 w' w.heap.size (fun k_ => some k_ ≠ (s_.2.2.2.1 : Value).ownBlock) s_.2.1 t456) ∧ (Kd.R (Kd.int .i64) 3 w' w.heap.size (fun k_ => some k_ ≠ (s_.1 : Value).ownBlock) s_.2.2.1 t463) ∧ (Kd.R k41 41 w' w.heap.size (fun k_ => some k_ ≠ (s_.2.1 : Value).ownBlock) s_.2.2.2.1 t466) ∧ (w'.heap[gb450]? = some (.cells #[.slice A0_0 l0_0.length c0_0, .slice A0_1 l0_1.length c0_1] 25 (0, 0))) ∧ (w'.heap[gb451]? = some (.cells #[.int .i64 a1_0, .int .i64 a1_1, .int .i64 a1_2, .int .i64 a1_3] 39 (0, 0))) ∧ (w'.heap[s_.2.2.2.2]? = some (.cells #[.slice none 0 0, .slice none 0 0] 29 (0, 0))) ∧ (w.heap.size ≤ s_.2.2.2.2) ∧ (w.heap.size ≤ s_.2.2.2.2) ∧ (gb450 ≠ s_.2.2.2.2) ∧ (s_.2.2.2.2 ≠ gb450) ∧ (gb451 ≠ s_.2.2.2.2) ∧ (s_.2.2.2.2 ≠ gb451) ∧ (Below w.heap.size w w')) ?_ ?_
  rotate_left
  ·intro hCont
   refine two_ (i := 1) (j := 8) (Ni := some 23) (Nj := some 6) #[true, true, true, false, false, false, false, false, false, false, false] #[true, false, true, false, false, false, false, false, true, false, false] rfl rfl rfl rfl (two_of HT_.out (by kernel_rfl)) (by decide) (by decide) (fun K hK => ?_) (fun K hK => ?_)
   ·skip
    refine goes_ Try.func9 (by kernel_rfl) rfl #[.agg #[.slice A0_0 l0_0.length c0_0, .slice A0_1 l0_1.length c0_1]] (by rfl) rfl rfl mq ?_
    with_reducible refine (laws_toShop.calls k _ _ l0_0 _ _ l0_1 t453 t456 _ ?s1 ?s2 ?s3 ?s4 A10.out).mono ?_
    (case s1 => exact cq (Kd.C_below HR0_0.out HB.out))
    (case s2 => exact HC0_0.out)
    (case s3 => exact cq (Kd.C_below HR0_1.out HB.out))
    (case s4 => exact HC0_1.out)
    rintro e w23 ⟨v454, v457, rfl, ho0, ho1, hb⟩
    refine ⟨_, rfl, ?_⟩
    have HO455 := rl ho0
    have HO458 := rl ho1
    replace BK450 := zb BK450 hb
    replace BK451 := zb BK451 hb
    replace HB := sb hb
    (try clear hb ho0 ho1)
    refine hK.out _ _ ⟨(blk_cell BK450.out 0).trans rfl, (blk_cell BK450.out 1).trans rfl, (blk_cell BK451.out 0).trans rfl, (blk_cell BK451.out 1).trans rfl, (blk_cell BK451.out 2).trans rfl, (blk_cell BK451.out 3).trans rfl⟩ (fun hHeld => ?_)
    clear hK K
    refine norm_ (a' := ?_) ?_ ?_
    rotate_left
    ·show Act.put _ (some 23) _ = _
     simp only [Act.put, List.setIfInBounds_toArray, List.set_cons_zero, List.set_cons_succ, i64_w, i32_w]
     rfl
    refine two_ (i := 3) (j := 8) (Ni := some 25) (Nj := some 6) #[true, true, true, true, false, false, false, false, false, false, false] #[true, true, true, false, false, false, false, false, true, false, false] rfl rfl rfl rfl (two_of HT_.out (by kernel_rfl)) (by decide) (by decide) (fun K hK => ?_) (fun K hK => ?_)
    ·skip
     refine goes_ Try.func17 (by kernel_rfl) rfl #[.agg #[.int .i64 a1_0, .int .i64 a1_1, .int .i64 a1_2, .int .i64 a1_3]] (by rfl) rfl rfl mq ?_
     with_reducible refine (laws_toLoan.calls a1_0 a1_1 a1_2 a1_3 t459 t460 t461 t462 _ A11.out).mono ?_
     rintro e w24 ⟨rfl, hb⟩
     refine ⟨_, rfl, ?_⟩
     replace HO455 := rb HO455 hb
     replace HO458 := rb HO458 hb
     replace BK450 := zb BK450 hb
     replace BK451 := zb BK451 hb
     replace HB := sb hb
     (try clear hb)
     obtain ⟨Ao25, co25, eo25⟩ := Kd.R_slice HO455.out
     (first | subst eo25 | (injection eo25 with f1_ f2_ f3_; have f4_ := f1_.symm; have f5_ := f3_.symm; clear f1_ f2_ f3_; subst f4_; subst f5_))
     obtain ⟨Ao26, co26, eo26⟩ := Kd.R_slice HO458.out
     (first | subst eo26 | (injection eo26 with f1_ f2_ f3_; have f4_ := f1_.symm; have f5_ := f3_.symm; clear f1_ f2_ f3_; subst f4_; subst f5_))
     refine hK.out _ _ ⟨(blk_cell BK450.out 0).trans rfl, (blk_cell BK450.out 1).trans rfl, (blk_cell BK451.out 0).trans rfl, (blk_cell BK451.out 1).trans rfl, (blk_cell BK451.out 2).trans rfl, (blk_cell BK451.out 3).trans rfl⟩ (fun hHeld => ?_)
     clear hK K
     refine norm_ (a' := ?_) ?_ ?_
     rotate_left
     ·show Act.put _ (some 25) _ = _
      simp only [Act.put, List.setIfInBounds_toArray, List.set_cons_zero, List.set_cons_succ, i64_w, i32_w]
      rfl
     refine two_ (i := 4) (j := 8) (Ni := some 26) (Nj := some 6) #[true, true, true, true, true, false, false, false, false, false, false] #[true, true, true, true, false, false, false, false, true, false, false] rfl rfl rfl rfl (two_of HT_.out (by kernel_rfl)) (by decide) (by decide) (fun K hK => ?_) (fun K hK => ?_)
     ·skip
      refine goes_ Try.func16 (by kernel_rfl) rfl #[.agg #[.slice Ao25 t453.length co25, .slice Ao26 t456.length co26], .agg #[.int .i64 t459, .int .i64 t460, .int .i64 t461, .int .i64 t462]] (by rfl) rfl rfl mq ?_
      with_reducible refine (spec_LendParts.calls k _ _ t453 _ _ t456 t459 t460 t461 t462 t463 t466 t469 _ ?s1 ?s2 ?s3 ?s4 A12.out).mono ?_
      (case s1 => exact cr HO455)
      (case s2 => exact r1 HO455)
      (case s3 => exact cr HO458)
      (case s4 => exact r1 HO458)
      rintro e w27 ⟨v464, v467, rfl, ho0, ho1, hb⟩
      refine ⟨_, rfl, ?_⟩
      have HO465 := Aside0.mk (Kd.R_lower (Kd.R_new' ho0 (Kd.R_lt (rq HO455))) (below_size bq))
      replace HO455 := Aside0.mk (Kd.R_elder' (rq HO455) (Kd.R_base ho0) hb)
      have HO468 := Aside0.mk (Kd.R_lower (Kd.R_new' ho1 (Kd.R_lt (rq HO458))) (below_size bq))
      replace HO458 := Aside0.mk (Kd.R_elder' (rq HO458) (Kd.R_base ho1) hb)
      replace BK450 := zb BK450 hb
      replace BK451 := zb BK451 hb
      replace HB := sb hb
      (try clear hb ho0 ho1)
      refine hK.out _ _ ⟨(blk_cell BK450.out 0).trans rfl, (blk_cell BK450.out 1).trans rfl, (blk_cell BK451.out 0).trans rfl, (blk_cell BK451.out 1).trans rfl, (blk_cell BK451.out 2).trans rfl, (blk_cell BK451.out 3).trans rfl⟩ (fun hHeld => ?_)
      clear hK K
      refine norm_ (a' := ?_) ?_ ?_
      rotate_left
      ·show Act.put _ (some 26) _ = _
       simp only [Act.put, List.setIfInBounds_toArray, List.set_cons_zero, List.set_cons_succ, i64_w, i32_w]
       rfl
      refine pure_ (i := 5) (N := some 21) (v := ?_) (a' := ?_) #[true, true, true, true, true, true, false, false, false, false, false] rfl rfl (any_of HT_.out (by kernel_rfl)) (fun _ _ _ h => h) (Or.inl ⟨by rfl, ?_⟩) ?_ ?_
      rotate_left
      ·intro w'
       go_simp
       with_reducible rfl
      rotate_left
      ·simp only [Act.put, List.setIfInBounds_toArray, List.set_cons_zero, List.set_cons_succ, i64_w, i32_w]
       rfl
      refine pure_ (i := 6) (N := some 27) (v := ?_) (a' := ?_) #[true, true, true, true, true, true, true, false, false, false, false] rfl rfl (any_of HT_.out (by kernel_rfl)) (fun _ _ _ h => h) (Or.inl ⟨by rfl, ?_⟩) ?_ ?_
      rotate_left
      ·intro w'
       go_simp
       with_reducible rfl
      rotate_left
      ·simp only [Act.put, List.setIfInBounds_toArray, List.set_cons_zero, List.set_cons_succ, i64_w, i32_w]
       rfl
      refine pure_ (i := 7) (N := some 28) (v := ?_) (a' := ?_) #[true, true, true, true, true, true, true, true, false, false, false] rfl rfl (any_of HT_.out (by kernel_rfl)) (fun _ _ _ h => h) (Or.inl ⟨by rfl, ?_⟩) ?_ ?_
      rotate_left
      ·intro w'
       go_simp
       with_reducible rfl
      rotate_left
      ·simp only [Act.put, List.setIfInBounds_toArray, List.set_cons_zero, List.set_cons_succ, i64_w, i32_w]
       rfl
      refine one_ (i := 8) (N := some 6) #[true, true, true, true, true, true, true, true, true, false, false] rfl rfl (one_of HT_.out (by kernel_rfl)) (by decide) (fun K hK => ?_)
      refine box_step ?hg (N := 6) ?hd (cs := #[.slice none 0 0, .slice none 0 0]) (t := 29) ?hr ?_; (case hd => rfl); (case hg => rfl); (case hr => first | (go_simp; done) | (go_simp; rfl))
      intro gb470 hg w28 hbox hb
      replace HO455 := rb HO455 hb
      replace HO458 := rb HO458 hb
      replace HO465 := rb HO465 hb
      replace HO468 := rb HO468 hb
      have BK470 := Aside0.mk (hbox)
      have GW470 := Aside0.mk (gq hg)
      have GE470 := Aside0.mk (gq hg)
      replace HB := sb hb
      have NB450_470 := nl hg BK450
      have NB470_450 := ng hg BK450
      replace BK450 := zb BK450 hb
      have NB451_470 := nl hg BK451
      have NB470_451 := ng hg BK451
      replace BK451 := zb BK451 hb
      clear hb hbox hg
      refine hK.out _ _ ⟨(blk_cell BK450.out 0).trans rfl, (blk_cell BK450.out 1).trans rfl, (blk_cell BK451.out 0).trans rfl, (blk_cell BK451.out 1).trans rfl, (blk_cell BK451.out 2).trans rfl, (blk_cell BK451.out 3).trans rfl⟩ (fun hHeld => ?_)
      clear hK K
      refine norm_ (a' := ?_) ?_ ?_
      rotate_left
      ·show Act.put _ (some 6) _ = _
       simp only [Act.put, List.setIfInBounds_toArray, List.set_cons_zero, List.set_cons_succ, i64_w, i32_w]
       rfl
      exact norm_ (by simp only [putAll, Act.put, List.setIfInBounds_toArray, List.set_cons_zero, List.set_cons_succ]) (hCont (.slice Ao25 t453.length co25, .slice Ao26 t456.length co26, v464, v467, gb470) _ ⟨hHeld, (by (with_reducible repeat (first | apply Kd.R_alloc | apply Kd.R_drewN | apply Kd.R_drew)); exact Kd.R_mono HO455.out (fun _ hk => hk.2)), (by (with_reducible repeat (first | apply Kd.R_alloc | apply Kd.R_drewN | apply Kd.R_drew)); exact Kd.R_mono HO458.out (fun _ hk => hk.2)), (by (with_reducible repeat (first | apply Kd.R_alloc | apply Kd.R_drewN | apply Kd.R_drew)); exact Kd.R_mono HO465.out (fun _ hk => hk.2)), (by (with_reducible repeat (first | apply Kd.R_alloc | apply Kd.R_drewN | apply Kd.R_drew)); exact Kd.R_mono HO468.out (fun _ hk => hk.2)), (zq BK450), (zq BK451), (zq BK470), GW470.out, GE470.out, NB450_470.out, NB470_450.out, NB451_470.out, NB470_451.out, bq⟩)
     ·skip
      refine box_step ?hg (N := 6) ?hd (cs := #[.slice none 0 0, .slice none 0 0]) (t := 29) ?hr ?_; (case hd => rfl); (case hg => rfl); (case hr => first | (go_simp; done) | (go_simp; rfl))
      intro gb470 hg w25 hbox hb
      replace HO455 := rb HO455 hb
      replace HO458 := rb HO458 hb
      have BK470 := Aside0.mk (hbox)
      have GW470 := Aside0.mk (gq hg)
      have GE470 := Aside0.mk (gq hg)
      replace HB := sb hb
      have NB450_470 := nl hg BK450
      have NB470_450 := ng hg BK450
      replace BK450 := zb BK450 hb
      have NB451_470 := nl hg BK451
      have NB470_451 := ng hg BK451
      replace BK451 := zb BK451 hb
      clear hb hbox hg
      obtain ⟨Ao26, co26, eo26⟩ := Kd.R_slice HO455.out
      (first | subst eo26 | (injection eo26 with f1_ f2_ f3_; have f4_ := f1_.symm; have f5_ := f3_.symm; clear f1_ f2_ f3_; subst f4_; subst f5_))
      obtain ⟨Ao27, co27, eo27⟩ := Kd.R_slice HO458.out
      (first | subst eo27 | (injection eo27 with f1_ f2_ f3_; have f4_ := f1_.symm; have f5_ := f3_.symm; clear f1_ f2_ f3_; subst f4_; subst f5_))
      refine hK.out _ _ ⟨(blk_cell BK450.out 0).trans rfl, (blk_cell BK450.out 1).trans rfl, (blk_cell BK451.out 0).trans rfl, (blk_cell BK451.out 1).trans rfl, (blk_cell BK451.out 2).trans rfl, (blk_cell BK451.out 3).trans rfl⟩ (fun hHeld => ?_)
      clear hK K
      refine norm_ (a' := ?_) ?_ ?_
      rotate_left
      ·show Act.put _ (some 6) _ = _
       simp only [Act.put, List.setIfInBounds_toArray, List.set_cons_zero, List.set_cons_succ, i64_w, i32_w]
       rfl
      refine one_ (i := 4) (N := some 26) #[true, true, true, true, true, false, false, false, true, false, false] rfl rfl (one_of HT_.out (by kernel_rfl)) (by decide) (fun K hK => ?_)
      refine goes_ Try.func16 (by kernel_rfl) rfl #[.agg #[.slice Ao26 t453.length co26, .slice Ao27 t456.length co27], .agg #[.int .i64 t459, .int .i64 t460, .int .i64 t461, .int .i64 t462]] (by rfl) rfl rfl mq ?_
      with_reducible refine (spec_LendParts.calls k _ _ t453 _ _ t456 t459 t460 t461 t462 t463 t466 t469 _ ?s1 ?s2 ?s3 ?s4 A12.out).mono ?_
      (case s1 => exact cr HO455)
      (case s2 => exact r1 HO455)
      (case s3 => exact cr HO458)
      (case s4 => exact r1 HO458)
      rintro e w28 ⟨v464, v467, rfl, ho0, ho1, hb⟩
      refine ⟨_, rfl, ?_⟩
      have HO465 := Aside0.mk (Kd.R_lower (Kd.R_new' ho0 (Kd.R_lt (rq HO455))) (below_size bq))
      replace HO455 := Aside0.mk (Kd.R_elder' (rq HO455) (Kd.R_base ho0) hb)
      have HO468 := Aside0.mk (Kd.R_lower (Kd.R_new' ho1 (Kd.R_lt (rq HO458))) (below_size bq))
      replace HO458 := Aside0.mk (Kd.R_elder' (rq HO458) (Kd.R_base ho1) hb)
      replace BK450 := zb BK450 hb
      replace BK451 := zb BK451 hb
      replace BK470 := zb BK470 hb
      replace HB := sb hb
      (try clear hb ho0 ho1)
      refine hK.out _ _ ⟨(blk_cell BK450.out 0).trans rfl, (blk_cell BK450.out 1).trans rfl, (blk_cell BK451.out 0).trans rfl, (blk_cell BK451.out 1).trans rfl, (blk_cell BK451.out 2).trans rfl, (blk_cell BK451.out 3).trans rfl⟩ (fun hHeld => ?_)
      clear hK K
      refine norm_ (a' := ?_) ?_ ?_
      rotate_left
      ·show Act.put _ (some 26) _ = _
       simp only [Act.put, List.setIfInBounds_toArray, List.set_cons_zero, List.set_cons_succ, i64_w, i32_w]
       rfl
      refine pure_ (i := 5) (N := some 21) (v := ?_) (a' := ?_) #[true, true, true, true, true, true, false, false, true, false, false] rfl rfl (any_of HT_.out (by kernel_rfl)) (fun _ _ _ h => h) (Or.inl ⟨by rfl, ?_⟩) ?_ ?_
      rotate_left
      ·intro w'
       go_simp
       with_reducible rfl
      rotate_left
      ·simp only [Act.put, List.setIfInBounds_toArray, List.set_cons_zero, List.set_cons_succ, i64_w, i32_w]
       rfl
      refine pure_ (i := 6) (N := some 27) (v := ?_) (a' := ?_) #[true, true, true, true, true, true, true, false, true, false, false] rfl rfl (any_of HT_.out (by kernel_rfl)) (fun _ _ _ h => h) (Or.inl ⟨by rfl, ?_⟩) ?_ ?_
      rotate_left
      ·intro w'
       go_simp
       with_reducible rfl
      rotate_left
      ·simp only [Act.put, List.setIfInBounds_toArray, List.set_cons_zero, List.set_cons_succ, i64_w, i32_w]
       rfl
      refine pure_ (i := 7) (N := some 28) (v := ?_) (a' := ?_) #[true, true, true, true, true, true, true, true, true, false, false] rfl rfl (any_of HT_.out (by kernel_rfl)) (fun _ _ _ h => h) (Or.inl ⟨by rfl, ?_⟩) ?_ ?_
      rotate_left
      ·intro w'
       go_simp
       with_reducible rfl
      rotate_left
      ·simp only [Act.put, List.setIfInBounds_toArray, List.set_cons_zero, List.set_cons_succ, i64_w, i32_w]
       rfl
      exact norm_ (by simp only [putAll, Act.put, List.setIfInBounds_toArray, List.set_cons_zero, List.set_cons_succ]) (hCont (.slice Ao26 t453.length co26, .slice Ao27 t456.length co27, v464, v467, gb470) _ ⟨hHeld, (by (with_reducible repeat (first | apply Kd.R_alloc | apply Kd.R_drewN | apply Kd.R_drew)); exact Kd.R_mono HO455.out (fun _ hk => hk.2)), (by (with_reducible repeat (first | apply Kd.R_alloc | apply Kd.R_drewN | apply Kd.R_drew)); exact Kd.R_mono HO458.out (fun _ hk => hk.2)), (by (with_reducible repeat (first | apply Kd.R_alloc | apply Kd.R_drewN | apply Kd.R_drew)); exact Kd.R_mono HO465.out (fun _ hk => hk.2)), (by (with_reducible repeat (first | apply Kd.R_alloc | apply Kd.R_drewN | apply Kd.R_drew)); exact Kd.R_mono HO468.out (fun _ hk => hk.2)), (zq BK450), (zq BK451), (zq BK470), GW470.out, GE470.out, NB450_470.out, NB470_450.out, NB451_470.out, NB470_451.out, bq⟩)
    ·skip
     refine box_step ?hg (N := 6) ?hd (cs := #[.slice none 0 0, .slice none 0 0]) (t := 29) ?hr ?_; (case hd => rfl); (case hg => rfl); (case hr => first | (go_simp; done) | (go_simp; rfl))
     intro gb470 hg w24 hbox hb
     replace HO455 := rb HO455 hb
     replace HO458 := rb HO458 hb
     have BK470 := Aside0.mk (hbox)
     have GW470 := Aside0.mk (gq hg)
     have GE470 := Aside0.mk (gq hg)
     replace HB := sb hb
     have NB450_470 := nl hg BK450
     have NB470_450 := ng hg BK450
     replace BK450 := zb BK450 hb
     have NB451_470 := nl hg BK451
     have NB470_451 := ng hg BK451
     replace BK451 := zb BK451 hb
     clear hb hbox hg
     refine hK.out _ _ ⟨(blk_cell BK450.out 0).trans rfl, (blk_cell BK450.out 1).trans rfl, (blk_cell BK451.out 0).trans rfl, (blk_cell BK451.out 1).trans rfl, (blk_cell BK451.out 2).trans rfl, (blk_cell BK451.out 3).trans rfl⟩ (fun hHeld => ?_)
     clear hK K
     refine norm_ (a' := ?_) ?_ ?_
     rotate_left
     ·show Act.put _ (some 6) _ = _
      simp only [Act.put, List.setIfInBounds_toArray, List.set_cons_zero, List.set_cons_succ, i64_w, i32_w]
      rfl
     refine one_ (i := 3) (N := some 25) #[true, true, true, true, false, false, false, false, true, false, false] rfl rfl (one_of HT_.out (by kernel_rfl)) (by decide) (fun K hK => ?_)
     refine goes_ Try.func17 (by kernel_rfl) rfl #[.agg #[.int .i64 a1_0, .int .i64 a1_1, .int .i64 a1_2, .int .i64 a1_3]] (by rfl) rfl rfl mq ?_
     with_reducible refine (laws_toLoan.calls a1_0 a1_1 a1_2 a1_3 t459 t460 t461 t462 _ A11.out).mono ?_
     rintro e w25 ⟨rfl, hb⟩
     refine ⟨_, rfl, ?_⟩
     replace HO455 := rb HO455 hb
     replace HO458 := rb HO458 hb
     replace BK450 := zb BK450 hb
     replace BK451 := zb BK451 hb
     replace BK470 := zb BK470 hb
     replace HB := sb hb
     (try clear hb)
     obtain ⟨Ao26, co26, eo26⟩ := Kd.R_slice HO455.out
     (first | subst eo26 | (injection eo26 with f1_ f2_ f3_; have f4_ := f1_.symm; have f5_ := f3_.symm; clear f1_ f2_ f3_; subst f4_; subst f5_))
     obtain ⟨Ao27, co27, eo27⟩ := Kd.R_slice HO458.out
     (first | subst eo27 | (injection eo27 with f1_ f2_ f3_; have f4_ := f1_.symm; have f5_ := f3_.symm; clear f1_ f2_ f3_; subst f4_; subst f5_))
     refine hK.out _ _ ⟨(blk_cell BK450.out 0).trans rfl, (blk_cell BK450.out 1).trans rfl, (blk_cell BK451.out 0).trans rfl, (blk_cell BK451.out 1).trans rfl, (blk_cell BK451.out 2).trans rfl, (blk_cell BK451.out 3).trans rfl⟩ (fun hHeld => ?_)
     clear hK K
     refine norm_ (a' := ?_) ?_ ?_
     rotate_left
     ·show Act.put _ (some 25) _ = _
      simp only [Act.put, List.setIfInBounds_toArray, List.set_cons_zero, List.set_cons_succ, i64_w, i32_w]
      rfl
     refine one_ (i := 4) (N := some 26) #[true, true, true, true, true, false, false, false, true, false, false] rfl rfl (one_of HT_.out (by kernel_rfl)) (by decide) (fun K hK => ?_)
     refine goes_ Try.func16 (by kernel_rfl) rfl #[.agg #[.slice Ao26 t453.length co26, .slice Ao27 t456.length co27], .agg #[.int .i64 t459, .int .i64 t460, .int .i64 t461, .int .i64 t462]] (by rfl) rfl rfl mq ?_
     with_reducible refine (spec_LendParts.calls k _ _ t453 _ _ t456 t459 t460 t461 t462 t463 t466 t469 _ ?s1 ?s2 ?s3 ?s4 A12.out).mono ?_
     (case s1 => exact cr HO455)
     (case s2 => exact r1 HO455)
     (case s3 => exact cr HO458)
     (case s4 => exact r1 HO458)
     rintro e w28 ⟨v464, v467, rfl, ho0, ho1, hb⟩
     refine ⟨_, rfl, ?_⟩
     have HO465 := Aside0.mk (Kd.R_lower (Kd.R_new' ho0 (Kd.R_lt (rq HO455))) (below_size bq))
     replace HO455 := Aside0.mk (Kd.R_elder' (rq HO455) (Kd.R_base ho0) hb)
     have HO468 := Aside0.mk (Kd.R_lower (Kd.R_new' ho1 (Kd.R_lt (rq HO458))) (below_size bq))
     replace HO458 := Aside0.mk (Kd.R_elder' (rq HO458) (Kd.R_base ho1) hb)
     replace BK450 := zb BK450 hb
     replace BK451 := zb BK451 hb
     replace BK470 := zb BK470 hb
     replace HB := sb hb
     (try clear hb ho0 ho1)
     refine hK.out _ _ ⟨(blk_cell BK450.out 0).trans rfl, (blk_cell BK450.out 1).trans rfl, (blk_cell BK451.out 0).trans rfl, (blk_cell BK451.out 1).trans rfl, (blk_cell BK451.out 2).trans rfl, (blk_cell BK451.out 3).trans rfl⟩ (fun hHeld => ?_)
     clear hK K
     refine norm_ (a' := ?_) ?_ ?_
     rotate_left
     ·show Act.put _ (some 26) _ = _
      simp only [Act.put, List.setIfInBounds_toArray, List.set_cons_zero, List.set_cons_succ, i64_w, i32_w]
      rfl
     refine pure_ (i := 5) (N := some 21) (v := ?_) (a' := ?_) #[true, true, true, true, true, true, false, false, true, false, false] rfl rfl (any_of HT_.out (by kernel_rfl)) (fun _ _ _ h => h) (Or.inl ⟨by rfl, ?_⟩) ?_ ?_
     rotate_left
     ·intro w'
      go_simp
      with_reducible rfl
     rotate_left
     ·simp only [Act.put, List.setIfInBounds_toArray, List.set_cons_zero, List.set_cons_succ, i64_w, i32_w]
      rfl
     refine pure_ (i := 6) (N := some 27) (v := ?_) (a' := ?_) #[true, true, true, true, true, true, true, false, true, false, false] rfl rfl (any_of HT_.out (by kernel_rfl)) (fun _ _ _ h => h) (Or.inl ⟨by rfl, ?_⟩) ?_ ?_
     rotate_left
     ·intro w'
      go_simp
      with_reducible rfl
     rotate_left
     ·simp only [Act.put, List.setIfInBounds_toArray, List.set_cons_zero, List.set_cons_succ, i64_w, i32_w]
      rfl
     refine pure_ (i := 7) (N := some 28) (v := ?_) (a' := ?_) #[true, true, true, true, true, true, true, true, true, false, false] rfl rfl (any_of HT_.out (by kernel_rfl)) (fun _ _ _ h => h) (Or.inl ⟨by rfl, ?_⟩) ?_ ?_
     rotate_left
     ·intro w'
      go_simp
      with_reducible rfl
     rotate_left
     ·simp only [Act.put, List.setIfInBounds_toArray, List.set_cons_zero, List.set_cons_succ, i64_w, i32_w]
      rfl
     exact norm_ (by simp only [putAll, Act.put, List.setIfInBounds_toArray, List.set_cons_zero, List.set_cons_succ]) (hCont (.slice Ao26 t453.length co26, .slice Ao27 t456.length co27, v464, v467, gb470) _ ⟨hHeld, (by (with_reducible repeat (first | apply Kd.R_alloc | apply Kd.R_drewN | apply Kd.R_drew)); exact Kd.R_mono HO455.out (fun _ hk => hk.2)), (by (with_reducible repeat (first | apply Kd.R_alloc | apply Kd.R_drewN | apply Kd.R_drew)); exact Kd.R_mono HO458.out (fun _ hk => hk.2)), (by (with_reducible repeat (first | apply Kd.R_alloc | apply Kd.R_drewN | apply Kd.R_drew)); exact Kd.R_mono HO465.out (fun _ hk => hk.2)), (by (with_reducible repeat (first | apply Kd.R_alloc | apply Kd.R_drewN | apply Kd.R_drew)); exact Kd.R_mono HO468.out (fun _ hk => hk.2)), (zq BK450), (zq BK451), (zq BK470), GW470.out, GE470.out, NB450_470.out, NB470_450.out, NB451_470.out, NB470_451.out, bq⟩)
   ·skip
    refine box_step ?hg (N := 6) ?hd (cs := #[.slice none 0 0, .slice none 0 0]) (t := 29) ?hr ?_; (case hd => rfl); (case hg => rfl); (case hr => first | (go_simp; done) | (go_simp; rfl))
    intro gb470 hg w23 hbox hb
    have BK470 := Aside0.mk (hbox)
    have GW470 := Aside0.mk (gq hg)
    have GE470 := Aside0.mk (gq hg)
    replace HB := sb hb
    have NB450_470 := nl hg BK450
    have NB470_450 := ng hg BK450
    replace BK450 := zb BK450 hb
    have NB451_470 := nl hg BK451
    have NB470_451 := ng hg BK451
    replace BK451 := zb BK451 hb
    clear hb hbox hg
    refine hK.out _ _ ⟨(blk_cell BK450.out 0).trans rfl, (blk_cell BK450.out 1).trans rfl, (blk_cell BK451.out 0).trans rfl, (blk_cell BK451.out 1).trans rfl, (blk_cell BK451.out 2).trans rfl, (blk_cell BK451.out 3).trans rfl⟩ (fun hHeld => ?_)
    clear hK K
    refine norm_ (a' := ?_) ?_ ?_
    rotate_left
    ·show Act.put _ (some 6) _ = _
     simp only [Act.put, List.setIfInBounds_toArray, List.set_cons_zero, List.set_cons_succ, i64_w, i32_w]
     rfl
    refine one_ (i := 1) (N := some 23) #[true, true, true, false, false, false, false, false, true, false, false] rfl rfl (one_of HT_.out (by kernel_rfl)) (by decide) (fun K hK => ?_)
    refine goes_ Try.func9 (by kernel_rfl) rfl #[.agg #[.slice A0_0 l0_0.length c0_0, .slice A0_1 l0_1.length c0_1]] (by rfl) rfl rfl mq ?_
    with_reducible refine (laws_toShop.calls k _ _ l0_0 _ _ l0_1 t453 t456 _ ?s1 ?s2 ?s3 ?s4 A10.out).mono ?_
    (case s1 => exact cq (Kd.C_below HR0_0.out HB.out))
    (case s2 => exact HC0_0.out)
    (case s3 => exact cq (Kd.C_below HR0_1.out HB.out))
    (case s4 => exact HC0_1.out)
    rintro e w24 ⟨v454, v457, rfl, ho0, ho1, hb⟩
    refine ⟨_, rfl, ?_⟩
    have HO455 := rl ho0
    have HO458 := rl ho1
    replace BK450 := zb BK450 hb
    replace BK451 := zb BK451 hb
    replace BK470 := zb BK470 hb
    replace HB := sb hb
    (try clear hb ho0 ho1)
    refine hK.out _ _ ⟨(blk_cell BK450.out 0).trans rfl, (blk_cell BK450.out 1).trans rfl, (blk_cell BK451.out 0).trans rfl, (blk_cell BK451.out 1).trans rfl, (blk_cell BK451.out 2).trans rfl, (blk_cell BK451.out 3).trans rfl⟩ (fun hHeld => ?_)
    clear hK K
    refine norm_ (a' := ?_) ?_ ?_
    rotate_left
    ·show Act.put _ (some 23) _ = _
     simp only [Act.put, List.setIfInBounds_toArray, List.set_cons_zero, List.set_cons_succ, i64_w, i32_w]
     rfl
    refine one_ (i := 3) (N := some 25) #[true, true, true, true, false, false, false, false, true, false, false] rfl rfl (one_of HT_.out (by kernel_rfl)) (by decide) (fun K hK => ?_)
    refine goes_ Try.func17 (by kernel_rfl) rfl #[.agg #[.int .i64 a1_0, .int .i64 a1_1, .int .i64 a1_2, .int .i64 a1_3]] (by rfl) rfl rfl mq ?_
    with_reducible refine (laws_toLoan.calls a1_0 a1_1 a1_2 a1_3 t459 t460 t461 t462 _ A11.out).mono ?_
    rintro e w25 ⟨rfl, hb⟩
    refine ⟨_, rfl, ?_⟩
    replace HO455 := rb HO455 hb
    replace HO458 := rb HO458 hb
    replace BK450 := zb BK450 hb
    replace BK451 := zb BK451 hb
    replace BK470 := zb BK470 hb
    replace HB := sb hb
    (try clear hb)
    obtain ⟨Ao26, co26, eo26⟩ := Kd.R_slice HO455.out
    (first | subst eo26 | (injection eo26 with f1_ f2_ f3_; have f4_ := f1_.symm; have f5_ := f3_.symm; clear f1_ f2_ f3_; subst f4_; subst f5_))
    obtain ⟨Ao27, co27, eo27⟩ := Kd.R_slice HO458.out
    (first | subst eo27 | (injection eo27 with f1_ f2_ f3_; have f4_ := f1_.symm; have f5_ := f3_.symm; clear f1_ f2_ f3_; subst f4_; subst f5_))
    refine hK.out _ _ ⟨(blk_cell BK450.out 0).trans rfl, (blk_cell BK450.out 1).trans rfl, (blk_cell BK451.out 0).trans rfl, (blk_cell BK451.out 1).trans rfl, (blk_cell BK451.out 2).trans rfl, (blk_cell BK451.out 3).trans rfl⟩ (fun hHeld => ?_)
    clear hK K
    refine norm_ (a' := ?_) ?_ ?_
    rotate_left
    ·show Act.put _ (some 25) _ = _
     simp only [Act.put, List.setIfInBounds_toArray, List.set_cons_zero, List.set_cons_succ, i64_w, i32_w]
     rfl
    refine one_ (i := 4) (N := some 26) #[true, true, true, true, true, false, false, false, true, false, false] rfl rfl (one_of HT_.out (by kernel_rfl)) (by decide) (fun K hK => ?_)
    refine goes_ Try.func16 (by kernel_rfl) rfl #[.agg #[.slice Ao26 t453.length co26, .slice Ao27 t456.length co27], .agg #[.int .i64 t459, .int .i64 t460, .int .i64 t461, .int .i64 t462]] (by rfl) rfl rfl mq ?_
    with_reducible refine (spec_LendParts.calls k _ _ t453 _ _ t456 t459 t460 t461 t462 t463 t466 t469 _ ?s1 ?s2 ?s3 ?s4 A12.out).mono ?_
    (case s1 => exact cr HO455)
    (case s2 => exact r1 HO455)
    (case s3 => exact cr HO458)
    (case s4 => exact r1 HO458)
    rintro e w28 ⟨v464, v467, rfl, ho0, ho1, hb⟩
    refine ⟨_, rfl, ?_⟩
    have HO465 := Aside0.mk (Kd.R_lower (Kd.R_new' ho0 (Kd.R_lt (rq HO455))) (below_size bq))
    replace HO455 := Aside0.mk (Kd.R_elder' (rq HO455) (Kd.R_base ho0) hb)
    have HO468 := Aside0.mk (Kd.R_lower (Kd.R_new' ho1 (Kd.R_lt (rq HO458))) (below_size bq))
    replace HO458 := Aside0.mk (Kd.R_elder' (rq HO458) (Kd.R_base ho1) hb)
    replace BK450 := zb BK450 hb
    replace BK451 := zb BK451 hb
    replace BK470 := zb BK470 hb
    replace HB := sb hb
    (try clear hb ho0 ho1)
    refine hK.out _ _ ⟨(blk_cell BK450.out 0).trans rfl, (blk_cell BK450.out 1).trans rfl, (blk_cell BK451.out 0).trans rfl, (blk_cell BK451.out 1).trans rfl, (blk_cell BK451.out 2).trans rfl, (blk_cell BK451.out 3).trans rfl⟩ (fun hHeld => ?_)
    clear hK K
    refine norm_ (a' := ?_) ?_ ?_
    rotate_left
    ·show Act.put _ (some 26) _ = _
     simp only [Act.put, List.setIfInBounds_toArray, List.set_cons_zero, List.set_cons_succ, i64_w, i32_w]
     rfl
    refine pure_ (i := 5) (N := some 21) (v := ?_) (a' := ?_) #[true, true, true, true, true, true, false, false, true, false, false] rfl rfl (any_of HT_.out (by kernel_rfl)) (fun _ _ _ h => h) (Or.inl ⟨by rfl, ?_⟩) ?_ ?_
    rotate_left
    ·intro w'
     go_simp
     with_reducible rfl
    rotate_left
    ·simp only [Act.put, List.setIfInBounds_toArray, List.set_cons_zero, List.set_cons_succ, i64_w, i32_w]
     rfl
    refine pure_ (i := 6) (N := some 27) (v := ?_) (a' := ?_) #[true, true, true, true, true, true, true, false, true, false, false] rfl rfl (any_of HT_.out (by kernel_rfl)) (fun _ _ _ h => h) (Or.inl ⟨by rfl, ?_⟩) ?_ ?_
    rotate_left
    ·intro w'
     go_simp
     with_reducible rfl
    rotate_left
    ·simp only [Act.put, List.setIfInBounds_toArray, List.set_cons_zero, List.set_cons_succ, i64_w, i32_w]
     rfl
    refine pure_ (i := 7) (N := some 28) (v := ?_) (a' := ?_) #[true, true, true, true, true, true, true, true, true, false, false] rfl rfl (any_of HT_.out (by kernel_rfl)) (fun _ _ _ h => h) (Or.inl ⟨by rfl, ?_⟩) ?_ ?_
    rotate_left
    ·intro w'
     go_simp
     with_reducible rfl
    rotate_left
    ·simp only [Act.put, List.setIfInBounds_toArray, List.set_cons_zero, List.set_cons_succ, i64_w, i32_w]
     rfl
    exact norm_ (by simp only [putAll, Act.put, List.setIfInBounds_toArray, List.set_cons_zero, List.set_cons_succ]) (hCont (.slice Ao26 t453.length co26, .slice Ao27 t456.length co27, v464, v467, gb470) _ ⟨hHeld, (by (with_reducible repeat (first | apply Kd.R_alloc | apply Kd.R_drewN | apply Kd.R_drew)); exact Kd.R_mono HO455.out (fun _ hk => hk.2)), (by (with_reducible repeat (first | apply Kd.R_alloc | apply Kd.R_drewN | apply Kd.R_drew)); exact Kd.R_mono HO458.out (fun _ hk => hk.2)), (by (with_reducible repeat (first | apply Kd.R_alloc | apply Kd.R_drewN | apply Kd.R_drew)); exact Kd.R_mono HO465.out (fun _ hk => hk.2)), (by (with_reducible repeat (first | apply Kd.R_alloc | apply Kd.R_drewN | apply Kd.R_drew)); exact Kd.R_mono HO468.out (fun _ hk => hk.2)), (zq BK450), (zq BK451), (zq BK470), GW470.out, GE470.out, NB450_470.out, NB470_450.out, NB451_470.out, NB470_451.out, bq⟩)
  rintro ⟨v454, v457, v464, v467, gb470⟩ w29 ⟨hS_, h0_, h1_, h2_, h3_, h4_, h5_, h6_, h7_, h8_, h9_, h10_, h11_, h12_, h13_⟩
  have n0_ : Aside0 (Kd.R (Kd.int .i64) 3 w29 w.heap.size (fun k_ => some k_ ≠ (v464 : Value).ownBlock) v454 t453) := ⟨h0_⟩
  have n1_ : Aside0 (Kd.R k41 41 w29 w.heap.size (fun k_ => some k_ ≠ (v467 : Value).ownBlock) v457 t456) := ⟨h1_⟩
  have n2_ : Aside0 (Kd.R (Kd.int .i64) 3 w29 w.heap.size (fun k_ => some k_ ≠ (v454 : Value).ownBlock) v464 t463) := ⟨h2_⟩
  have n3_ : Aside0 (Kd.R k41 41 w29 w.heap.size (fun k_ => some k_ ≠ (v457 : Value).ownBlock) v467 t466) := ⟨h3_⟩
  have n4_ : Aside0 (w29.heap[gb450]? = some (.cells #[.slice A0_0 l0_0.length c0_0, .slice A0_1 l0_1.length c0_1] 25 (0, 0))) := ⟨h4_⟩
  have n5_ : Aside0 (w29.heap[gb451]? = some (.cells #[.int .i64 a1_0, .int .i64 a1_1, .int .i64 a1_2, .int .i64 a1_3] 39 (0, 0))) := ⟨h5_⟩
  have n6_ : Aside0 (w29.heap[gb470]? = some (.cells #[.slice none 0 0, .slice none 0 0] 29 (0, 0))) := ⟨h6_⟩
  have n7_ : Aside0 (w.heap.size ≤ gb470) := ⟨h7_⟩
  have n8_ : Aside0 (w.heap.size ≤ gb470) := ⟨h8_⟩
  have n9_ : Aside0 (gb450 ≠ gb470) := ⟨h9_⟩
  have n10_ : Aside0 (gb470 ≠ gb450) := ⟨h10_⟩
  have n11_ : Aside0 (gb451 ≠ gb470) := ⟨h11_⟩
  have n12_ : Aside0 (gb470 ≠ gb451) := ⟨h12_⟩
  have n13_ : Aside0 (Below w.heap.size w w29) := ⟨h13_⟩
  clear BK450 BK451 HB h0_ h1_ h2_ h3_ h4_ h5_ h6_ h7_ h8_ h9_ h10_ h11_ h12_ h13_
  have HO455 := n0_
  have HO458 := n1_
  have HO465 := n2_
  have HO468 := n3_
  have BK450 := n4_
  have BK451 := n5_
  have BK470 := n6_
  have GE470 := n8_
  have NB450_470 := n9_
  have NB470_450 := n10_
  have NB451_470 := n11_
  have NB470_451 := n12_
  have HB := n13_
  clear n0_ n1_ n2_ n3_ n4_ n5_ n6_ n7_ n8_ n9_ n10_ n11_ n12_ n13_
  have hHeld : w29.cell? ⟨gb450, 0, none⟩ = some (.slice A0_0 l0_0.length c0_0) ∧ w29.cell? ⟨gb450, 1, none⟩ = some (.slice A0_1 l0_1.length c0_1) ∧ w29.cell? ⟨gb451, 0, none⟩ = some (.int .i64 a1_0) ∧ w29.cell? ⟨gb451, 1, none⟩ = some (.int .i64 a1_1) ∧ w29.cell? ⟨gb451, 2, none⟩ = some (.int .i64 a1_2) ∧ w29.cell? ⟨gb451, 3, none⟩ = some (.int .i64 a1_3) := hS_
  obtain ⟨Ao30, co30, eo30⟩ := Kd.R_slice HO465.out
  (first | subst eo30 | (injection eo30 with f1_ f2_ f3_; have f4_ := f1_.symm; have f5_ := f3_.symm; clear f1_ f2_ f3_; subst f4_; subst f5_))
  obtain ⟨Ao32, co32, eo32⟩ := Kd.R_slice HO468.out
  (first | subst eo32 | (injection eo32 with f1_ f2_ f3_; have f4_ := f1_.symm; have f5_ := f3_.symm; clear f1_ f2_ f3_; subst f4_; subst f5_))
  refine norm_ (a' := ?_) ?_ ?_
  rotate_left
  ·simp only [putAll, Act.put, List.setIfInBounds_toArray, List.set_cons_zero, List.set_cons_succ]
   rfl
  refine one_ (i := 9) (N := none) #[true, true, true, true, true, true, true, true, true, true, false] rfl rfl (one_of HT_.out (by kernel_rfl)) (by decide) (fun K hK => ?_)
  have hs31 : w29.cell? ⟨gb470, 0, none⟩ = some (.slice none 0 0) := (blk_cell BK470.out 0).trans rfl
  have hfs31 := blk_frozen BK470.out 0
  have hns31_0 := NB450_470.out
  have hns31_1 := NB451_470.out
  have hms31_0 := NB470_450.out
  have hms31_1 := NB470_451.out
  have hs33 : w29.cell? ⟨gb470, 1, none⟩ = some (.slice none 0 0) := (blk_cell BK470.out 1).trans rfl
  have hfs33 := blk_frozen BK470.out 1
  have hns33_0 := NB450_470.out
  have hns33_1 := NB451_470.out
  have hms33_0 := NB470_450.out
  have hms33_1 := NB470_451.out
  refine skip_ (w1 := ?_) (by rfl) rfl ?_ ?_
  rotate_left
  ·go_simp
   rfl
  refine hK.out _ _ ⟨((cell_far (p := ⟨gb470, _, none⟩) NB450_470.out _).trans (((cell_far (p := ⟨gb470, _, none⟩) NB450_470.out _).trans (hHeld.1)))), ((cell_far (p := ⟨gb470, _, none⟩) NB450_470.out _).trans (((cell_far (p := ⟨gb470, _, none⟩) NB450_470.out _).trans (hHeld.2.1)))), ((cell_far (p := ⟨gb470, _, none⟩) NB451_470.out _).trans (((cell_far (p := ⟨gb470, _, none⟩) NB451_470.out _).trans (hHeld.2.2.1)))), ((cell_far (p := ⟨gb470, _, none⟩) NB451_470.out _).trans (((cell_far (p := ⟨gb470, _, none⟩) NB451_470.out _).trans (hHeld.2.2.2.1)))), ((cell_far (p := ⟨gb470, _, none⟩) NB451_470.out _).trans (((cell_far (p := ⟨gb470, _, none⟩) NB451_470.out _).trans (hHeld.2.2.2.2.1)))), ((cell_far (p := ⟨gb470, _, none⟩) NB451_470.out _).trans (((cell_far (p := ⟨gb470, _, none⟩) NB451_470.out _).trans (hHeld.2.2.2.2.2))))⟩ (fun hHeld => ?_)
  clear hK K
  refine pure_ (i := 10) (N := some 7) (v := ?_) (a' := ?_) #[true, true, true, true, true, true, true, true, true, true, true] rfl rfl (any_of HT_.out (by kernel_rfl)) (fun _ _ _ h => h) (Or.inl ⟨by rfl, ?_⟩) ?_ ?_
  rotate_left
  ·intro w'
   go_simp
   with_reducible rfl
  rotate_left
  ·simp only [Act.put, List.setIfInBounds_toArray, List.set_cons_zero, List.set_cons_succ, i64_w, i32_w]
   rfl
  refine done_ (done_of HT_.out (by kernel_rfl)) ?_
  have hnb34 := NB450_470.out
  have hnc34 := NB470_450.out
  have ⟨hcz35_0, hcz35_1, hfz35_0, hfz35_1⟩ := bc2 BK450
  try go_wp2_with (first | ((with_reducible refine gate_callee (f := 9) rfl ?_); refine goesQ (some 30) Try.func9 #[.agg #[.slice A0_0 l0_0.length c0_0, .slice A0_1 l0_1.length c0_1]] ?_; (with_reducible refine (laws_toShop.calls k _ _ l0_0 _ _ l0_1 t471 t474 _ ?s1 ?s2 ?s3 ?s4 A13.out).mono ?_); (case s1 => exact Kd.C_below HR0_0.out bq); (case s2 => exact HC0_0.out); (case s3 => exact Kd.C_below HR0_1.out bq); (case s4 => exact HC0_1.out); rintro e w36 ⟨v472, v475, rfl, ho0, ho1, hb⟩; refine ⟨_, rfl, ?_⟩; have HO473 := Aside0.mk (Kd.R_lower (Kd.R_new' (Kd.R_new' ho0 (Kd.R_lt (by (with_reducible repeat (first | apply Kd.R_alloc | apply Kd.R_drewN | apply Kd.R_drew)); exact (Kd.R_mono (Kd.R_far (p := ⟨gb470, 1, none⟩) (Kd.R_far (p := ⟨gb470, 0, none⟩) (Kd.R_types HO455.out BK470.out (by decide)) (fun _ hk => hk.2) (.slice Ao30 t463.length co30)) (fun _ hk => hk.2) (.slice Ao32 t466.length co32)) (fun _ h_ => h_.1))))) (Kd.R_lt (by (with_reducible repeat (first | apply Kd.R_alloc | apply Kd.R_drewN | apply Kd.R_drew)); exact (Kd.R_mono (Kd.R_far (p := ⟨gb470, 1, none⟩) (Kd.R_far (p := ⟨gb470, 0, none⟩) (Kd.R_types HO465.out BK470.out (by decide)) (fun _ hk => hk.2) (.slice Ao30 t463.length co30)) (fun _ hk => hk.2) (.slice Ao32 t466.length co32)) (fun _ h_ => h_.1))))) (below_size bq)); replace HO455 := Aside0.mk (Kd.R_elder' (by (with_reducible repeat (first | apply Kd.R_alloc | apply Kd.R_drewN | apply Kd.R_drew)); exact (Kd.R_mono (Kd.R_far (p := ⟨gb470, 1, none⟩) (Kd.R_far (p := ⟨gb470, 0, none⟩) (Kd.R_types HO455.out BK470.out (by decide)) (fun _ hk => hk.2) (.slice Ao30 t463.length co30)) (fun _ hk => hk.2) (.slice Ao32 t466.length co32)) (fun _ h_ => h_.1))) (Kd.R_base ho0) hb); replace HO465 := Aside0.mk (Kd.R_elder' (by (with_reducible repeat (first | apply Kd.R_alloc | apply Kd.R_drewN | apply Kd.R_drew)); exact (Kd.R_mono (Kd.R_far (p := ⟨gb470, 1, none⟩) (Kd.R_far (p := ⟨gb470, 0, none⟩) (Kd.R_types HO465.out BK470.out (by decide)) (fun _ hk => hk.2) (.slice Ao30 t463.length co30)) (fun _ hk => hk.2) (.slice Ao32 t466.length co32)) (fun _ h_ => h_.1))) (Kd.R_base ho0) hb); have HO476 := Aside0.mk (Kd.R_lower (Kd.R_new' (Kd.R_new' ho1 (Kd.R_lt (by (with_reducible repeat (first | apply Kd.R_alloc | apply Kd.R_drewN | apply Kd.R_drew)); exact (Kd.R_mono (Kd.R_far (p := ⟨gb470, 1, none⟩) (Kd.R_far (p := ⟨gb470, 0, none⟩) (Kd.R_types HO458.out BK470.out (by decide)) (fun _ hk => hk.2) (.slice Ao30 t463.length co30)) (fun _ hk => hk.2) (.slice Ao32 t466.length co32)) (fun _ h_ => h_.1))))) (Kd.R_lt (by (with_reducible repeat (first | apply Kd.R_alloc | apply Kd.R_drewN | apply Kd.R_drew)); exact (Kd.R_mono (Kd.R_far (p := ⟨gb470, 1, none⟩) (Kd.R_far (p := ⟨gb470, 0, none⟩) (Kd.R_types HO468.out BK470.out (by decide)) (fun _ hk => hk.2) (.slice Ao30 t463.length co30)) (fun _ hk => hk.2) (.slice Ao32 t466.length co32)) (fun _ h_ => h_.1))))) (below_size bq)); replace HO458 := Aside0.mk (Kd.R_elder' (by (with_reducible repeat (first | apply Kd.R_alloc | apply Kd.R_drewN | apply Kd.R_drew)); exact (Kd.R_mono (Kd.R_far (p := ⟨gb470, 1, none⟩) (Kd.R_far (p := ⟨gb470, 0, none⟩) (Kd.R_types HO458.out BK470.out (by decide)) (fun _ hk => hk.2) (.slice Ao30 t463.length co30)) (fun _ hk => hk.2) (.slice Ao32 t466.length co32)) (fun _ h_ => h_.1))) (Kd.R_base ho1) hb); replace HO468 := Aside0.mk (Kd.R_elder' (by (with_reducible repeat (first | apply Kd.R_alloc | apply Kd.R_drewN | apply Kd.R_drew)); exact (Kd.R_mono (Kd.R_far (p := ⟨gb470, 1, none⟩) (Kd.R_far (p := ⟨gb470, 0, none⟩) (Kd.R_types HO468.out BK470.out (by decide)) (fun _ hk => hk.2) (.slice Ao30 t463.length co30)) (fun _ hk => hk.2) (.slice Ao32 t466.length co32)) (fun _ h_ => h_.1))) (Kd.R_base ho1) hb); replace BK450 := Aside0.mk (blk_below (g := gb450) (o := .cells #[.slice A0_0 l0_0.length c0_0, .slice A0_1 l0_1.length c0_1] 25 (0, 0)) (by (with_reducible repeat (first | refine blk_drewN ?_ _ | refine blk_drew ?_ | refine blk_alloc ?_ _)); refine blk_far ?_ NB450_470.out _; (with_reducible repeat (first | refine blk_drewN ?_ _ | refine blk_drew ?_ | refine blk_alloc ?_ _)); refine blk_far ?_ NB450_470.out _; (with_reducible repeat (first | refine blk_drewN ?_ _ | refine blk_drew ?_ | refine blk_alloc ?_ _)); exact BK450.out) hb); replace BK451 := Aside0.mk (blk_below (g := gb451) (o := .cells #[.int .i64 a1_0, .int .i64 a1_1, .int .i64 a1_2, .int .i64 a1_3] 39 (0, 0)) (by (with_reducible repeat (first | refine blk_drewN ?_ _ | refine blk_drew ?_ | refine blk_alloc ?_ _)); refine blk_far ?_ NB451_470.out _; (with_reducible repeat (first | refine blk_drewN ?_ _ | refine blk_drew ?_ | refine blk_alloc ?_ _)); refine blk_far ?_ NB451_470.out _; (with_reducible repeat (first | refine blk_drewN ?_ _ | refine blk_drew ?_ | refine blk_alloc ?_ _)); exact BK451.out) hb); replace BK470 := Aside0.mk (blk_below (g := gb470) (o := .cells #[.slice Ao30 t463.length co30, .slice Ao32 t466.length co32] 29 (0, 0)) (by (with_reducible repeat (first | refine blk_drewN ?_ _ | refine blk_drew ?_ | refine blk_alloc ?_ _)); refine blk_put (cs := #[.slice Ao30 t463.length co30, .slice none 0 0]) ?_ 1 _ rfl; (with_reducible repeat (first | refine blk_drewN ?_ _ | refine blk_drew ?_ | refine blk_alloc ?_ _)); refine blk_put (cs := #[.slice none 0 0, .slice none 0 0]) ?_ 0 _ rfl; (with_reducible repeat (first | refine blk_drewN ?_ _ | refine blk_drew ?_ | refine blk_alloc ?_ _)); exact BK470.out) hb); replace HB := sb hb; (try clear hb ho0 ho1)) | ((with_reducible refine gate_dst (N := 8) rfl ?_); refine box_event ?hg (N := 8) ?hd (cs := #[.slice none 0 0, .slice none 0 0]) (t := 29) ?hr ?_; (case hd => rfl); (case hg => rfl); (case hr => first | (go_simp; done) | (go_simp; rfl)); intro gb477 hg w37 hbox hb; replace HO455 := rb HO455 hb; replace HO458 := rb HO458 hb; replace HO465 := rb HO465 hb; replace HO468 := rb HO468 hb; replace HO473 := rb HO473 hb; replace HO476 := rb HO476 hb; have BK477 := Aside0.mk (hbox); have GE477 := Aside0.mk (gq hg); replace HB := sb hb; have NB450_477 := nl hg BK450; have NB477_450 := ng hg BK450; replace BK450 := zb BK450 hb; have NB451_477 := nl hg BK451; have NB477_451 := ng hg BK451; replace BK451 := zb BK451 hb; have NB470_477 := nl hg BK470; have NB477_470 := ng hg BK470; replace BK470 := zb BK470 hb; clear hb hbox hg; obtain ⟨Ao38, co38, eo38⟩ := Kd.R_slice HO473.out; subst eo38; have hnb39 := NB477_450.out; have hnc39 := NB450_477.out; have hnb40 := NB477_451.out; have hnc40 := NB451_477.out; have hnb41 := NB477_470.out; have hnc41 := NB470_477.out; have ⟨hcz42_0, hcz42_1, hfz42_0, hfz42_1⟩ := bc2 BK477; obtain ⟨Ao43, co43, eo43⟩ := Kd.R_slice HO476.out; subst eo43))
  have n0_ : Aside0 (Kd.R (Kd.int .i64) 3 ((w37.setCell ⟨gb477, 0, none⟩ (.slice Ao38 t471.length co38)).setCell ⟨gb477, 1, none⟩ (.slice Ao43 t474.length co43)) w.heap.size (fun k_ => some k_ ≠ (.slice Ao30 t463.length co30 : Value).ownBlock ∧ some k_ ≠ (.slice Ao38 t471.length co38 : Value).ownBlock) v454 t453) := ⟨by (with_reducible repeat (first | apply Kd.R_alloc | apply Kd.R_drewN | apply Kd.R_drew)); exact Kd.R_mono (Kd.R_far (p := ⟨gb477, 1, none⟩) (Kd.R_far (p := ⟨gb477, 0, none⟩) (Kd.R_types HO455.out BK477.out (by decide)) (fun _ hk => hk.2) (.slice Ao38 t471.length co38)) (fun _ hk => hk.2) (.slice Ao43 t474.length co43)) (fun _ hk => ⟨hk.1.1, hk.1.2⟩)⟩
  have n1_ : Aside0 (Kd.R k41 41 ((w37.setCell ⟨gb477, 0, none⟩ (.slice Ao38 t471.length co38)).setCell ⟨gb477, 1, none⟩ (.slice Ao43 t474.length co43)) w.heap.size (fun k_ => some k_ ≠ (.slice Ao32 t466.length co32 : Value).ownBlock ∧ some k_ ≠ (.slice Ao43 t474.length co43 : Value).ownBlock) v457 t456) := ⟨by (with_reducible repeat (first | apply Kd.R_alloc | apply Kd.R_drewN | apply Kd.R_drew)); exact Kd.R_mono (Kd.R_far (p := ⟨gb477, 1, none⟩) (Kd.R_far (p := ⟨gb477, 0, none⟩) (Kd.R_types HO458.out BK477.out (by decide)) (fun _ hk => hk.2) (.slice Ao38 t471.length co38)) (fun _ hk => hk.2) (.slice Ao43 t474.length co43)) (fun _ hk => ⟨hk.1.1, hk.1.2⟩)⟩
  have n2_ : Aside0 (Kd.R (Kd.int .i64) 3 ((w37.setCell ⟨gb477, 0, none⟩ (.slice Ao38 t471.length co38)).setCell ⟨gb477, 1, none⟩ (.slice Ao43 t474.length co43)) w.heap.size (fun k_ => some k_ ≠ (v454 : Value).ownBlock ∧ some k_ ≠ (.slice Ao38 t471.length co38 : Value).ownBlock) (.slice Ao30 t463.length co30) t463) := ⟨by (with_reducible repeat (first | apply Kd.R_alloc | apply Kd.R_drewN | apply Kd.R_drew)); exact Kd.R_mono (Kd.R_far (p := ⟨gb477, 1, none⟩) (Kd.R_far (p := ⟨gb477, 0, none⟩) (Kd.R_types HO465.out BK477.out (by decide)) (fun _ hk => hk.2) (.slice Ao38 t471.length co38)) (fun _ hk => hk.2) (.slice Ao43 t474.length co43)) (fun _ hk => ⟨hk.1.1, hk.1.2⟩)⟩
  have n3_ : Aside0 (Kd.R k41 41 ((w37.setCell ⟨gb477, 0, none⟩ (.slice Ao38 t471.length co38)).setCell ⟨gb477, 1, none⟩ (.slice Ao43 t474.length co43)) w.heap.size (fun k_ => some k_ ≠ (v457 : Value).ownBlock ∧ some k_ ≠ (.slice Ao43 t474.length co43 : Value).ownBlock) (.slice Ao32 t466.length co32) t466) := ⟨by (with_reducible repeat (first | apply Kd.R_alloc | apply Kd.R_drewN | apply Kd.R_drew)); exact Kd.R_mono (Kd.R_far (p := ⟨gb477, 1, none⟩) (Kd.R_far (p := ⟨gb477, 0, none⟩) (Kd.R_types HO468.out BK477.out (by decide)) (fun _ hk => hk.2) (.slice Ao38 t471.length co38)) (fun _ hk => hk.2) (.slice Ao43 t474.length co43)) (fun _ hk => ⟨hk.1.1, hk.1.2⟩)⟩
  have n4_ : Aside0 (Kd.R (Kd.int .i64) 3 ((w37.setCell ⟨gb477, 0, none⟩ (.slice Ao38 t471.length co38)).setCell ⟨gb477, 1, none⟩ (.slice Ao43 t474.length co43)) w.heap.size (fun k_ => some k_ ≠ (v454 : Value).ownBlock ∧ some k_ ≠ (.slice Ao30 t463.length co30 : Value).ownBlock) (.slice Ao38 t471.length co38) t471) := ⟨by (with_reducible repeat (first | apply Kd.R_alloc | apply Kd.R_drewN | apply Kd.R_drew)); exact Kd.R_mono (Kd.R_far (p := ⟨gb477, 1, none⟩) (Kd.R_far (p := ⟨gb477, 0, none⟩) (Kd.R_types HO473.out BK477.out (by decide)) (fun _ hk => hk.2) (.slice Ao38 t471.length co38)) (fun _ hk => hk.2) (.slice Ao43 t474.length co43)) (fun _ hk => ⟨hk.1.1.2, hk.1.2⟩)⟩
  have n5_ : Aside0 (Kd.R k41 41 ((w37.setCell ⟨gb477, 0, none⟩ (.slice Ao38 t471.length co38)).setCell ⟨gb477, 1, none⟩ (.slice Ao43 t474.length co43)) w.heap.size (fun k_ => some k_ ≠ (v457 : Value).ownBlock ∧ some k_ ≠ (.slice Ao32 t466.length co32 : Value).ownBlock) (.slice Ao43 t474.length co43) t474) := ⟨by (with_reducible repeat (first | apply Kd.R_alloc | apply Kd.R_drewN | apply Kd.R_drew)); exact Kd.R_mono (Kd.R_far (p := ⟨gb477, 1, none⟩) (Kd.R_far (p := ⟨gb477, 0, none⟩) (Kd.R_types HO476.out BK477.out (by decide)) (fun _ hk => hk.2) (.slice Ao38 t471.length co38)) (fun _ hk => hk.2) (.slice Ao43 t474.length co43)) (fun _ hk => ⟨hk.1.1.2, hk.1.2⟩)⟩
  have n6_ : Aside0 (((w37.setCell ⟨gb477, 0, none⟩ (.slice Ao38 t471.length co38)).setCell ⟨gb477, 1, none⟩ (.slice Ao43 t474.length co43)).heap[gb450]? = some (.cells #[.slice A0_0 l0_0.length c0_0, .slice A0_1 l0_1.length c0_1] 25 (0, 0))) := ⟨by (with_reducible repeat (first | refine blk_drewN ?_ _ | refine blk_drew ?_ | refine blk_alloc ?_ _)); refine blk_far ?_ NB450_477.out _; (with_reducible repeat (first | refine blk_drewN ?_ _ | refine blk_drew ?_ | refine blk_alloc ?_ _)); refine blk_far ?_ NB450_477.out _; (with_reducible repeat (first | refine blk_drewN ?_ _ | refine blk_drew ?_ | refine blk_alloc ?_ _)); exact BK450.out⟩
  have n7_ : Aside0 (((w37.setCell ⟨gb477, 0, none⟩ (.slice Ao38 t471.length co38)).setCell ⟨gb477, 1, none⟩ (.slice Ao43 t474.length co43)).heap[gb451]? = some (.cells #[.int .i64 a1_0, .int .i64 a1_1, .int .i64 a1_2, .int .i64 a1_3] 39 (0, 0))) := ⟨by (with_reducible repeat (first | refine blk_drewN ?_ _ | refine blk_drew ?_ | refine blk_alloc ?_ _)); refine blk_far ?_ NB451_477.out _; (with_reducible repeat (first | refine blk_drewN ?_ _ | refine blk_drew ?_ | refine blk_alloc ?_ _)); refine blk_far ?_ NB451_477.out _; (with_reducible repeat (first | refine blk_drewN ?_ _ | refine blk_drew ?_ | refine blk_alloc ?_ _)); exact BK451.out⟩
  have n8_ : Aside0 (((w37.setCell ⟨gb477, 0, none⟩ (.slice Ao38 t471.length co38)).setCell ⟨gb477, 1, none⟩ (.slice Ao43 t474.length co43)).heap[gb470]? = some (.cells #[.slice Ao30 t463.length co30, .slice Ao32 t466.length co32] 29 (0, 0))) := ⟨by (with_reducible repeat (first | refine blk_drewN ?_ _ | refine blk_drew ?_ | refine blk_alloc ?_ _)); refine blk_far ?_ NB470_477.out _; (with_reducible repeat (first | refine blk_drewN ?_ _ | refine blk_drew ?_ | refine blk_alloc ?_ _)); refine blk_far ?_ NB470_477.out _; (with_reducible repeat (first | refine blk_drewN ?_ _ | refine blk_drew ?_ | refine blk_alloc ?_ _)); exact BK470.out⟩
  have n9_ : Aside0 (((w37.setCell ⟨gb477, 0, none⟩ (.slice Ao38 t471.length co38)).setCell ⟨gb477, 1, none⟩ (.slice Ao43 t474.length co43)).heap[gb477]? = some (.cells #[.slice Ao38 t471.length co38, .slice Ao43 t474.length co43] 29 (0, 0))) := ⟨by (with_reducible repeat (first | refine blk_drewN ?_ _ | refine blk_drew ?_ | refine blk_alloc ?_ _)); refine blk_put (cs := #[.slice Ao38 t471.length co38, .slice none 0 0]) ?_ 1 _ rfl; (with_reducible repeat (first | refine blk_drewN ?_ _ | refine blk_drew ?_ | refine blk_alloc ?_ _)); refine blk_put (cs := #[.slice none 0 0, .slice none 0 0]) ?_ 0 _ rfl; (with_reducible repeat (first | refine blk_drewN ?_ _ | refine blk_drew ?_ | refine blk_alloc ?_ _)); exact BK477.out⟩
  have n10_ : Aside0 (Below w.heap.size w ((w37.setCell ⟨gb477, 0, none⟩ (.slice Ao38 t471.length co38)).setCell ⟨gb477, 1, none⟩ (.slice Ao43 t474.length co43))) := ⟨bq⟩
  (try clear HO455)
  (try clear HO458)
  (try clear HO465)
  (try clear HO468)
  (try clear HO473)
  (try clear HO476)
  (try clear BK450)
  (try clear BK451)
  (try clear BK470)
  (try clear BK477)
  (try clear HB)
  generalize ((w37.setCell ⟨gb477, 0, none⟩ (.slice Ao38 t471.length co38)).setCell ⟨gb477, 1, none⟩ (.slice Ao43 t474.length co43)) = w44 at n0_ n1_ n2_ n3_ n4_ n5_ n6_ n7_ n8_ n9_ n10_ ⊢
  have HO455 := n0_
  have HO458 := n1_
  have HO465 := n2_
  have HO468 := n3_
  have HO473 := n4_
  have HO476 := n5_
  have BK450 := n6_
  have BK451 := n7_
  have BK470 := n8_
  have BK477 := n9_
  have HB := n10_
  clear n0_ n1_ n2_ n3_ n4_ n5_ n6_ n7_ n8_ n9_ n10_
  replace HO455 := Aside0.mk (Kd.R_drew HO455.out)
  replace HO458 := Aside0.mk (Kd.R_drew HO458.out)
  replace HO465 := Aside0.mk (Kd.R_drew HO465.out)
  replace HO468 := Aside0.mk (Kd.R_drew HO468.out)
  replace HO473 := Aside0.mk (Kd.R_drew HO473.out)
  replace HO476 := Aside0.mk (Kd.R_drew HO476.out)
  replace BK450 := Aside0.mk (blk_drew BK450.out)
  replace BK451 := Aside0.mk (blk_drew BK451.out)
  replace BK470 := Aside0.mk (blk_drew BK470.out)
  replace BK477 := Aside0.mk (blk_drew BK477.out)
  replace HB := Aside0.mk (below_drew1 HB.out)
  refine start_ (n := 10) (S := fun w' => w'.cell? ⟨gb477, 0, none⟩ = some (.slice Ao38 t471.length co38) ∧ w'.cell? ⟨gb477, 1, none⟩ = some (.slice Ao43 t474.length co43) ∧ w'.cell? ⟨gb451, 0, none⟩ = some (.int .i64 a1_0) ∧ w'.cell? ⟨gb451, 1, none⟩ = some (.int .i64 a1_1) ∧ w'.cell? ⟨gb451, 2, none⟩ = some (.int .i64 a1_2) ∧ w'.cell? ⟨gb451, 3, none⟩ = some (.int .i64 a1_3)) (ds := []) #[false, false, false, false, false, false, false, false, false, false] (by kernel_rfl) rfl rfl ⟨(blk_cell BK477.out 0).trans rfl, (blk_cell BK477.out 1).trans rfl, (blk_cell BK451.out 0).trans rfl, (blk_cell BK451.out 1).trans rfl, (blk_cell BK451.out 2).trans rfl, (blk_cell BK451.out 3).trans rfl⟩ (fun hHeld => ?_); refine with_tabW laws_FnExactLendParts.tab7 laws_FnExactLendParts.bits7 (fun HT_ HW_ => ?_)
  generalize w44.drew = w45 at HO455 HO458 HO465 HO468 HO473 HO476 BK450 BK451 BK470 BK477 HB hHeld ⊢
  refine take_ (i := 0) (N := some 32) (v := ?_) (a' := ?_) #[true, false, false, false, false, false, false, false, false, false] rfl rfl (take_ofW HT_.out HW_.out (by kernel_rfl)) (fun _ _ _ h => h) (Or.inl ⟨by rfl, ?_⟩) hHeld ?_ ?_
  rotate_left
  ·rintro w' ⟨s0, s1, s2, s3, s4, s5⟩
   go_simp
   with_reducible rfl
  rotate_left
  ·simp only [Act.put, List.setIfInBounds_toArray, List.set_cons_zero, List.set_cons_succ, i64_w, i32_w]
   rfl
  refine take_ (i := 1) (N := some 33) (v := ?_) (a' := ?_) #[true, true, false, false, false, false, false, false, false, false] rfl rfl (take_ofW HT_.out HW_.out (by kernel_rfl)) (fun _ _ _ h => h) (Or.inl ⟨by rfl, ?_⟩) hHeld ?_ ?_
  rotate_left
  ·rintro w' ⟨s0, s1, s2, s3, s4, s5⟩
   go_simp
   with_reducible rfl
  rotate_left
  ·simp only [Act.put, List.setIfInBounds_toArray, List.set_cons_zero, List.set_cons_succ, i64_w, i32_w]
   rfl
  refine join_ (σ := Value × Value × Nat) 2 #[true, true, true, true, true, true, true, true, false, false] (fun s_ => [(34, .agg #[.int .i64 t478, .int .i64 t479, .int .i64 t480, .int .i64 t481]), (35, .tuple #[.agg #[s_.1, s_.2.1], .bool t488]), (9, .pointer (some ⟨s_.2.2, 0, none⟩)), (31, .tuple #[.agg #[s_.1, s_.2.1], .bool t488]), (36, .agg #[s_.1, s_.2.1]), (37, .bool t488)]) (fun s_ w' => (w'.cell? ⟨gb477, 0, none⟩ = some (.slice Ao38 t471.length co38) ∧ w'.cell? ⟨gb477, 1, none⟩ = some (.slice Ao43 t474.length co43) ∧ w'.cell? ⟨gb451, 0, none⟩ = some (.int .i64 a1_0) ∧ w'.cell? ⟨gb451, 1, none⟩ = some (.int .i64 a1_1) ∧ w'.cell? ⟨gb451, 2, none⟩ = some (.int .i64 a1_2) ∧ w'.cell? ⟨gb451, 3, none⟩ = some (.int .i64 a1_3)) ∧ (Kd.R (Kd.int .i64) 3 w' w.heap.size (fun k_ => some k_ ≠ (.slice Ao30 t463.length co30 : Value).ownBlock ∧ some k_ ≠ (.slice Ao38 t471.length co38 : Value).ownBlock ∧ some k_ ≠ (s_.1 : Value).ownBlock) v454 t453) ∧ (Kd.R k41 41 w' w.heap.size (fun k_ => some k_ ≠ (.slice Ao32 t466.length co32 : Value).ownBlock ∧ some k_ ≠ (.slice Ao43 t474.length co43 : Value).ownBlock ∧ some k_ ≠ (s_.2.1 : Value).ownBlock) v457 t456) ∧ (Kd.R (Kd.int .i64) 3 w' w.heap.size (fun k_ => some k_ ≠ (v454 : Value).ownBlock ∧ some k_ ≠ (.slice Ao38 t471.length co38 : Value).ownBlock ∧ some k_ ≠ (s_.1 : Value).ownBlock) (.slice Ao30 t463.length co30) t463) ∧ (Kd.R k41 41 w' w.heap.size (fun k_ => some k_ ≠ (v457 : Value).ownBlock ∧ some k_ ≠ (.slice Ao43 t474.length co43 : Value).ownBlock ∧ some k_ ≠ (s_.2.1 : Value).ownBlock) (.slice Ao32 t466.length co32) t466) ∧ (Kd.R (Kd.int .i64) 3 w' w.heap.size (fun k_ => some k_ ≠ (v454 : Value).ownBlock ∧ some k_ ≠ (.slice Ao30 t463.length co30 : Value).ownBlock ∧ some k_ ≠ (s_.1 : Value).ownBlock) (.slice Ao38 t471.length co38) t471) ∧ (Kd.R k41 41 w' w.heap.size (fun k_ => some k_ ≠ (v457 : Value).ownBlock ∧ some k_ ≠ (.slice Ao32 t466.length co32 : Value).ownBlock ∧ some k_ ≠ (s_.2.1 : Value).ownBlock) (.slice Ao43 t474.length co43) t474) ∧ (Kd.R (Kd.int .i64) 3 w' w.heap.size (fun k_ => some k_ ≠ (v454 : Value).ownBlock ∧ some k_ ≠ (.slice Ao30 t463.length co30 : Value).ownBlock ∧ some k_ ≠ (.slice Ao38 t471.length co38 : Value).ownBlock) s_.1 t482) ∧ (Kd.R k41 41 w' w.heap.size (fun k_ => some k_ ≠ (v457 : Value).ownBlock ∧ some k_ ≠ (.slice Ao32 t466.length co32 : Value).ownBlock ∧ some k_ ≠ (.slice Ao43 t474.length co43 : Value).ownBlock) s_.2.1 t485) ∧ (w'.heap[gb450]? = some (.cells #[.slice A0_0 l0_0.length c0_0, .slice A0_1 l0_1.length c0_1] 25 (0, 0))) ∧ (w'.heap[gb451]? = some (.cells #[.int .i64 a1_0, .int .i64 a1_1, .int .i64 a1_2, .int .i64 a1_3] 39 (0, 0))) ∧ (w'.heap[gb470]? = some (.cells #[.slice Ao30 t463.length co30, .slice Ao32 t466.length co32] 29 (0, 0))) ∧ (w'.heap[gb477]? = some (.cells #[.slice Ao38 t471.length co38, .slice Ao43 t474.length co43] 29 (0, 0))) ∧ (w'.heap[s_.2.2]? = some (.cells #[.slice none 0 0, .slice none 0 0] 29 (0, 0))) ∧ (w.heap.size ≤ s_.2.2) ∧ (w.heap.size ≤ s_.2.2) ∧ (gb450 ≠ s_.2.2) ∧ (s_.2.2 ≠ gb450) ∧ (gb451 ≠ s_.2.2) ∧ (s_.2.2 ≠ gb451) ∧ (gb470 ≠ s_.2.2) ∧ (s_.2.2 ≠ gb470) ∧ (gb477 ≠ s_.2.2) ∧ (s_.2.2 ≠ gb477) ∧ (Below w.heap.size w w')) ?_ ?_
  rotate_left
  ·intro hCont
   refine two_ (i := 2) (j := 7) (Ni := some 34) (Nj := some 9) #[true, true, true, false, false, false, false, false, false, false] #[true, true, false, false, false, false, false, true, false, false] rfl rfl rfl rfl (two_of HT_.out (by kernel_rfl)) (by decide) (by decide) (fun K hK => ?_) (fun K hK => ?_)
   ·skip
    refine goes_ Try.func17 (by kernel_rfl) rfl #[.agg #[.int .i64 a1_0, .int .i64 a1_1, .int .i64 a1_2, .int .i64 a1_3]] (by rfl) rfl rfl mq ?_
    with_reducible refine (laws_toLoan.calls a1_0 a1_1 a1_2 a1_3 t478 t479 t480 t481 _ A14.out).mono ?_
    rintro e w46 ⟨rfl, hb⟩
    refine ⟨_, rfl, ?_⟩
    replace HO455 := rb HO455 hb
    replace HO458 := rb HO458 hb
    replace HO465 := rb HO465 hb
    replace HO468 := rb HO468 hb
    replace HO473 := rb HO473 hb
    replace HO476 := rb HO476 hb
    replace BK450 := zb BK450 hb
    replace BK451 := zb BK451 hb
    replace BK470 := zb BK470 hb
    replace BK477 := zb BK477 hb
    replace HB := sb hb
    (try clear hb)
    refine hK.out _ _ ⟨(blk_cell BK477.out 0).trans rfl, (blk_cell BK477.out 1).trans rfl, (blk_cell BK451.out 0).trans rfl, (blk_cell BK451.out 1).trans rfl, (blk_cell BK451.out 2).trans rfl, (blk_cell BK451.out 3).trans rfl⟩ (fun hHeld => ?_)
    clear hK K
    refine norm_ (a' := ?_) ?_ ?_
    rotate_left
    ·show Act.put _ (some 34) _ = _
     simp only [Act.put, List.setIfInBounds_toArray, List.set_cons_zero, List.set_cons_succ, i64_w, i32_w]
     rfl
    refine two_ (i := 3) (j := 7) (Ni := some 35) (Nj := some 9) #[true, true, true, true, false, false, false, false, false, false] #[true, true, true, false, false, false, false, true, false, false] rfl rfl rfl rfl (two_of HT_.out (by kernel_rfl)) (by decide) (by decide) (fun K hK => ?_) (fun K hK => ?_)
    ·skip
     refine goes_ Try.func18 (by kernel_rfl) rfl #[.agg #[.slice Ao38 t471.length co38, .slice Ao43 t474.length co43], .agg #[.int .i64 t478, .int .i64 t479, .int .i64 t480, .int .i64 t481]] (by rfl) rfl rfl mq ?_
     with_reducible refine (impl_LendParts.calls k _ _ t471 _ _ t474 t478 t479 t480 t481 t482 t485 t488 _ ?s1 ?s2 ?s3 ?s4 A15.out).mono ?_
     (case s1 => exact cr HO473)
     (case s2 => exact r1 HO473)
     (case s3 => exact cr HO476)
     (case s4 => exact r1 HO476)
     rintro e w47 ⟨v483, v486, rfl, ho0, ho1, hb⟩
     refine ⟨_, rfl, ?_⟩
     have HO484 := Aside0.mk (Kd.R_lower (Kd.R_new' (Kd.R_new' (Kd.R_new' ho0 (Kd.R_lt (rq HO455))) (Kd.R_lt (rq HO465))) (Kd.R_lt (rq HO473))) (below_size bq))
     replace HO455 := Aside0.mk (Kd.R_elder' (rq HO455) (Kd.R_base ho0) hb)
     replace HO465 := Aside0.mk (Kd.R_elder' (rq HO465) (Kd.R_base ho0) hb)
     replace HO473 := Aside0.mk (Kd.R_elder' (rq HO473) (Kd.R_base ho0) hb)
     have HO487 := Aside0.mk (Kd.R_lower (Kd.R_new' (Kd.R_new' (Kd.R_new' ho1 (Kd.R_lt (rq HO458))) (Kd.R_lt (rq HO468))) (Kd.R_lt (rq HO476))) (below_size bq))
     replace HO458 := Aside0.mk (Kd.R_elder' (rq HO458) (Kd.R_base ho1) hb)
     replace HO468 := Aside0.mk (Kd.R_elder' (rq HO468) (Kd.R_base ho1) hb)
     replace HO476 := Aside0.mk (Kd.R_elder' (rq HO476) (Kd.R_base ho1) hb)
     replace BK450 := zb BK450 hb
     replace BK451 := zb BK451 hb
     replace BK470 := zb BK470 hb
     replace BK477 := zb BK477 hb
     replace HB := sb hb
     (try clear hb ho0 ho1)
     refine hK.out _ _ ⟨(blk_cell BK477.out 0).trans rfl, (blk_cell BK477.out 1).trans rfl, (blk_cell BK451.out 0).trans rfl, (blk_cell BK451.out 1).trans rfl, (blk_cell BK451.out 2).trans rfl, (blk_cell BK451.out 3).trans rfl⟩ (fun hHeld => ?_)
     clear hK K
     refine norm_ (a' := ?_) ?_ ?_
     rotate_left
     ·show Act.put _ (some 35) _ = _
      simp only [Act.put, List.setIfInBounds_toArray, List.set_cons_zero, List.set_cons_succ, i64_w, i32_w]
      rfl
     refine pure_ (i := 4) (N := some 31) (v := ?_) (a' := ?_) #[true, true, true, true, true, false, false, false, false, false] rfl rfl (any_of HT_.out (by kernel_rfl)) (fun _ _ _ h => h) (Or.inl ⟨by rfl, ?_⟩) ?_ ?_
     rotate_left
     ·intro w'
      go_simp
      with_reducible rfl
     rotate_left
     ·simp only [Act.put, List.setIfInBounds_toArray, List.set_cons_zero, List.set_cons_succ, i64_w, i32_w]
      rfl
     refine pure_ (i := 5) (N := some 36) (v := ?_) (a' := ?_) #[true, true, true, true, true, true, false, false, false, false] rfl rfl (any_of HT_.out (by kernel_rfl)) (fun _ _ _ h => h) (Or.inl ⟨by rfl, ?_⟩) ?_ ?_
     rotate_left
     ·intro w'
      go_simp
      with_reducible rfl
     rotate_left
     ·simp only [Act.put, List.setIfInBounds_toArray, List.set_cons_zero, List.set_cons_succ, i64_w, i32_w]
      rfl
     refine pure_ (i := 6) (N := some 37) (v := ?_) (a' := ?_) #[true, true, true, true, true, true, true, false, false, false] rfl rfl (any_of HT_.out (by kernel_rfl)) (fun _ _ _ h => h) (Or.inl ⟨by rfl, ?_⟩) ?_ ?_
     rotate_left
     ·intro w'
      go_simp
      with_reducible rfl
     rotate_left
     ·simp only [Act.put, List.setIfInBounds_toArray, List.set_cons_zero, List.set_cons_succ, i64_w, i32_w]
      rfl
     refine one_ (i := 7) (N := some 9) #[true, true, true, true, true, true, true, true, false, false] rfl rfl (one_of HT_.out (by kernel_rfl)) (by decide) (fun K hK => ?_)
     refine box_step ?hg (N := 9) ?hd (cs := #[.slice none 0 0, .slice none 0 0]) (t := 29) ?hr ?_; (case hd => rfl); (case hg => rfl); (case hr => first | (go_simp; done) | (go_simp; rfl))
     intro gb489 hg w48 hbox hb
     replace HO455 := rb HO455 hb
     replace HO458 := rb HO458 hb
     replace HO465 := rb HO465 hb
     replace HO468 := rb HO468 hb
     replace HO473 := rb HO473 hb
     replace HO476 := rb HO476 hb
     replace HO484 := rb HO484 hb
     replace HO487 := rb HO487 hb
     have BK489 := Aside0.mk (hbox)
     have GW489 := Aside0.mk (gq hg)
     have GE489 := Aside0.mk (gq hg)
     replace HB := sb hb
     have NB450_489 := nl hg BK450
     have NB489_450 := ng hg BK450
     replace BK450 := zb BK450 hb
     have NB451_489 := nl hg BK451
     have NB489_451 := ng hg BK451
     replace BK451 := zb BK451 hb
     have NB470_489 := nl hg BK470
     have NB489_470 := ng hg BK470
     replace BK470 := zb BK470 hb
     have NB477_489 := nl hg BK477
     have NB489_477 := ng hg BK477
     replace BK477 := zb BK477 hb
     clear hb hbox hg
     refine hK.out _ _ ⟨(blk_cell BK477.out 0).trans rfl, (blk_cell BK477.out 1).trans rfl, (blk_cell BK451.out 0).trans rfl, (blk_cell BK451.out 1).trans rfl, (blk_cell BK451.out 2).trans rfl, (blk_cell BK451.out 3).trans rfl⟩ (fun hHeld => ?_)
     clear hK K
     refine norm_ (a' := ?_) ?_ ?_
     rotate_left
     ·show Act.put _ (some 9) _ = _
      simp only [Act.put, List.setIfInBounds_toArray, List.set_cons_zero, List.set_cons_succ, i64_w, i32_w]
      rfl
     exact norm_ (by simp only [putAll, Act.put, List.setIfInBounds_toArray, List.set_cons_zero, List.set_cons_succ]) (hCont (v483, v486, gb489) _ ⟨hHeld, (by (with_reducible repeat (first | apply Kd.R_alloc | apply Kd.R_drewN | apply Kd.R_drew)); exact Kd.R_mono HO455.out (fun _ hk => ⟨hk.1.1, ⟨hk.1.2, hk.2⟩⟩)), (by (with_reducible repeat (first | apply Kd.R_alloc | apply Kd.R_drewN | apply Kd.R_drew)); exact Kd.R_mono HO458.out (fun _ hk => ⟨hk.1.1, ⟨hk.1.2, hk.2⟩⟩)), (by (with_reducible repeat (first | apply Kd.R_alloc | apply Kd.R_drewN | apply Kd.R_drew)); exact Kd.R_mono HO465.out (fun _ hk => ⟨hk.1.1, ⟨hk.1.2, hk.2⟩⟩)), (by (with_reducible repeat (first | apply Kd.R_alloc | apply Kd.R_drewN | apply Kd.R_drew)); exact Kd.R_mono HO468.out (fun _ hk => ⟨hk.1.1, ⟨hk.1.2, hk.2⟩⟩)), (by (with_reducible repeat (first | apply Kd.R_alloc | apply Kd.R_drewN | apply Kd.R_drew)); exact Kd.R_mono HO473.out (fun _ hk => ⟨hk.1.1, ⟨hk.1.2, hk.2⟩⟩)), (by (with_reducible repeat (first | apply Kd.R_alloc | apply Kd.R_drewN | apply Kd.R_drew)); exact Kd.R_mono HO476.out (fun _ hk => ⟨hk.1.1, ⟨hk.1.2, hk.2⟩⟩)), (by (with_reducible repeat (first | apply Kd.R_alloc | apply Kd.R_drewN | apply Kd.R_drew)); exact Kd.R_mono HO484.out (fun _ hk => ⟨hk.1.1.2, ⟨hk.1.2, hk.2⟩⟩)), (by (with_reducible repeat (first | apply Kd.R_alloc | apply Kd.R_drewN | apply Kd.R_drew)); exact Kd.R_mono HO487.out (fun _ hk => ⟨hk.1.1.2, ⟨hk.1.2, hk.2⟩⟩)), (zq BK450), (zq BK451), (zq BK470), (zq BK477), (zq BK489), GW489.out, GE489.out, NB450_489.out, NB489_450.out, NB451_489.out, NB489_451.out, NB470_489.out, NB489_470.out, NB477_489.out, NB489_477.out, bq⟩)
    ·skip
     refine box_step ?hg (N := 9) ?hd (cs := #[.slice none 0 0, .slice none 0 0]) (t := 29) ?hr ?_; (case hd => rfl); (case hg => rfl); (case hr => first | (go_simp; done) | (go_simp; rfl))
     intro gb489 hg w47 hbox hb
     replace HO455 := rb HO455 hb
     replace HO458 := rb HO458 hb
     replace HO465 := rb HO465 hb
     replace HO468 := rb HO468 hb
     replace HO473 := rb HO473 hb
     replace HO476 := rb HO476 hb
     have BK489 := Aside0.mk (hbox)
     have GW489 := Aside0.mk (gq hg)
     have GE489 := Aside0.mk (gq hg)
     replace HB := sb hb
     have NB450_489 := nl hg BK450
     have NB489_450 := ng hg BK450
     replace BK450 := zb BK450 hb
     have NB451_489 := nl hg BK451
     have NB489_451 := ng hg BK451
     replace BK451 := zb BK451 hb
     have NB470_489 := nl hg BK470
     have NB489_470 := ng hg BK470
     replace BK470 := zb BK470 hb
     have NB477_489 := nl hg BK477
     have NB489_477 := ng hg BK477
     replace BK477 := zb BK477 hb
     clear hb hbox hg
     refine hK.out _ _ ⟨(blk_cell BK477.out 0).trans rfl, (blk_cell BK477.out 1).trans rfl, (blk_cell BK451.out 0).trans rfl, (blk_cell BK451.out 1).trans rfl, (blk_cell BK451.out 2).trans rfl, (blk_cell BK451.out 3).trans rfl⟩ (fun hHeld => ?_)
     clear hK K
     refine norm_ (a' := ?_) ?_ ?_
     rotate_left
     ·show Act.put _ (some 9) _ = _
      simp only [Act.put, List.setIfInBounds_toArray, List.set_cons_zero, List.set_cons_succ, i64_w, i32_w]
      rfl
     refine one_ (i := 3) (N := some 35) #[true, true, true, true, false, false, false, true, false, false] rfl rfl (one_of HT_.out (by kernel_rfl)) (by decide) (fun K hK => ?_)
     refine goes_ Try.func18 (by kernel_rfl) rfl #[.agg #[.slice Ao38 t471.length co38, .slice Ao43 t474.length co43], .agg #[.int .i64 t478, .int .i64 t479, .int .i64 t480, .int .i64 t481]] (by rfl) rfl rfl mq ?_
     with_reducible refine (impl_LendParts.calls k _ _ t471 _ _ t474 t478 t479 t480 t481 t482 t485 t488 _ ?s1 ?s2 ?s3 ?s4 A15.out).mono ?_
     (case s1 => exact cr HO473)
     (case s2 => exact r1 HO473)
     (case s3 => exact cr HO476)
     (case s4 => exact r1 HO476)
     rintro e w48 ⟨v483, v486, rfl, ho0, ho1, hb⟩
     refine ⟨_, rfl, ?_⟩
     have HO484 := Aside0.mk (Kd.R_lower (Kd.R_new' (Kd.R_new' (Kd.R_new' ho0 (Kd.R_lt (rq HO455))) (Kd.R_lt (rq HO465))) (Kd.R_lt (rq HO473))) (below_size bq))
     replace HO455 := Aside0.mk (Kd.R_elder' (rq HO455) (Kd.R_base ho0) hb)
     replace HO465 := Aside0.mk (Kd.R_elder' (rq HO465) (Kd.R_base ho0) hb)
     replace HO473 := Aside0.mk (Kd.R_elder' (rq HO473) (Kd.R_base ho0) hb)
     have HO487 := Aside0.mk (Kd.R_lower (Kd.R_new' (Kd.R_new' (Kd.R_new' ho1 (Kd.R_lt (rq HO458))) (Kd.R_lt (rq HO468))) (Kd.R_lt (rq HO476))) (below_size bq))
     replace HO458 := Aside0.mk (Kd.R_elder' (rq HO458) (Kd.R_base ho1) hb)
     replace HO468 := Aside0.mk (Kd.R_elder' (rq HO468) (Kd.R_base ho1) hb)
     replace HO476 := Aside0.mk (Kd.R_elder' (rq HO476) (Kd.R_base ho1) hb)
     replace BK450 := zb BK450 hb
     replace BK451 := zb BK451 hb
     replace BK470 := zb BK470 hb
     replace BK477 := zb BK477 hb
     replace BK489 := zb BK489 hb
     replace HB := sb hb
     (try clear hb ho0 ho1)
     refine hK.out _ _ ⟨(blk_cell BK477.out 0).trans rfl, (blk_cell BK477.out 1).trans rfl, (blk_cell BK451.out 0).trans rfl, (blk_cell BK451.out 1).trans rfl, (blk_cell BK451.out 2).trans rfl, (blk_cell BK451.out 3).trans rfl⟩ (fun hHeld => ?_)
     clear hK K
     refine norm_ (a' := ?_) ?_ ?_
     rotate_left
     ·show Act.put _ (some 35) _ = _
      simp only [Act.put, List.setIfInBounds_toArray, List.set_cons_zero, List.set_cons_succ, i64_w, i32_w]
      rfl
     refine pure_ (i := 4) (N := some 31) (v := ?_) (a' := ?_) #[true, true, true, true, true, false, false, true, false, false] rfl rfl (any_of HT_.out (by kernel_rfl)) (fun _ _ _ h => h) (Or.inl ⟨by rfl, ?_⟩) ?_ ?_
     rotate_left
     ·intro w'
      go_simp
      with_reducible rfl
     rotate_left
     ·simp only [Act.put, List.setIfInBounds_toArray, List.set_cons_zero, List.set_cons_succ, i64_w, i32_w]
      rfl
     refine pure_ (i := 5) (N := some 36) (v := ?_) (a' := ?_) #[true, true, true, true, true, true, false, true, false, false] rfl rfl (any_of HT_.out (by kernel_rfl)) (fun _ _ _ h => h) (Or.inl ⟨by rfl, ?_⟩) ?_ ?_
     rotate_left
     ·intro w'
      go_simp
      with_reducible rfl
     rotate_left
     ·simp only [Act.put, List.setIfInBounds_toArray, List.set_cons_zero, List.set_cons_succ, i64_w, i32_w]
      rfl
     refine pure_ (i := 6) (N := some 37) (v := ?_) (a' := ?_) #[true, true, true, true, true, true, true, true, false, false] rfl rfl (any_of HT_.out (by kernel_rfl)) (fun _ _ _ h => h) (Or.inl ⟨by rfl, ?_⟩) ?_ ?_
     rotate_left
     ·intro w'
      go_simp
      with_reducible rfl
     rotate_left
     ·simp only [Act.put, List.setIfInBounds_toArray, List.set_cons_zero, List.set_cons_succ, i64_w, i32_w]
      rfl
     exact norm_ (by simp only [putAll, Act.put, List.setIfInBounds_toArray, List.set_cons_zero, List.set_cons_succ]) (hCont (v483, v486, gb489) _ ⟨hHeld, (by (with_reducible repeat (first | apply Kd.R_alloc | apply Kd.R_drewN | apply Kd.R_drew)); exact Kd.R_mono HO455.out (fun _ hk => ⟨hk.1.1, ⟨hk.1.2, hk.2⟩⟩)), (by (with_reducible repeat (first | apply Kd.R_alloc | apply Kd.R_drewN | apply Kd.R_drew)); exact Kd.R_mono HO458.out (fun _ hk => ⟨hk.1.1, ⟨hk.1.2, hk.2⟩⟩)), (by (with_reducible repeat (first | apply Kd.R_alloc | apply Kd.R_drewN | apply Kd.R_drew)); exact Kd.R_mono HO465.out (fun _ hk => ⟨hk.1.1, ⟨hk.1.2, hk.2⟩⟩)), (by (with_reducible repeat (first | apply Kd.R_alloc | apply Kd.R_drewN | apply Kd.R_drew)); exact Kd.R_mono HO468.out (fun _ hk => ⟨hk.1.1, ⟨hk.1.2, hk.2⟩⟩)), (by (with_reducible repeat (first | apply Kd.R_alloc | apply Kd.R_drewN | apply Kd.R_drew)); exact Kd.R_mono HO473.out (fun _ hk => ⟨hk.1.1, ⟨hk.1.2, hk.2⟩⟩)), (by (with_reducible repeat (first | apply Kd.R_alloc | apply Kd.R_drewN | apply Kd.R_drew)); exact Kd.R_mono HO476.out (fun _ hk => ⟨hk.1.1, ⟨hk.1.2, hk.2⟩⟩)), (by (with_reducible repeat (first | apply Kd.R_alloc | apply Kd.R_drewN | apply Kd.R_drew)); exact Kd.R_mono HO484.out (fun _ hk => ⟨hk.1.1.2, ⟨hk.1.2, hk.2⟩⟩)), (by (with_reducible repeat (first | apply Kd.R_alloc | apply Kd.R_drewN | apply Kd.R_drew)); exact Kd.R_mono HO487.out (fun _ hk => ⟨hk.1.1.2, ⟨hk.1.2, hk.2⟩⟩)), (zq BK450), (zq BK451), (zq BK470), (zq BK477), (zq BK489), GW489.out, GE489.out, NB450_489.out, NB489_450.out, NB451_489.out, NB489_451.out, NB470_489.out, NB489_470.out, NB477_489.out, NB489_477.out, bq⟩)
   ·skip
    refine box_step ?hg (N := 9) ?hd (cs := #[.slice none 0 0, .slice none 0 0]) (t := 29) ?hr ?_; (case hd => rfl); (case hg => rfl); (case hr => first | (go_simp; done) | (go_simp; rfl))
    intro gb489 hg w46 hbox hb
    replace HO455 := rb HO455 hb
    replace HO458 := rb HO458 hb
    replace HO465 := rb HO465 hb
    replace HO468 := rb HO468 hb
    replace HO473 := rb HO473 hb
    replace HO476 := rb HO476 hb
    have BK489 := Aside0.mk (hbox)
    have GW489 := Aside0.mk (gq hg)
    have GE489 := Aside0.mk (gq hg)
    replace HB := sb hb
    have NB450_489 := nl hg BK450
    have NB489_450 := ng hg BK450
    replace BK450 := zb BK450 hb
    have NB451_489 := nl hg BK451
    have NB489_451 := ng hg BK451
    replace BK451 := zb BK451 hb
    have NB470_489 := nl hg BK470
    have NB489_470 := ng hg BK470
    replace BK470 := zb BK470 hb
    have NB477_489 := nl hg BK477
    have NB489_477 := ng hg BK477
    replace BK477 := zb BK477 hb
    clear hb hbox hg
    refine hK.out _ _ ⟨(blk_cell BK477.out 0).trans rfl, (blk_cell BK477.out 1).trans rfl, (blk_cell BK451.out 0).trans rfl, (blk_cell BK451.out 1).trans rfl, (blk_cell BK451.out 2).trans rfl, (blk_cell BK451.out 3).trans rfl⟩ (fun hHeld => ?_)
    clear hK K
    refine norm_ (a' := ?_) ?_ ?_
    rotate_left
    ·show Act.put _ (some 9) _ = _
     simp only [Act.put, List.setIfInBounds_toArray, List.set_cons_zero, List.set_cons_succ, i64_w, i32_w]
     rfl
    refine one_ (i := 2) (N := some 34) #[true, true, true, false, false, false, false, true, false, false] rfl rfl (one_of HT_.out (by kernel_rfl)) (by decide) (fun K hK => ?_)
    refine goes_ Try.func17 (by kernel_rfl) rfl #[.agg #[.int .i64 a1_0, .int .i64 a1_1, .int .i64 a1_2, .int .i64 a1_3]] (by rfl) rfl rfl mq ?_
    with_reducible refine (laws_toLoan.calls a1_0 a1_1 a1_2 a1_3 t478 t479 t480 t481 _ A14.out).mono ?_
    rintro e w47 ⟨rfl, hb⟩
    refine ⟨_, rfl, ?_⟩
    replace HO455 := rb HO455 hb
    replace HO458 := rb HO458 hb
    replace HO465 := rb HO465 hb
    replace HO468 := rb HO468 hb
    replace HO473 := rb HO473 hb
    replace HO476 := rb HO476 hb
    replace BK450 := zb BK450 hb
    replace BK451 := zb BK451 hb
    replace BK470 := zb BK470 hb
    replace BK477 := zb BK477 hb
    replace BK489 := zb BK489 hb
    replace HB := sb hb
    (try clear hb)
    refine hK.out _ _ ⟨(blk_cell BK477.out 0).trans rfl, (blk_cell BK477.out 1).trans rfl, (blk_cell BK451.out 0).trans rfl, (blk_cell BK451.out 1).trans rfl, (blk_cell BK451.out 2).trans rfl, (blk_cell BK451.out 3).trans rfl⟩ (fun hHeld => ?_)
    clear hK K
    refine norm_ (a' := ?_) ?_ ?_
    rotate_left
    ·show Act.put _ (some 34) _ = _
     simp only [Act.put, List.setIfInBounds_toArray, List.set_cons_zero, List.set_cons_succ, i64_w, i32_w]
     rfl
    refine one_ (i := 3) (N := some 35) #[true, true, true, true, false, false, false, true, false, false] rfl rfl (one_of HT_.out (by kernel_rfl)) (by decide) (fun K hK => ?_)
    refine goes_ Try.func18 (by kernel_rfl) rfl #[.agg #[.slice Ao38 t471.length co38, .slice Ao43 t474.length co43], .agg #[.int .i64 t478, .int .i64 t479, .int .i64 t480, .int .i64 t481]] (by rfl) rfl rfl mq ?_
    with_reducible refine (impl_LendParts.calls k _ _ t471 _ _ t474 t478 t479 t480 t481 t482 t485 t488 _ ?s1 ?s2 ?s3 ?s4 A15.out).mono ?_
    (case s1 => exact cr HO473)
    (case s2 => exact r1 HO473)
    (case s3 => exact cr HO476)
    (case s4 => exact r1 HO476)
    rintro e w48 ⟨v483, v486, rfl, ho0, ho1, hb⟩
    refine ⟨_, rfl, ?_⟩
    have HO484 := Aside0.mk (Kd.R_lower (Kd.R_new' (Kd.R_new' (Kd.R_new' ho0 (Kd.R_lt (rq HO455))) (Kd.R_lt (rq HO465))) (Kd.R_lt (rq HO473))) (below_size bq))
    replace HO455 := Aside0.mk (Kd.R_elder' (rq HO455) (Kd.R_base ho0) hb)
    replace HO465 := Aside0.mk (Kd.R_elder' (rq HO465) (Kd.R_base ho0) hb)
    replace HO473 := Aside0.mk (Kd.R_elder' (rq HO473) (Kd.R_base ho0) hb)
    have HO487 := Aside0.mk (Kd.R_lower (Kd.R_new' (Kd.R_new' (Kd.R_new' ho1 (Kd.R_lt (rq HO458))) (Kd.R_lt (rq HO468))) (Kd.R_lt (rq HO476))) (below_size bq))
    replace HO458 := Aside0.mk (Kd.R_elder' (rq HO458) (Kd.R_base ho1) hb)
    replace HO468 := Aside0.mk (Kd.R_elder' (rq HO468) (Kd.R_base ho1) hb)
    replace HO476 := Aside0.mk (Kd.R_elder' (rq HO476) (Kd.R_base ho1) hb)
    replace BK450 := zb BK450 hb
    replace BK451 := zb BK451 hb
    replace BK470 := zb BK470 hb
    replace BK477 := zb BK477 hb
    replace BK489 := zb BK489 hb
    replace HB := sb hb
    (try clear hb ho0 ho1)
    refine hK.out _ _ ⟨(blk_cell BK477.out 0).trans rfl, (blk_cell BK477.out 1).trans rfl, (blk_cell BK451.out 0).trans rfl, (blk_cell BK451.out 1).trans rfl, (blk_cell BK451.out 2).trans rfl, (blk_cell BK451.out 3).trans rfl⟩ (fun hHeld => ?_)
    clear hK K
    refine norm_ (a' := ?_) ?_ ?_
    rotate_left
    ·show Act.put _ (some 35) _ = _
     simp only [Act.put, List.setIfInBounds_toArray, List.set_cons_zero, List.set_cons_succ, i64_w, i32_w]
     rfl
    refine pure_ (i := 4) (N := some 31) (v := ?_) (a' := ?_) #[true, true, true, true, true, false, false, true, false, false] rfl rfl (any_of HT_.out (by kernel_rfl)) (fun _ _ _ h => h) (Or.inl ⟨by rfl, ?_⟩) ?_ ?_
    rotate_left
    ·intro w'
     go_simp
     with_reducible rfl
    rotate_left
    ·simp only [Act.put, List.setIfInBounds_toArray, List.set_cons_zero, List.set_cons_succ, i64_w, i32_w]
     rfl
    refine pure_ (i := 5) (N := some 36) (v := ?_) (a' := ?_) #[true, true, true, true, true, true, false, true, false, false] rfl rfl (any_of HT_.out (by kernel_rfl)) (fun _ _ _ h => h) (Or.inl ⟨by rfl, ?_⟩) ?_ ?_
    rotate_left
    ·intro w'
     go_simp
     with_reducible rfl
    rotate_left
    ·simp only [Act.put, List.setIfInBounds_toArray, List.set_cons_zero, List.set_cons_succ, i64_w, i32_w]
     rfl
    refine pure_ (i := 6) (N := some 37) (v := ?_) (a' := ?_) #[true, true, true, true, true, true, true, true, false, false] rfl rfl (any_of HT_.out (by kernel_rfl)) (fun _ _ _ h => h) (Or.inl ⟨by rfl, ?_⟩) ?_ ?_
    rotate_left
    ·intro w'
     go_simp
     with_reducible rfl
    rotate_left
    ·simp only [Act.put, List.setIfInBounds_toArray, List.set_cons_zero, List.set_cons_succ, i64_w, i32_w]
     rfl
    exact norm_ (by simp only [putAll, Act.put, List.setIfInBounds_toArray, List.set_cons_zero, List.set_cons_succ]) (hCont (v483, v486, gb489) _ ⟨hHeld, (by (with_reducible repeat (first | apply Kd.R_alloc | apply Kd.R_drewN | apply Kd.R_drew)); exact Kd.R_mono HO455.out (fun _ hk => ⟨hk.1.1, ⟨hk.1.2, hk.2⟩⟩)), (by (with_reducible repeat (first | apply Kd.R_alloc | apply Kd.R_drewN | apply Kd.R_drew)); exact Kd.R_mono HO458.out (fun _ hk => ⟨hk.1.1, ⟨hk.1.2, hk.2⟩⟩)), (by (with_reducible repeat (first | apply Kd.R_alloc | apply Kd.R_drewN | apply Kd.R_drew)); exact Kd.R_mono HO465.out (fun _ hk => ⟨hk.1.1, ⟨hk.1.2, hk.2⟩⟩)), (by (with_reducible repeat (first | apply Kd.R_alloc | apply Kd.R_drewN | apply Kd.R_drew)); exact Kd.R_mono HO468.out (fun _ hk => ⟨hk.1.1, ⟨hk.1.2, hk.2⟩⟩)), (by (with_reducible repeat (first | apply Kd.R_alloc | apply Kd.R_drewN | apply Kd.R_drew)); exact Kd.R_mono HO473.out (fun _ hk => ⟨hk.1.1, ⟨hk.1.2, hk.2⟩⟩)), (by (with_reducible repeat (first | apply Kd.R_alloc | apply Kd.R_drewN | apply Kd.R_drew)); exact Kd.R_mono HO476.out (fun _ hk => ⟨hk.1.1, ⟨hk.1.2, hk.2⟩⟩)), (by (with_reducible repeat (first | apply Kd.R_alloc | apply Kd.R_drewN | apply Kd.R_drew)); exact Kd.R_mono HO484.out (fun _ hk => ⟨hk.1.1.2, ⟨hk.1.2, hk.2⟩⟩)), (by (with_reducible repeat (first | apply Kd.R_alloc | apply Kd.R_drewN | apply Kd.R_drew)); exact Kd.R_mono HO487.out (fun _ hk => ⟨hk.1.1.2, ⟨hk.1.2, hk.2⟩⟩)), (zq BK450), (zq BK451), (zq BK470), (zq BK477), (zq BK489), GW489.out, GE489.out, NB450_489.out, NB489_450.out, NB451_489.out, NB489_451.out, NB470_489.out, NB489_470.out, NB477_489.out, NB489_477.out, bq⟩)
  rintro ⟨v483, v486, gb489⟩ w49 ⟨hS_, h0_, h1_, h2_, h3_, h4_, h5_, h6_, h7_, h8_, h9_, h10_, h11_, h12_, h13_, h14_, h15_, h16_, h17_, h18_, h19_, h20_, h21_, h22_, h23_⟩
  have n0_ : Aside0 (Kd.R (Kd.int .i64) 3 w49 w.heap.size (fun k_ => some k_ ≠ (.slice Ao30 t463.length co30 : Value).ownBlock ∧ some k_ ≠ (.slice Ao38 t471.length co38 : Value).ownBlock ∧ some k_ ≠ (v483 : Value).ownBlock) v454 t453) := ⟨h0_⟩
  have n1_ : Aside0 (Kd.R k41 41 w49 w.heap.size (fun k_ => some k_ ≠ (.slice Ao32 t466.length co32 : Value).ownBlock ∧ some k_ ≠ (.slice Ao43 t474.length co43 : Value).ownBlock ∧ some k_ ≠ (v486 : Value).ownBlock) v457 t456) := ⟨h1_⟩
  have n2_ : Aside0 (Kd.R (Kd.int .i64) 3 w49 w.heap.size (fun k_ => some k_ ≠ (v454 : Value).ownBlock ∧ some k_ ≠ (.slice Ao38 t471.length co38 : Value).ownBlock ∧ some k_ ≠ (v483 : Value).ownBlock) (.slice Ao30 t463.length co30) t463) := ⟨h2_⟩
  have n3_ : Aside0 (Kd.R k41 41 w49 w.heap.size (fun k_ => some k_ ≠ (v457 : Value).ownBlock ∧ some k_ ≠ (.slice Ao43 t474.length co43 : Value).ownBlock ∧ some k_ ≠ (v486 : Value).ownBlock) (.slice Ao32 t466.length co32) t466) := ⟨h3_⟩
  have n4_ : Aside0 (Kd.R (Kd.int .i64) 3 w49 w.heap.size (fun k_ => some k_ ≠ (v454 : Value).ownBlock ∧ some k_ ≠ (.slice Ao30 t463.length co30 : Value).ownBlock ∧ some k_ ≠ (v483 : Value).ownBlock) (.slice Ao38 t471.length co38) t471) := ⟨h4_⟩
  have n5_ : Aside0 (Kd.R k41 41 w49 w.heap.size (fun k_ => some k_ ≠ (v457 : Value).ownBlock ∧ some k_ ≠ (.slice Ao32 t466.length co32 : Value).ownBlock ∧ some k_ ≠ (v486 : Value).ownBlock) (.slice Ao43 t474.length co43) t474) := ⟨h5_⟩
  have n6_ : Aside0 (Kd.R (Kd.int .i64) 3 w49 w.heap.size (fun k_ => some k_ ≠ (v454 : Value).ownBlock ∧ some k_ ≠ (.slice Ao30 t463.length co30 : Value).ownBlock ∧ some k_ ≠ (.slice Ao38 t471.length co38 : Value).ownBlock) v483 t482) := ⟨h6_⟩
  have n7_ : Aside0 (Kd.R k41 41 w49 w.heap.size (fun k_ => some k_ ≠ (v457 : Value).ownBlock ∧ some k_ ≠ (.slice Ao32 t466.length co32 : Value).ownBlock ∧ some k_ ≠ (.slice Ao43 t474.length co43 : Value).ownBlock) v486 t485) := ⟨h7_⟩
  have n8_ : Aside0 (w49.heap[gb450]? = some (.cells #[.slice A0_0 l0_0.length c0_0, .slice A0_1 l0_1.length c0_1] 25 (0, 0))) := ⟨h8_⟩
  have n9_ : Aside0 (w49.heap[gb451]? = some (.cells #[.int .i64 a1_0, .int .i64 a1_1, .int .i64 a1_2, .int .i64 a1_3] 39 (0, 0))) := ⟨h9_⟩
  have n10_ : Aside0 (w49.heap[gb470]? = some (.cells #[.slice Ao30 t463.length co30, .slice Ao32 t466.length co32] 29 (0, 0))) := ⟨h10_⟩
  have n11_ : Aside0 (w49.heap[gb477]? = some (.cells #[.slice Ao38 t471.length co38, .slice Ao43 t474.length co43] 29 (0, 0))) := ⟨h11_⟩
  have n12_ : Aside0 (w49.heap[gb489]? = some (.cells #[.slice none 0 0, .slice none 0 0] 29 (0, 0))) := ⟨h12_⟩
  have n13_ : Aside0 (w.heap.size ≤ gb489) := ⟨h13_⟩
  have n14_ : Aside0 (w.heap.size ≤ gb489) := ⟨h14_⟩
  have n15_ : Aside0 (gb450 ≠ gb489) := ⟨h15_⟩
  have n16_ : Aside0 (gb489 ≠ gb450) := ⟨h16_⟩
  have n17_ : Aside0 (gb451 ≠ gb489) := ⟨h17_⟩
  have n18_ : Aside0 (gb489 ≠ gb451) := ⟨h18_⟩
  have n19_ : Aside0 (gb470 ≠ gb489) := ⟨h19_⟩
  have n20_ : Aside0 (gb489 ≠ gb470) := ⟨h20_⟩
  have n21_ : Aside0 (gb477 ≠ gb489) := ⟨h21_⟩
  have n22_ : Aside0 (gb489 ≠ gb477) := ⟨h22_⟩
  have n23_ : Aside0 (Below w.heap.size w w49) := ⟨h23_⟩
  clear HO455 HO458 HO465 HO468 HO473 HO476 BK450 BK451 BK470 BK477 HB h0_ h1_ h2_ h3_ h4_ h5_ h6_ h7_ h8_ h9_ h10_ h11_ h12_ h13_ h14_ h15_ h16_ h17_ h18_ h19_ h20_ h21_ h22_ h23_
  have HO465 := n2_
  have HO468 := n3_
  have HO473 := n4_
  have HO476 := n5_
  have HO484 := n6_
  have HO487 := n7_
  have BK450 := n8_
  have BK451 := n9_
  have BK470 := n10_
  have BK477 := n11_
  have BK489 := n12_
  have GE489 := n14_
  have NB450_489 := n15_
  have NB489_450 := n16_
  have NB451_489 := n17_
  have NB489_451 := n18_
  have NB470_489 := n19_
  have NB489_470 := n20_
  have NB477_489 := n21_
  have NB489_477 := n22_
  have HB := n23_
  clear n0_ n1_ n2_ n3_ n4_ n5_ n6_ n7_ n8_ n9_ n10_ n11_ n12_ n13_ n14_ n15_ n16_ n17_ n18_ n19_ n20_ n21_ n22_ n23_
  have hHeld : w49.cell? ⟨gb477, 0, none⟩ = some (.slice Ao38 t471.length co38) ∧ w49.cell? ⟨gb477, 1, none⟩ = some (.slice Ao43 t474.length co43) ∧ w49.cell? ⟨gb451, 0, none⟩ = some (.int .i64 a1_0) ∧ w49.cell? ⟨gb451, 1, none⟩ = some (.int .i64 a1_1) ∧ w49.cell? ⟨gb451, 2, none⟩ = some (.int .i64 a1_2) ∧ w49.cell? ⟨gb451, 3, none⟩ = some (.int .i64 a1_3) := hS_
  obtain ⟨Ao50, co50, eo50⟩ := Kd.R_slice HO484.out
  (first | subst eo50 | (injection eo50 with f1_ f2_ f3_; have f4_ := f1_.symm; have f5_ := f3_.symm; clear f1_ f2_ f3_; subst f4_; subst f5_))
  obtain ⟨Ao52, co52, eo52⟩ := Kd.R_slice HO487.out
  (first | subst eo52 | (injection eo52 with f1_ f2_ f3_; have f4_ := f1_.symm; have f5_ := f3_.symm; clear f1_ f2_ f3_; subst f4_; subst f5_))
  refine norm_ (a' := ?_) ?_ ?_
  rotate_left
  ·simp only [putAll, Act.put, List.setIfInBounds_toArray, List.set_cons_zero, List.set_cons_succ]
   rfl
  refine one_ (i := 8) (N := none) #[true, true, true, true, true, true, true, true, true, false] rfl rfl (one_of HT_.out (by kernel_rfl)) (by decide) (fun K hK => ?_)
  have hs51 : w49.cell? ⟨gb489, 0, none⟩ = some (.slice none 0 0) := (blk_cell BK489.out 0).trans rfl
  have hfs51 := blk_frozen BK489.out 0
  have hns51_0 := NB450_489.out
  have hns51_1 := NB451_489.out
  have hns51_2 := NB470_489.out
  have hns51_3 := NB477_489.out
  have hms51_0 := NB489_450.out
  have hms51_1 := NB489_451.out
  have hms51_2 := NB489_470.out
  have hms51_3 := NB489_477.out
  have hs53 : w49.cell? ⟨gb489, 1, none⟩ = some (.slice none 0 0) := (blk_cell BK489.out 1).trans rfl
  have hfs53 := blk_frozen BK489.out 1
  have hns53_0 := NB450_489.out
  have hns53_1 := NB451_489.out
  have hns53_2 := NB470_489.out
  have hns53_3 := NB477_489.out
  have hms53_0 := NB489_450.out
  have hms53_1 := NB489_451.out
  have hms53_2 := NB489_470.out
  have hms53_3 := NB489_477.out
  refine skip_ (w1 := ?_) (by rfl) rfl ?_ ?_
  rotate_left
  ·go_simp
   rfl
  refine hK.out _ _ ⟨((cell_far (p := ⟨gb489, _, none⟩) NB477_489.out _).trans (((cell_far (p := ⟨gb489, _, none⟩) NB477_489.out _).trans (hHeld.1)))), ((cell_far (p := ⟨gb489, _, none⟩) NB477_489.out _).trans (((cell_far (p := ⟨gb489, _, none⟩) NB477_489.out _).trans (hHeld.2.1)))), ((cell_far (p := ⟨gb489, _, none⟩) NB451_489.out _).trans (((cell_far (p := ⟨gb489, _, none⟩) NB451_489.out _).trans (hHeld.2.2.1)))), ((cell_far (p := ⟨gb489, _, none⟩) NB451_489.out _).trans (((cell_far (p := ⟨gb489, _, none⟩) NB451_489.out _).trans (hHeld.2.2.2.1)))), ((cell_far (p := ⟨gb489, _, none⟩) NB451_489.out _).trans (((cell_far (p := ⟨gb489, _, none⟩) NB451_489.out _).trans (hHeld.2.2.2.2.1)))), ((cell_far (p := ⟨gb489, _, none⟩) NB451_489.out _).trans (((cell_far (p := ⟨gb489, _, none⟩) NB451_489.out _).trans (hHeld.2.2.2.2.2))))⟩ (fun hHeld => ?_)
  clear hK K
  refine pure_ (i := 9) (N := some 10) (v := ?_) (a' := ?_) #[true, true, true, true, true, true, true, true, true, true] rfl rfl (any_of HT_.out (by kernel_rfl)) (fun _ _ _ h => h) (Or.inl ⟨by rfl, ?_⟩) ?_ ?_
  rotate_left
  ·intro w'
   go_simp
   with_reducible rfl
  rotate_left
  ·simp only [Act.put, List.setIfInBounds_toArray, List.set_cons_zero, List.set_cons_succ, i64_w, i32_w]
   rfl
  refine done_ (done_of HT_.out (by kernel_rfl)) ?_
  go_upto_region 8 with (fail)
  go_cut [46] (fun v46 wc => ∃ (kq : Nat) (x46_15 : Bool), v46 = .bool x46_15 ∧ Aside0 (laws_FnExactLendParts.j0 kq t469 t488 x46_15 l0_0 l0_1 a1_0 a1_1 a1_2 a1_3 t463 t466 t471 t474 t482 t485 = some r) ∧ Aside0 (kq ≤ k) ∧ Aside0 (Kd.R (Kd.int .i64) 3 wc w.heap.size (fun k_ => some k_ ≠ ((.slice Ao38 t471.length co38) : Value).ownBlock ∧ some k_ ≠ ((.slice Ao50 t482.length co50) : Value).ownBlock) (.slice Ao30 t463.length co30) t463) ∧ Aside0 (Kd.R k41 41 wc w.heap.size (fun k_ => some k_ ≠ ((.slice Ao43 t474.length co43) : Value).ownBlock ∧ some k_ ≠ ((.slice Ao52 t485.length co52) : Value).ownBlock) (.slice Ao32 t466.length co32) t466) ∧ Aside0 (Kd.R (Kd.int .i64) 3 wc w.heap.size (fun k_ => some k_ ≠ ((.slice Ao30 t463.length co30) : Value).ownBlock ∧ some k_ ≠ ((.slice Ao50 t482.length co50) : Value).ownBlock) (.slice Ao38 t471.length co38) t471) ∧ Aside0 (Kd.R k41 41 wc w.heap.size (fun k_ => some k_ ≠ ((.slice Ao32 t466.length co32) : Value).ownBlock ∧ some k_ ≠ ((.slice Ao52 t485.length co52) : Value).ownBlock) (.slice Ao43 t474.length co43) t474) ∧ Aside0 (Kd.R (Kd.int .i64) 3 wc w.heap.size (fun k_ => some k_ ≠ ((.slice Ao30 t463.length co30) : Value).ownBlock ∧ some k_ ≠ ((.slice Ao38 t471.length co38) : Value).ownBlock) (.slice Ao50 t482.length co50) t482) ∧ Aside0 (Kd.R k41 41 wc w.heap.size (fun k_ => some k_ ≠ ((.slice Ao32 t466.length co32) : Value).ownBlock ∧ some k_ ≠ ((.slice Ao43 t474.length co43) : Value).ownBlock) (.slice Ao52 t485.length co52) t485) ∧ Aside0 (wc.heap[gb450]? = some (.cells #[(.slice A0_0 l0_0.length c0_0), (.slice A0_1 l0_1.length c0_1)] 25 (0, 0))) ∧ Aside0 (wc.heap[gb451]? = some (.cells #[.int .i64 a1_0, .int .i64 a1_1, .int .i64 a1_2, .int .i64 a1_3] 39 (0, 0))) ∧ Aside0 (wc.heap[gb470]? = some (.cells #[(.slice Ao30 t463.length co30), (.slice Ao32 t466.length co32)] 29 (0, 0))) ∧ Aside0 (wc.heap[gb477]? = some (.cells #[(.slice Ao38 t471.length co38), (.slice Ao43 t474.length co43)] 29 (0, 0))) ∧ Aside0 (wc.heap[gb489]? = some (.cells #[(.slice Ao50 t482.length co50), (.slice Ao52 t485.length co52)] 29 (0, 0))) ∧ Aside0 (Below w.heap.size w wc))
  case first =>
   have H := HC16.out
   clear HC16
   obtain ⟨t490, A54, H⟩ := bindq H
   try dsimp only at H
   by_cases c55 : t490 = true
   ·subst c55
    rw [if_pos rfl] at H
    try dsimp only at H
    have H' := Aside0.mk H
    clear H
    have hnb56 := NB489_450.out
    have hnc56 := NB450_489.out
    have hnb57 := NB489_451.out
    have hnc57 := NB451_489.out
    have hnb58 := NB489_470.out
    have hnc58 := NB470_489.out
    have hnb59 := NB489_477.out
    have hnc59 := NB477_489.out
    have ⟨hcz60_0, hcz60_1, hfz60_0, hfz60_1⟩ := bc2 BK489
    have hnb61 := NB470_450.out
    have hnc61 := NB450_470.out
    have hnb62 := NB470_451.out
    have hnc62 := NB451_470.out
    have hnb63 := NB470_477.out
    have hnc63 := NB477_470.out
    have ⟨hcz64_0, hcz64_1, hfz64_0, hfz64_1⟩ := bc2 BK470
    go_wp2_with (first | ((with_reducible refine gate_callee (f := 11) rfl ?_); refine goesQ (some 40) Try.func11 #[.agg #[.slice Ao50 t482.length co50, .slice Ao52 t485.length co52], .agg #[.slice Ao30 t463.length co30, .slice Ao32 t466.length co32]] ?_; (with_reducible refine (laws_eqShop.calls k _ _ t482 _ _ t485 _ _ t463 _ _ t466 true _ ?s1 ?s2 ?s3 ?s4 ?s5 ?s6 ?s7 ?s8 A54.out).mono ?_); (case s1 => refine (Kd.R_reads' (e := 3) (base := w.heap.size) (ok := fun k_ => (some k_ ≠ (v454 : Value).ownBlock ∧ (some k_ ≠ (.slice Ao30 t463.length co30 : Value).ownBlock ∧ some k_ ≠ (.slice Ao38 t471.length co38 : Value).ownBlock))) (n := t482.length) (c := co50) ?_).2.2; exact (by (with_reducible repeat (first | apply Kd.R_alloc | apply Kd.R_drewN | apply Kd.R_drew)); exact (Kd.R_mono (Kd.R_far (p := ⟨gb489, 1, none⟩) (Kd.R_far (p := ⟨gb489, 0, none⟩) (Kd.R_types HO484.out BK489.out (by decide)) (fun _ hk => hk.2) (.slice Ao50 t482.length co50)) (fun _ hk => hk.2) (.slice Ao52 t485.length co52)) (fun _ h_ => h_.1)))); (case s2 => exact r1 HO484); (case s3 => refine (Kd.R_reads' (e := 41) (base := w.heap.size) (ok := fun k_ => (some k_ ≠ (v457 : Value).ownBlock ∧ (some k_ ≠ (.slice Ao32 t466.length co32 : Value).ownBlock ∧ some k_ ≠ (.slice Ao43 t474.length co43 : Value).ownBlock))) (n := t485.length) (c := co52) ?_).2.2; exact (by (with_reducible repeat (first | apply Kd.R_alloc | apply Kd.R_drewN | apply Kd.R_drew)); exact (Kd.R_mono (Kd.R_far (p := ⟨gb489, 1, none⟩) (Kd.R_far (p := ⟨gb489, 0, none⟩) (Kd.R_types HO487.out BK489.out (by decide)) (fun _ hk => hk.2) (.slice Ao50 t482.length co50)) (fun _ hk => hk.2) (.slice Ao52 t485.length co52)) (fun _ h_ => h_.1)))); (case s4 => exact r1 HO487); (case s5 => refine (Kd.R_reads' (e := 3) (base := w.heap.size) (ok := fun k_ => (some k_ ≠ (v454 : Value).ownBlock ∧ (some k_ ≠ (.slice Ao38 t471.length co38 : Value).ownBlock ∧ some k_ ≠ (.slice Ao50 t482.length co50 : Value).ownBlock))) (n := t463.length) (c := co30) ?_).2.2; exact (by (with_reducible repeat (first | apply Kd.R_alloc | apply Kd.R_drewN | apply Kd.R_drew)); exact (Kd.R_mono (Kd.R_far (p := ⟨gb489, 1, none⟩) (Kd.R_far (p := ⟨gb489, 0, none⟩) (Kd.R_types HO465.out BK489.out (by decide)) (fun _ hk => hk.2) (.slice Ao50 t482.length co50)) (fun _ hk => hk.2) (.slice Ao52 t485.length co52)) (fun _ h_ => h_.1)))); (case s6 => exact r1 HO465); (case s7 => refine (Kd.R_reads' (e := 41) (base := w.heap.size) (ok := fun k_ => (some k_ ≠ (v457 : Value).ownBlock ∧ (some k_ ≠ (.slice Ao43 t474.length co43 : Value).ownBlock ∧ some k_ ≠ (.slice Ao52 t485.length co52 : Value).ownBlock))) (n := t466.length) (c := co32) ?_).2.2; exact (by (with_reducible repeat (first | apply Kd.R_alloc | apply Kd.R_drewN | apply Kd.R_drew)); exact (Kd.R_mono (Kd.R_far (p := ⟨gb489, 1, none⟩) (Kd.R_far (p := ⟨gb489, 0, none⟩) (Kd.R_types HO468.out BK489.out (by decide)) (fun _ hk => hk.2) (.slice Ao50 t482.length co50)) (fun _ hk => hk.2) (.slice Ao52 t485.length co52)) (fun _ h_ => h_.1)))); (case s8 => exact r1 HO468); rintro e w65 ⟨rfl, hb⟩; refine ⟨_, rfl, ?_⟩; replace HO465 := Aside0.mk (Kd.R_below (by (with_reducible repeat (first | apply Kd.R_alloc | apply Kd.R_drewN | apply Kd.R_drew)); exact (Kd.R_mono (Kd.R_far (p := ⟨gb489, 1, none⟩) (Kd.R_far (p := ⟨gb489, 0, none⟩) (Kd.R_types HO465.out BK489.out (by decide)) (fun _ hk => hk.2) (.slice Ao50 t482.length co50)) (fun _ hk => hk.2) (.slice Ao52 t485.length co52)) (fun _ h_ => h_.1))) hb); replace HO468 := Aside0.mk (Kd.R_below (by (with_reducible repeat (first | apply Kd.R_alloc | apply Kd.R_drewN | apply Kd.R_drew)); exact (Kd.R_mono (Kd.R_far (p := ⟨gb489, 1, none⟩) (Kd.R_far (p := ⟨gb489, 0, none⟩) (Kd.R_types HO468.out BK489.out (by decide)) (fun _ hk => hk.2) (.slice Ao50 t482.length co50)) (fun _ hk => hk.2) (.slice Ao52 t485.length co52)) (fun _ h_ => h_.1))) hb); replace HO473 := Aside0.mk (Kd.R_below (by (with_reducible repeat (first | apply Kd.R_alloc | apply Kd.R_drewN | apply Kd.R_drew)); exact (Kd.R_mono (Kd.R_far (p := ⟨gb489, 1, none⟩) (Kd.R_far (p := ⟨gb489, 0, none⟩) (Kd.R_types HO473.out BK489.out (by decide)) (fun _ hk => hk.2) (.slice Ao50 t482.length co50)) (fun _ hk => hk.2) (.slice Ao52 t485.length co52)) (fun _ h_ => h_.1))) hb); replace HO476 := Aside0.mk (Kd.R_below (by (with_reducible repeat (first | apply Kd.R_alloc | apply Kd.R_drewN | apply Kd.R_drew)); exact (Kd.R_mono (Kd.R_far (p := ⟨gb489, 1, none⟩) (Kd.R_far (p := ⟨gb489, 0, none⟩) (Kd.R_types HO476.out BK489.out (by decide)) (fun _ hk => hk.2) (.slice Ao50 t482.length co50)) (fun _ hk => hk.2) (.slice Ao52 t485.length co52)) (fun _ h_ => h_.1))) hb); replace HO484 := Aside0.mk (Kd.R_below (by (with_reducible repeat (first | apply Kd.R_alloc | apply Kd.R_drewN | apply Kd.R_drew)); exact (Kd.R_mono (Kd.R_far (p := ⟨gb489, 1, none⟩) (Kd.R_far (p := ⟨gb489, 0, none⟩) (Kd.R_types HO484.out BK489.out (by decide)) (fun _ hk => hk.2) (.slice Ao50 t482.length co50)) (fun _ hk => hk.2) (.slice Ao52 t485.length co52)) (fun _ h_ => h_.1))) hb); replace HO487 := Aside0.mk (Kd.R_below (by (with_reducible repeat (first | apply Kd.R_alloc | apply Kd.R_drewN | apply Kd.R_drew)); exact (Kd.R_mono (Kd.R_far (p := ⟨gb489, 1, none⟩) (Kd.R_far (p := ⟨gb489, 0, none⟩) (Kd.R_types HO487.out BK489.out (by decide)) (fun _ hk => hk.2) (.slice Ao50 t482.length co50)) (fun _ hk => hk.2) (.slice Ao52 t485.length co52)) (fun _ h_ => h_.1))) hb); replace BK450 := Aside0.mk (blk_below (g := gb450) (o := .cells #[.slice A0_0 l0_0.length c0_0, .slice A0_1 l0_1.length c0_1] 25 (0, 0)) (by (with_reducible repeat (first | refine blk_drewN ?_ _ | refine blk_drew ?_ | refine blk_alloc ?_ _)); refine blk_far ?_ NB450_489.out _; (with_reducible repeat (first | refine blk_drewN ?_ _ | refine blk_drew ?_ | refine blk_alloc ?_ _)); refine blk_far ?_ NB450_489.out _; (with_reducible repeat (first | refine blk_drewN ?_ _ | refine blk_drew ?_ | refine blk_alloc ?_ _)); exact BK450.out) hb); replace BK451 := Aside0.mk (blk_below (g := gb451) (o := .cells #[.int .i64 a1_0, .int .i64 a1_1, .int .i64 a1_2, .int .i64 a1_3] 39 (0, 0)) (by (with_reducible repeat (first | refine blk_drewN ?_ _ | refine blk_drew ?_ | refine blk_alloc ?_ _)); refine blk_far ?_ NB451_489.out _; (with_reducible repeat (first | refine blk_drewN ?_ _ | refine blk_drew ?_ | refine blk_alloc ?_ _)); refine blk_far ?_ NB451_489.out _; (with_reducible repeat (first | refine blk_drewN ?_ _ | refine blk_drew ?_ | refine blk_alloc ?_ _)); exact BK451.out) hb); replace BK470 := Aside0.mk (blk_below (g := gb470) (o := .cells #[.slice Ao30 t463.length co30, .slice Ao32 t466.length co32] 29 (0, 0)) (by (with_reducible repeat (first | refine blk_drewN ?_ _ | refine blk_drew ?_ | refine blk_alloc ?_ _)); refine blk_far ?_ NB470_489.out _; (with_reducible repeat (first | refine blk_drewN ?_ _ | refine blk_drew ?_ | refine blk_alloc ?_ _)); refine blk_far ?_ NB470_489.out _; (with_reducible repeat (first | refine blk_drewN ?_ _ | refine blk_drew ?_ | refine blk_alloc ?_ _)); exact BK470.out) hb); replace BK477 := Aside0.mk (blk_below (g := gb477) (o := .cells #[.slice Ao38 t471.length co38, .slice Ao43 t474.length co43] 29 (0, 0)) (by (with_reducible repeat (first | refine blk_drewN ?_ _ | refine blk_drew ?_ | refine blk_alloc ?_ _)); refine blk_far ?_ NB477_489.out _; (with_reducible repeat (first | refine blk_drewN ?_ _ | refine blk_drew ?_ | refine blk_alloc ?_ _)); refine blk_far ?_ NB477_489.out _; (with_reducible repeat (first | refine blk_drewN ?_ _ | refine blk_drew ?_ | refine blk_alloc ?_ _)); exact BK477.out) hb); replace BK489 := Aside0.mk (blk_below (g := gb489) (o := .cells #[.slice Ao50 t482.length co50, .slice Ao52 t485.length co52] 29 (0, 0)) (by (with_reducible repeat (first | refine blk_drewN ?_ _ | refine blk_drew ?_ | refine blk_alloc ?_ _)); refine blk_put (cs := #[.slice Ao50 t482.length co50, .slice none 0 0]) ?_ 1 _ rfl; (with_reducible repeat (first | refine blk_drewN ?_ _ | refine blk_drew ?_ | refine blk_alloc ?_ _)); refine blk_put (cs := #[.slice none 0 0, .slice none 0 0]) ?_ 0 _ rfl; (with_reducible repeat (first | refine blk_drewN ?_ _ | refine blk_drew ?_ | refine blk_alloc ?_ _)); exact BK489.out) hb); replace HB := sb hb; (try clear hb hb2 hk hi)))
    go_meet
    case rel => exact ⟨_, ((t488 != t469)), sq, H', ⟨by first | omega | exact Nat.le_refl _⟩, ⟨by (with_reducible repeat (first | apply Kd.R_alloc | apply Kd.R_drewN | apply Kd.R_drew)); exact Kd.R_mono HO465.out (fun _ hk => ⟨hk.2.1, hk.2.2⟩)⟩, ⟨by (with_reducible repeat (first | apply Kd.R_alloc | apply Kd.R_drewN | apply Kd.R_drew)); exact Kd.R_mono HO468.out (fun _ hk => ⟨hk.2.1, hk.2.2⟩)⟩, ⟨by (with_reducible repeat (first | apply Kd.R_alloc | apply Kd.R_drewN | apply Kd.R_drew)); exact Kd.R_mono HO473.out (fun _ hk => ⟨hk.2.1, hk.2.2⟩)⟩, ⟨by (with_reducible repeat (first | apply Kd.R_alloc | apply Kd.R_drewN | apply Kd.R_drew)); exact Kd.R_mono HO476.out (fun _ hk => ⟨hk.2.1, hk.2.2⟩)⟩, ⟨by (with_reducible repeat (first | apply Kd.R_alloc | apply Kd.R_drewN | apply Kd.R_drew)); exact Kd.R_mono HO484.out (fun _ hk => ⟨hk.2.1, hk.2.2⟩)⟩, ⟨by (with_reducible repeat (first | apply Kd.R_alloc | apply Kd.R_drewN | apply Kd.R_drew)); exact Kd.R_mono HO487.out (fun _ hk => ⟨hk.2.1, hk.2.2⟩)⟩, ⟨zq BK450⟩, ⟨zq BK451⟩, ⟨zq BK470⟩, ⟨zq BK477⟩, ⟨zq BK489⟩, ⟨bq⟩⟩
   ·replace c55 := Bool.eq_false_iff.mpr c55
    subst c55
    rw [if_neg (show ¬ (false = true) by decide)] at H
    try dsimp only at H
    have H' := Aside0.mk H
    clear H
    have hnb66 := NB489_450.out
    have hnc66 := NB450_489.out
    have hnb67 := NB489_451.out
    have hnc67 := NB451_489.out
    have hnb68 := NB489_470.out
    have hnc68 := NB470_489.out
    have hnb69 := NB489_477.out
    have hnc69 := NB477_489.out
    have ⟨hcz70_0, hcz70_1, hfz70_0, hfz70_1⟩ := bc2 BK489
    have hnb71 := NB470_450.out
    have hnc71 := NB450_470.out
    have hnb72 := NB470_451.out
    have hnc72 := NB451_470.out
    have hnb73 := NB470_477.out
    have hnc73 := NB477_470.out
    have ⟨hcz74_0, hcz74_1, hfz74_0, hfz74_1⟩ := bc2 BK470
    go_wp2_with (first | ((with_reducible refine gate_callee (f := 11) rfl ?_); refine goesQ (some 40) Try.func11 #[.agg #[.slice Ao50 t482.length co50, .slice Ao52 t485.length co52], .agg #[.slice Ao30 t463.length co30, .slice Ao32 t466.length co32]] ?_; (with_reducible refine (laws_eqShop.calls k _ _ t482 _ _ t485 _ _ t463 _ _ t466 false _ ?s1 ?s2 ?s3 ?s4 ?s5 ?s6 ?s7 ?s8 A54.out).mono ?_); (case s1 => refine (Kd.R_reads' (e := 3) (base := w.heap.size) (ok := fun k_ => (some k_ ≠ (v454 : Value).ownBlock ∧ (some k_ ≠ (.slice Ao30 t463.length co30 : Value).ownBlock ∧ some k_ ≠ (.slice Ao38 t471.length co38 : Value).ownBlock))) (n := t482.length) (c := co50) ?_).2.2; exact (by (with_reducible repeat (first | apply Kd.R_alloc | apply Kd.R_drewN | apply Kd.R_drew)); exact (Kd.R_mono (Kd.R_far (p := ⟨gb489, 1, none⟩) (Kd.R_far (p := ⟨gb489, 0, none⟩) (Kd.R_types HO484.out BK489.out (by decide)) (fun _ hk => hk.2) (.slice Ao50 t482.length co50)) (fun _ hk => hk.2) (.slice Ao52 t485.length co52)) (fun _ h_ => h_.1)))); (case s2 => exact r1 HO484); (case s3 => refine (Kd.R_reads' (e := 41) (base := w.heap.size) (ok := fun k_ => (some k_ ≠ (v457 : Value).ownBlock ∧ (some k_ ≠ (.slice Ao32 t466.length co32 : Value).ownBlock ∧ some k_ ≠ (.slice Ao43 t474.length co43 : Value).ownBlock))) (n := t485.length) (c := co52) ?_).2.2; exact (by (with_reducible repeat (first | apply Kd.R_alloc | apply Kd.R_drewN | apply Kd.R_drew)); exact (Kd.R_mono (Kd.R_far (p := ⟨gb489, 1, none⟩) (Kd.R_far (p := ⟨gb489, 0, none⟩) (Kd.R_types HO487.out BK489.out (by decide)) (fun _ hk => hk.2) (.slice Ao50 t482.length co50)) (fun _ hk => hk.2) (.slice Ao52 t485.length co52)) (fun _ h_ => h_.1)))); (case s4 => exact r1 HO487); (case s5 => refine (Kd.R_reads' (e := 3) (base := w.heap.size) (ok := fun k_ => (some k_ ≠ (v454 : Value).ownBlock ∧ (some k_ ≠ (.slice Ao38 t471.length co38 : Value).ownBlock ∧ some k_ ≠ (.slice Ao50 t482.length co50 : Value).ownBlock))) (n := t463.length) (c := co30) ?_).2.2; exact (by (with_reducible repeat (first | apply Kd.R_alloc | apply Kd.R_drewN | apply Kd.R_drew)); exact (Kd.R_mono (Kd.R_far (p := ⟨gb489, 1, none⟩) (Kd.R_far (p := ⟨gb489, 0, none⟩) (Kd.R_types HO465.out BK489.out (by decide)) (fun _ hk => hk.2) (.slice Ao50 t482.length co50)) (fun _ hk => hk.2) (.slice Ao52 t485.length co52)) (fun _ h_ => h_.1)))); (case s6 => exact r1 HO465); (case s7 => refine (Kd.R_reads' (e := 41) (base := w.heap.size) (ok := fun k_ => (some k_ ≠ (v457 : Value).ownBlock ∧ (some k_ ≠ (.slice Ao43 t474.length co43 : Value).ownBlock ∧ some k_ ≠ (.slice Ao52 t485.length co52 : Value).ownBlock))) (n := t466.length) (c := co32) ?_).2.2; exact (by (with_reducible repeat (first | apply Kd.R_alloc | apply Kd.R_drewN | apply Kd.R_drew)); exact (Kd.R_mono (Kd.R_far (p := ⟨gb489, 1, none⟩) (Kd.R_far (p := ⟨gb489, 0, none⟩) (Kd.R_types HO468.out BK489.out (by decide)) (fun _ hk => hk.2) (.slice Ao50 t482.length co50)) (fun _ hk => hk.2) (.slice Ao52 t485.length co52)) (fun _ h_ => h_.1)))); (case s8 => exact r1 HO468); rintro e w75 ⟨rfl, hb⟩; refine ⟨_, rfl, ?_⟩; replace HO465 := Aside0.mk (Kd.R_below (by (with_reducible repeat (first | apply Kd.R_alloc | apply Kd.R_drewN | apply Kd.R_drew)); exact (Kd.R_mono (Kd.R_far (p := ⟨gb489, 1, none⟩) (Kd.R_far (p := ⟨gb489, 0, none⟩) (Kd.R_types HO465.out BK489.out (by decide)) (fun _ hk => hk.2) (.slice Ao50 t482.length co50)) (fun _ hk => hk.2) (.slice Ao52 t485.length co52)) (fun _ h_ => h_.1))) hb); replace HO468 := Aside0.mk (Kd.R_below (by (with_reducible repeat (first | apply Kd.R_alloc | apply Kd.R_drewN | apply Kd.R_drew)); exact (Kd.R_mono (Kd.R_far (p := ⟨gb489, 1, none⟩) (Kd.R_far (p := ⟨gb489, 0, none⟩) (Kd.R_types HO468.out BK489.out (by decide)) (fun _ hk => hk.2) (.slice Ao50 t482.length co50)) (fun _ hk => hk.2) (.slice Ao52 t485.length co52)) (fun _ h_ => h_.1))) hb); replace HO473 := Aside0.mk (Kd.R_below (by (with_reducible repeat (first | apply Kd.R_alloc | apply Kd.R_drewN | apply Kd.R_drew)); exact (Kd.R_mono (Kd.R_far (p := ⟨gb489, 1, none⟩) (Kd.R_far (p := ⟨gb489, 0, none⟩) (Kd.R_types HO473.out BK489.out (by decide)) (fun _ hk => hk.2) (.slice Ao50 t482.length co50)) (fun _ hk => hk.2) (.slice Ao52 t485.length co52)) (fun _ h_ => h_.1))) hb); replace HO476 := Aside0.mk (Kd.R_below (by (with_reducible repeat (first | apply Kd.R_alloc | apply Kd.R_drewN | apply Kd.R_drew)); exact (Kd.R_mono (Kd.R_far (p := ⟨gb489, 1, none⟩) (Kd.R_far (p := ⟨gb489, 0, none⟩) (Kd.R_types HO476.out BK489.out (by decide)) (fun _ hk => hk.2) (.slice Ao50 t482.length co50)) (fun _ hk => hk.2) (.slice Ao52 t485.length co52)) (fun _ h_ => h_.1))) hb); replace HO484 := Aside0.mk (Kd.R_below (by (with_reducible repeat (first | apply Kd.R_alloc | apply Kd.R_drewN | apply Kd.R_drew)); exact (Kd.R_mono (Kd.R_far (p := ⟨gb489, 1, none⟩) (Kd.R_far (p := ⟨gb489, 0, none⟩) (Kd.R_types HO484.out BK489.out (by decide)) (fun _ hk => hk.2) (.slice Ao50 t482.length co50)) (fun _ hk => hk.2) (.slice Ao52 t485.length co52)) (fun _ h_ => h_.1))) hb); replace HO487 := Aside0.mk (Kd.R_below (by (with_reducible repeat (first | apply Kd.R_alloc | apply Kd.R_drewN | apply Kd.R_drew)); exact (Kd.R_mono (Kd.R_far (p := ⟨gb489, 1, none⟩) (Kd.R_far (p := ⟨gb489, 0, none⟩) (Kd.R_types HO487.out BK489.out (by decide)) (fun _ hk => hk.2) (.slice Ao50 t482.length co50)) (fun _ hk => hk.2) (.slice Ao52 t485.length co52)) (fun _ h_ => h_.1))) hb); replace BK450 := Aside0.mk (blk_below (g := gb450) (o := .cells #[.slice A0_0 l0_0.length c0_0, .slice A0_1 l0_1.length c0_1] 25 (0, 0)) (by (with_reducible repeat (first | refine blk_drewN ?_ _ | refine blk_drew ?_ | refine blk_alloc ?_ _)); refine blk_far ?_ NB450_489.out _; (with_reducible repeat (first | refine blk_drewN ?_ _ | refine blk_drew ?_ | refine blk_alloc ?_ _)); refine blk_far ?_ NB450_489.out _; (with_reducible repeat (first | refine blk_drewN ?_ _ | refine blk_drew ?_ | refine blk_alloc ?_ _)); exact BK450.out) hb); replace BK451 := Aside0.mk (blk_below (g := gb451) (o := .cells #[.int .i64 a1_0, .int .i64 a1_1, .int .i64 a1_2, .int .i64 a1_3] 39 (0, 0)) (by (with_reducible repeat (first | refine blk_drewN ?_ _ | refine blk_drew ?_ | refine blk_alloc ?_ _)); refine blk_far ?_ NB451_489.out _; (with_reducible repeat (first | refine blk_drewN ?_ _ | refine blk_drew ?_ | refine blk_alloc ?_ _)); refine blk_far ?_ NB451_489.out _; (with_reducible repeat (first | refine blk_drewN ?_ _ | refine blk_drew ?_ | refine blk_alloc ?_ _)); exact BK451.out) hb); replace BK470 := Aside0.mk (blk_below (g := gb470) (o := .cells #[.slice Ao30 t463.length co30, .slice Ao32 t466.length co32] 29 (0, 0)) (by (with_reducible repeat (first | refine blk_drewN ?_ _ | refine blk_drew ?_ | refine blk_alloc ?_ _)); refine blk_far ?_ NB470_489.out _; (with_reducible repeat (first | refine blk_drewN ?_ _ | refine blk_drew ?_ | refine blk_alloc ?_ _)); refine blk_far ?_ NB470_489.out _; (with_reducible repeat (first | refine blk_drewN ?_ _ | refine blk_drew ?_ | refine blk_alloc ?_ _)); exact BK470.out) hb); replace BK477 := Aside0.mk (blk_below (g := gb477) (o := .cells #[.slice Ao38 t471.length co38, .slice Ao43 t474.length co43] 29 (0, 0)) (by (with_reducible repeat (first | refine blk_drewN ?_ _ | refine blk_drew ?_ | refine blk_alloc ?_ _)); refine blk_far ?_ NB477_489.out _; (with_reducible repeat (first | refine blk_drewN ?_ _ | refine blk_drew ?_ | refine blk_alloc ?_ _)); refine blk_far ?_ NB477_489.out _; (with_reducible repeat (first | refine blk_drewN ?_ _ | refine blk_drew ?_ | refine blk_alloc ?_ _)); exact BK477.out) hb); replace BK489 := Aside0.mk (blk_below (g := gb489) (o := .cells #[.slice Ao50 t482.length co50, .slice Ao52 t485.length co52] 29 (0, 0)) (by (with_reducible repeat (first | refine blk_drewN ?_ _ | refine blk_drew ?_ | refine blk_alloc ?_ _)); refine blk_put (cs := #[.slice Ao50 t482.length co50, .slice none 0 0]) ?_ 1 _ rfl; (with_reducible repeat (first | refine blk_drewN ?_ _ | refine blk_drew ?_ | refine blk_alloc ?_ _)); refine blk_put (cs := #[.slice none 0 0, .slice none 0 0]) ?_ 0 _ rfl; (with_reducible repeat (first | refine blk_drewN ?_ _ | refine blk_drew ?_ | refine blk_alloc ?_ _)); exact BK489.out) hb); replace HB := sb hb; (try clear hb hb2 hk hi)))
    go_meet
    case rel => exact ⟨_, (true), sq, H', ⟨by first | omega | exact Nat.le_refl _⟩, ⟨by (with_reducible repeat (first | apply Kd.R_alloc | apply Kd.R_drewN | apply Kd.R_drew)); exact Kd.R_mono HO465.out (fun _ hk => ⟨hk.2.1, hk.2.2⟩)⟩, ⟨by (with_reducible repeat (first | apply Kd.R_alloc | apply Kd.R_drewN | apply Kd.R_drew)); exact Kd.R_mono HO468.out (fun _ hk => ⟨hk.2.1, hk.2.2⟩)⟩, ⟨by (with_reducible repeat (first | apply Kd.R_alloc | apply Kd.R_drewN | apply Kd.R_drew)); exact Kd.R_mono HO473.out (fun _ hk => ⟨hk.2.1, hk.2.2⟩)⟩, ⟨by (with_reducible repeat (first | apply Kd.R_alloc | apply Kd.R_drewN | apply Kd.R_drew)); exact Kd.R_mono HO476.out (fun _ hk => ⟨hk.2.1, hk.2.2⟩)⟩, ⟨by (with_reducible repeat (first | apply Kd.R_alloc | apply Kd.R_drewN | apply Kd.R_drew)); exact Kd.R_mono HO484.out (fun _ hk => ⟨hk.2.1, hk.2.2⟩)⟩, ⟨by (with_reducible repeat (first | apply Kd.R_alloc | apply Kd.R_drewN | apply Kd.R_drew)); exact Kd.R_mono HO487.out (fun _ hk => ⟨hk.2.1, hk.2.2⟩)⟩, ⟨zq BK450⟩, ⟨zq BK451⟩, ⟨zq BK470⟩, ⟨zq BK477⟩, ⟨zq BK489⟩, ⟨bq⟩⟩
  case rest =>
   clear HC16
   try clear c1
   try clear p2
   try clear c5
   try clear c6
   try clear c7
   try clear c11
   try clear c17
   try clear c18
   try clear c55
   try clear c56
   try clear c57
   try clear c58
   try clear c59
   try clear c61
   try clear c62
   try clear c63
   try clear c66
   try clear c67
   try clear c68
   try clear c69
   try clear c71
   try clear c72
   try clear c73
   try clear hcz60_0
   try clear hcz60_1
   try clear hcz64_0
   try clear hcz64_1
   try clear hcz70_0
   try clear hcz70_1
   try clear hcz74_0
   try clear hcz74_1
   try clear hfz60_0
   try clear hfz60_1
   try clear hfz64_0
   try clear hfz64_1
   try clear hfz70_0
   try clear hfz70_1
   try clear hfz74_0
   try clear hfz74_1
   obtain ⟨kq, x46_15, rfl, HA, HJ15, HO_471000, HO_471001, HO_478000, HO_478001, HO_490000, HO_490001, BK450, BK451, BK470, BK477, BK489, HB⟩ := hcut
   cases kq with
   | zero => exact absurd HA.out (by simp [laws_FnExactLendParts.j0])
   | succ kj15 =>
    have H := HA.out
    clear HA
    simp only [laws_FnExactLendParts.j0] at H
    by_cases c76 : x46_15 = true
    ·subst c76
     rw [if_pos rfl] at H
     try dsimp only at H
     obtain rfl := Option.some.inj H
     go_wp2
     go_ret
     exact ⟨eq_, bq⟩
    ·replace c76 := Bool.eq_false_iff.mpr c76
     subst c76
     rw [if_neg (show ¬ (false = true) by decide)] at H
     try dsimp only at H
     obtain ⟨⟨t491, t494⟩, A77, H⟩ := bindq H
     try dsimp only at H
     obtain ⟨t497, A78, H⟩ := bindq H
     try dsimp only at H
     by_cases c79 : t497 = true
     ·subst c79
      rw [if_pos rfl] at H
      try dsimp only at H
      obtain ⟨⟨t498, t499, t500⟩, A80, H⟩ := bindq H
      try dsimp only at H
      have HC81 := Aside0.mk H
      clear H
      try go_wp2
      replace HO_471000 := Aside0.mk (Kd.R_drew HO_471000.out)
      replace HO_471001 := Aside0.mk (Kd.R_drew HO_471001.out)
      replace HO_478000 := Aside0.mk (Kd.R_drew HO_478000.out)
      replace HO_478001 := Aside0.mk (Kd.R_drew HO_478001.out)
      replace HO_490000 := Aside0.mk (Kd.R_drew HO_490000.out)
      replace HO_490001 := Aside0.mk (Kd.R_drew HO_490001.out)
      replace BK450 := Aside0.mk (blk_drew BK450.out)
      replace BK451 := Aside0.mk (blk_drew BK451.out)
      replace BK470 := Aside0.mk (blk_drew BK470.out)
      replace BK477 := Aside0.mk (blk_drew BK477.out)
      replace BK489 := Aside0.mk (blk_drew BK489.out)
      replace HB := Aside0.mk (below_drew1 HB.out)
      refine start_ (n := 5) (S := fun w' => w'.cell? ⟨gb477, 0, none⟩ = some (.slice Ao38 t471.length co38) ∧ w'.cell? ⟨gb477, 1, none⟩ = some (.slice Ao43 t474.length co43) ∧ w'.cell? ⟨gb450, 0, none⟩ = some (.slice A0_0 l0_0.length c0_0) ∧ w'.cell? ⟨gb450, 1, none⟩ = some (.slice A0_1 l0_1.length c0_1)) (ds := []) #[false, false, false, false, false] (by kernel_rfl) rfl rfl ⟨(blk_cell BK477.out 0).trans rfl, (blk_cell BK477.out 1).trans rfl, (blk_cell BK450.out 0).trans rfl, (blk_cell BK450.out 1).trans rfl⟩ (fun hHeld => ?_)
      generalize wc.drew = w82 at HO_471000 HO_471001 HO_478000 HO_478001 HO_490000 HO_490001 BK450 BK451 BK470 BK477 BK489 HB hHeld ⊢
      refine take_ (i := 0) (N := some 47) (v := ?_) (a' := ?_) #[true, false, false, false, false] rfl rfl (by kernel_rfl) (fun _ _ _ h => h) (Or.inl ⟨by rfl, ?_⟩) hHeld ?_ ?_
      rotate_left
      ·rintro w' ⟨s0, s1, s2, s3⟩
       go_simp
       with_reducible rfl
      rotate_left
      ·simp only [Act.put, List.setIfInBounds_toArray, List.set_cons_zero, List.set_cons_succ, i64_w, i32_w]
       rfl
      refine take_ (i := 1) (N := some 48) (v := ?_) (a' := ?_) #[true, true, false, false, false] rfl rfl (by kernel_rfl) (fun _ _ _ h => h) (Or.inl ⟨by rfl, ?_⟩) hHeld ?_ ?_
      rotate_left
      ·rintro w' ⟨s0, s1, s2, s3⟩
       go_simp
       with_reducible rfl
      rotate_left
      ·simp only [Act.put, List.setIfInBounds_toArray, List.set_cons_zero, List.set_cons_succ, i64_w, i32_w]
       rfl
      refine one_ (i := 2) (N := some 49) #[true, true, true, false, false] rfl rfl (by kernel_rfl) (by decide) (fun K hK => ?_)
      refine goes_ Try.func9 (by kernel_rfl) rfl #[.agg #[.slice A0_0 l0_0.length c0_0, .slice A0_1 l0_1.length c0_1]] (by rfl) rfl rfl mq ?_
      with_reducible refine (laws_toShop.calls kj15 _ _ l0_0 _ _ l0_1 t491 t494 _ ?s1 ?s2 ?s3 ?s4 A77.out).mono ?_
      (case s1 => exact cq (Kd.C_below HR0_0.out HB.out))
      (case s2 => exact HC0_0.out)
      (case s3 => exact cq (Kd.C_below HR0_1.out HB.out))
      (case s4 => exact HC0_1.out)
      rintro e w83 ⟨v492, v495, rfl, ho0, ho1, hb⟩
      refine ⟨_, rfl, ?_⟩
      have HO493 := Aside0.mk (Kd.R_lower (Kd.R_new' (Kd.R_new' (Kd.R_new' ho0 (Kd.R_lt (rq HO_471000))) (Kd.R_lt (rq HO_478000))) (Kd.R_lt (rq HO_490000))) (below_size bq))
      replace HO_471000 := Aside0.mk (Kd.R_elder' (rq HO_471000) (Kd.R_base ho0) hb)
      replace HO_478000 := Aside0.mk (Kd.R_elder' (rq HO_478000) (Kd.R_base ho0) hb)
      replace HO_490000 := Aside0.mk (Kd.R_elder' (rq HO_490000) (Kd.R_base ho0) hb)
      have HO496 := Aside0.mk (Kd.R_lower (Kd.R_new' (Kd.R_new' (Kd.R_new' ho1 (Kd.R_lt (rq HO_471001))) (Kd.R_lt (rq HO_478001))) (Kd.R_lt (rq HO_490001))) (below_size bq))
      replace HO_471001 := Aside0.mk (Kd.R_elder' (rq HO_471001) (Kd.R_base ho1) hb)
      replace HO_478001 := Aside0.mk (Kd.R_elder' (rq HO_478001) (Kd.R_base ho1) hb)
      replace HO_490001 := Aside0.mk (Kd.R_elder' (rq HO_490001) (Kd.R_base ho1) hb)
      replace BK450 := zb BK450 hb
      replace BK451 := zb BK451 hb
      replace BK470 := zb BK470 hb
      replace BK477 := zb BK477 hb
      replace BK489 := zb BK489 hb
      replace HB := sb hb
      (try clear hb ho0 ho1)
      obtain ⟨Ao84, co84, eo84⟩ := Kd.R_slice HO493.out
      (first | subst eo84 | (injection eo84 with f1_ f2_ f3_; have f4_ := f1_.symm; have f5_ := f3_.symm; clear f1_ f2_ f3_; subst f4_; subst f5_))
      obtain ⟨Ao85, co85, eo85⟩ := Kd.R_slice HO496.out
      (first | subst eo85 | (injection eo85 with f1_ f2_ f3_; have f4_ := f1_.symm; have f5_ := f3_.symm; clear f1_ f2_ f3_; subst f4_; subst f5_))
      refine hK.out _ _ ⟨(blk_cell BK477.out 0).trans rfl, (blk_cell BK477.out 1).trans rfl, (blk_cell BK450.out 0).trans rfl, (blk_cell BK450.out 1).trans rfl⟩ (fun hHeld => ?_)
      clear hK K
      refine norm_ (a' := ?_) ?_ ?_
      rotate_left
      ·show Act.put _ (some 49) _ = _
       simp only [Act.put, List.setIfInBounds_toArray, List.set_cons_zero, List.set_cons_succ, i64_w, i32_w]
       rfl
      refine one_ (i := 3) (N := some 50) #[true, true, true, true, false] rfl rfl (by kernel_rfl) (by decide) (fun K hK => ?_)
      refine goes_ Try.func11 (by kernel_rfl) rfl #[.agg #[.slice Ao38 t471.length co38, .slice Ao43 t474.length co43], .agg #[.slice Ao84 t491.length co84, .slice Ao85 t494.length co85]] (by rfl) rfl rfl mq ?_
      with_reducible refine (laws_eqShop.calls kj15 _ _ t471 _ _ t474 _ _ t491 _ _ t494 true _ ?s1 ?s2 ?s3 ?s4 ?s5 ?s6 ?s7 ?s8 A78.out).mono ?_
      (case s1 => exact cr HO_478000)
      (case s2 => exact r1 HO_478000)
      (case s3 => exact cr HO_478001)
      (case s4 => exact r1 HO_478001)
      (case s5 => exact cr HO493)
      (case s6 => exact r1 HO493)
      (case s7 => exact cr HO496)
      (case s8 => exact r1 HO496)
      rintro e w86 ⟨rfl, hb⟩
      refine ⟨_, rfl, ?_⟩
      replace HO_471000 := rb HO_471000 hb
      replace HO_471001 := rb HO_471001 hb
      replace HO_478000 := rb HO_478000 hb
      replace HO_478001 := rb HO_478001 hb
      replace HO_490000 := rb HO_490000 hb
      replace HO_490001 := rb HO_490001 hb
      replace HO493 := rb HO493 hb
      replace HO496 := rb HO496 hb
      replace BK450 := zb BK450 hb
      replace BK451 := zb BK451 hb
      replace BK470 := zb BK470 hb
      replace BK477 := zb BK477 hb
      replace BK489 := zb BK489 hb
      replace HB := sb hb
      (try clear hb)
      refine hK.out _ _ ⟨(blk_cell BK477.out 0).trans rfl, (blk_cell BK477.out 1).trans rfl, (blk_cell BK450.out 0).trans rfl, (blk_cell BK450.out 1).trans rfl⟩ (fun hHeld => ?_)
      clear hK K
      refine norm_ (a' := ?_) ?_ ?_
      rotate_left
      ·show Act.put _ (some 50) _ = _
       simp only [Act.put, List.setIfInBounds_toArray, List.set_cons_zero, List.set_cons_succ, i64_w, i32_w]
       rfl
      refine pure_ (i := 4) (N := some 51) (v := ?_) (a' := ?_) #[true, true, true, true, true] rfl rfl (by kernel_rfl) (fun _ _ _ h => h) (Or.inl ⟨by rfl, ?_⟩) ?_ ?_
      rotate_left
      ·intro w'
       go_simp
       with_reducible rfl
      rotate_left
      ·simp only [Act.put, List.setIfInBounds_toArray, List.set_cons_zero, List.set_cons_succ, i64_w, i32_w]
       rfl
      refine done_ (by kernel_rfl) ?_
      have hnb87 := NB477_450.out
      have hnc87 := NB450_477.out
      have hnb88 := NB477_451.out
      have hnc88 := NB451_477.out
      have hnb89 := NB477_470.out
      have hnc89 := NB470_477.out
      have hnb90 := NB477_489.out
      have hnc90 := NB489_477.out
      have ⟨hcz91_0, hcz91_1, hfz91_0, hfz91_1⟩ := bc2 BK477
      go_upto_region 14 with (first | ((with_reducible refine gate_callee (f := 12) rfl ?_); refine goesQ (some 54) Try.func12 #[.agg #[.slice Ao38 t471.length co38, .slice Ao43 t474.length co43], .int .i64 1] ?_; (with_reducible refine (laws_markShop.calls kj15 (fun k_ => some k_ = (.slice Ao38 t471.length co38 : Value).ownBlock) (.slice Ao38 t471.length co38) t471 (fun k_ => some k_ = (.slice Ao43 t474.length co43 : Value).ownBlock) (.slice Ao43 t474.length co43) t474 1 t498 t499 t500 w _ ?s1 ?s2 ?s3 A80.out).mono ?_); (case s1 => repeat (first | (with_reducible first | exact HB.out | apply below_alloc | apply pw_below_drewN | apply below_drew1 | refine below_set ?_ GE450.out | refine below_set ?_ GE451.out | refine below_set ?_ GE470.out | refine below_set ?_ GE477.out | refine below_set ?_ GE489.out) | exact HB.out)); (case s2 => exact Kd.R_tight rfl HO_478000.out); (case s3 => exact Kd.R_tight rfl HO_478001.out); rintro e w92 ⟨rfl, hy0, hy1, hb, hkp⟩; refine ⟨_, rfl, ?_⟩; replace HO_471000 := Aside0.mk (Kd.R_mono (ok' := fun k_ => some k_ ≠ (.slice Ao38 t471.length co38 : Value).ownBlock ∧ some k_ ≠ (.slice Ao50 t482.length co50 : Value).ownBlock ∧ some k_ ≠ (.slice Ao84 t491.length co84 : Value).ownBlock) (Kd.R_keptB ((Kd.R_apart' HO_471000.out (Kd.R_typed HO_478001.out) (by decide))) hkp (fun k_ hk_ hs_ => Or.elim hs_ (fun e_ => (hk_.1.1.1) e_) (fun e_ => (hk_.2) e_))) (fun k_ hk_ => ⟨hk_.1.1.1.1, hk_.1.1.1.2, hk_.1.1.2⟩)); replace HO_471001 := Aside0.mk (Kd.R_mono (ok' := fun k_ => some k_ ≠ (.slice Ao43 t474.length co43 : Value).ownBlock ∧ some k_ ≠ (.slice Ao52 t485.length co52 : Value).ownBlock ∧ some k_ ≠ (.slice Ao85 t494.length co85 : Value).ownBlock) (Kd.R_keptB ((Kd.R_apart' HO_471001.out (Kd.R_typed HO_478000.out) (by decide))) hkp (fun k_ hk_ hs_ => Or.elim hs_ (fun e_ => (hk_.2) e_) (fun e_ => (hk_.1.1.1) e_))) (fun k_ hk_ => ⟨hk_.1.1.1.1, hk_.1.1.1.2, hk_.1.1.2⟩)); replace HO_490000 := Aside0.mk (Kd.R_mono (ok' := fun k_ => some k_ ≠ (.slice Ao30 t463.length co30 : Value).ownBlock ∧ some k_ ≠ (.slice Ao38 t471.length co38 : Value).ownBlock ∧ some k_ ≠ (.slice Ao84 t491.length co84 : Value).ownBlock) (Kd.R_keptB ((Kd.R_apart' HO_490000.out (Kd.R_typed HO_478001.out) (by decide))) hkp (fun k_ hk_ hs_ => Or.elim hs_ (fun e_ => (hk_.1.1.2) e_) (fun e_ => (hk_.2) e_))) (fun k_ hk_ => ⟨hk_.1.1.1.1, hk_.1.1.1.2, hk_.1.1.2⟩)); replace HO_490001 := Aside0.mk (Kd.R_mono (ok' := fun k_ => some k_ ≠ (.slice Ao32 t466.length co32 : Value).ownBlock ∧ some k_ ≠ (.slice Ao43 t474.length co43 : Value).ownBlock ∧ some k_ ≠ (.slice Ao85 t494.length co85 : Value).ownBlock) (Kd.R_keptB ((Kd.R_apart' HO_490001.out (Kd.R_typed HO_478000.out) (by decide))) hkp (fun k_ hk_ hs_ => Or.elim hs_ (fun e_ => (hk_.2) e_) (fun e_ => (hk_.1.1.2) e_))) (fun k_ hk_ => ⟨hk_.1.1.1.1, hk_.1.1.1.2, hk_.1.1.2⟩)); replace BK450 := Aside0.mk (blk_kept (zq BK450) hkp (fun hs_ => Or.elim hs_ (fun e_ => (fun e_ => (Kd.R_ne HO_478000.out BK450.out (by decide)) e_) e_) (fun e_ => (fun e_ => (Kd.R_ne HO_478001.out BK450.out (by decide)) e_) e_))); replace BK451 := Aside0.mk (blk_kept (zq BK451) hkp (fun hs_ => Or.elim hs_ (fun e_ => (fun e_ => (Kd.R_ne HO_478000.out BK451.out (by decide)) e_) e_) (fun e_ => (fun e_ => (Kd.R_ne HO_478001.out BK451.out (by decide)) e_) e_))); replace BK470 := Aside0.mk (blk_kept (zq BK470) hkp (fun hs_ => Or.elim hs_ (fun e_ => (fun e_ => (Kd.R_ne HO_478000.out BK470.out (by decide)) e_) e_) (fun e_ => (fun e_ => (Kd.R_ne HO_478001.out BK470.out (by decide)) e_) e_))); replace BK477 := Aside0.mk (blk_kept (zq BK477) hkp (fun hs_ => Or.elim hs_ (fun e_ => (fun e_ => (Kd.R_ne HO_478000.out BK477.out (by decide)) e_) e_) (fun e_ => (fun e_ => (Kd.R_ne HO_478001.out BK477.out (by decide)) e_) e_))); replace BK489 := Aside0.mk (blk_kept (zq BK489) hkp (fun hs_ => Or.elim hs_ (fun e_ => (fun e_ => (Kd.R_ne HO_478000.out BK489.out (by decide)) e_) e_) (fun e_ => (fun e_ => (Kd.R_ne HO_478001.out BK489.out (by decide)) e_) e_))); replace HO493 := Aside0.mk (Kd.R_mono (ok' := fun k_ => some k_ ≠ (.slice Ao30 t463.length co30 : Value).ownBlock ∧ some k_ ≠ (.slice Ao38 t471.length co38 : Value).ownBlock ∧ some k_ ≠ (.slice Ao50 t482.length co50 : Value).ownBlock) (Kd.R_keptB ((Kd.R_apart' HO493.out (Kd.R_typed HO_478001.out) (by decide))) hkp (fun k_ hk_ hs_ => Or.elim hs_ (fun e_ => (hk_.1.1.2) e_) (fun e_ => (hk_.2) e_))) (fun k_ hk_ => ⟨hk_.1.1.1.1.2, hk_.1.1.1.2, hk_.1.1.2⟩)); replace HO_478001 := Aside0.mk (Kd.R_reok rfl hy1 (fun k_ e_ => HO_478001.out.1 k_ e_)); replace HO496 := Aside0.mk (Kd.R_mono (ok' := fun k_ => some k_ ≠ (.slice Ao32 t466.length co32 : Value).ownBlock ∧ some k_ ≠ (.slice Ao43 t474.length co43 : Value).ownBlock ∧ some k_ ≠ (.slice Ao52 t485.length co52 : Value).ownBlock) (Kd.R_keptB ((Kd.R_apart' HO496.out (Kd.R_typed HO_478000.out) (by decide))) hkp (fun k_ hk_ hs_ => Or.elim hs_ (fun e_ => (hk_.2) e_) (fun e_ => (hk_.1.1.2) e_))) (fun k_ hk_ => ⟨hk_.1.1.1.1.2, hk_.1.1.1.2, hk_.1.1.2⟩)); replace HO_478000 := Aside0.mk (Kd.R_reok rfl hy0 (fun k_ e_ => HO_478000.out.1 k_ e_)); replace HB := Aside0.mk (hb); (try clear hb hkp hy0 hy1)))
      (try simp only [Act.put, List.setIfInBounds_toArray, List.set_cons_zero, List.set_cons_succ])
      go_cut [67] (fun v67 wc => ∃ (kq : Nat) (x67_80 : Bool), v67 = .bool x67_80 ∧ Aside0 (laws_FnExactLendParts.j1 kq t469 x67_80 l0_0 l0_1 a1_0 a1_1 a1_2 a1_3 t463 t466 t482 t485 = some r) ∧ Aside0 (kq ≤ kj15) ∧ Aside0 (Kd.R (Kd.int .i64) 3 wc w.heap.size (fun k_ => some k_ ≠ ((.slice Ao38 t471.length co38) : Value).ownBlock ∧ some k_ ≠ ((.slice Ao50 t482.length co50) : Value).ownBlock) (.slice Ao30 t463.length co30) t463) ∧ Aside0 (Kd.R k41 41 wc w.heap.size (fun k_ => some k_ ≠ ((.slice Ao43 t474.length co43) : Value).ownBlock ∧ some k_ ≠ ((.slice Ao52 t485.length co52) : Value).ownBlock) (.slice Ao32 t466.length co32) t466) ∧ Aside0 (Kd.R (Kd.int .i64) 3 wc w.heap.size (fun k_ => some k_ ≠ ((.slice Ao30 t463.length co30) : Value).ownBlock ∧ some k_ ≠ ((.slice Ao50 t482.length co50) : Value).ownBlock) (.slice Ao38 t471.length co38) t499) ∧ Aside0 (Kd.R k41 41 wc w.heap.size (fun k_ => some k_ ≠ ((.slice Ao32 t466.length co32) : Value).ownBlock ∧ some k_ ≠ ((.slice Ao52 t485.length co52) : Value).ownBlock) (.slice Ao43 t474.length co43) t500) ∧ Aside0 (Kd.R (Kd.int .i64) 3 wc w.heap.size (fun k_ => some k_ ≠ ((.slice Ao30 t463.length co30) : Value).ownBlock ∧ some k_ ≠ ((.slice Ao38 t471.length co38) : Value).ownBlock) (.slice Ao50 t482.length co50) t482) ∧ Aside0 (Kd.R k41 41 wc w.heap.size (fun k_ => some k_ ≠ ((.slice Ao32 t466.length co32) : Value).ownBlock ∧ some k_ ≠ ((.slice Ao43 t474.length co43) : Value).ownBlock) (.slice Ao52 t485.length co52) t485) ∧ Aside0 (wc.heap[gb450]? = some (.cells #[(.slice A0_0 l0_0.length c0_0), (.slice A0_1 l0_1.length c0_1)] 25 (0, 0))) ∧ Aside0 (wc.heap[gb451]? = some (.cells #[.int .i64 a1_0, .int .i64 a1_1, .int .i64 a1_2, .int .i64 a1_3] 39 (0, 0))) ∧ Aside0 (wc.heap[gb470]? = some (.cells #[(.slice Ao30 t463.length co30), (.slice Ao32 t466.length co32)] 29 (0, 0))) ∧ Aside0 (wc.heap[gb477]? = some (.cells #[(.slice Ao38 t471.length co38), (.slice Ao43 t474.length co43)] 29 (0, 0))) ∧ Aside0 (wc.heap[gb489]? = some (.cells #[(.slice Ao50 t482.length co50), (.slice Ao52 t485.length co52)] 29 (0, 0))) ∧ Aside0 (Below w.heap.size w wc))
      case first =>
       have H := HC81.out
       clear HC81
       by_cases c93 : t498 < 0
       ·rw [if_pos c93] at H
        have c93b0 : decide (t498 < 0) = true := decide_eq_true c93
        clear c93
        (first | rw [c93b0] | (simp only [i64_w, i32_w]; rw [c93b0]) | skip)
        have H' := Aside0.mk H
        clear H
        go_wp2
        go_meet
        case rel => exact ⟨_, (true), sq, H', ⟨by have := HJ15.out; first | omega | exact Nat.le_refl _⟩, ⟨by (with_reducible repeat (first | apply Kd.R_alloc | apply Kd.R_drewN | apply Kd.R_drew)); exact Kd.R_mono HO_471000.out (fun _ hk => ⟨hk.1, hk.2.1⟩)⟩, ⟨by (with_reducible repeat (first | apply Kd.R_alloc | apply Kd.R_drewN | apply Kd.R_drew)); exact Kd.R_mono HO_471001.out (fun _ hk => ⟨hk.1, hk.2.1⟩)⟩, ⟨by (with_reducible repeat (first | apply Kd.R_alloc | apply Kd.R_drewN | apply Kd.R_drew)); exact Kd.R_mono HO_478000.out (fun _ hk => ⟨hk.1.1, hk.1.2⟩)⟩, ⟨by (with_reducible repeat (first | apply Kd.R_alloc | apply Kd.R_drewN | apply Kd.R_drew)); exact Kd.R_mono HO_478001.out (fun _ hk => ⟨hk.1.1, hk.1.2⟩)⟩, ⟨by (with_reducible repeat (first | apply Kd.R_alloc | apply Kd.R_drewN | apply Kd.R_drew)); exact Kd.R_mono HO_490000.out (fun _ hk => ⟨hk.1, hk.2.1⟩)⟩, ⟨by (with_reducible repeat (first | apply Kd.R_alloc | apply Kd.R_drewN | apply Kd.R_drew)); exact Kd.R_mono HO_490001.out (fun _ hk => ⟨hk.1, hk.2.1⟩)⟩, ⟨zq BK450⟩, ⟨zq BK451⟩, ⟨zq BK470⟩, ⟨zq BK477⟩, ⟨zq BK489⟩, ⟨bq⟩⟩
       ·rw [if_neg c93] at H
        have c93b0 : decide (t498 < 0) = false := decide_eq_false c93
        clear c93
        (first | rw [c93b0] | (simp only [i64_w, i32_w]; rw [c93b0]) | skip)
        obtain ⟨t501, A94, H⟩ := bindq H
        try dsimp only at H
        by_cases c95 : t501 = true
        ·subst c95
         rw [if_pos rfl] at H
         try dsimp only at H
         have H' := Aside0.mk H
         clear H
         have hnb96 := NB489_450.out
         have hnc96 := NB450_489.out
         have hnb97 := NB489_451.out
         have hnc97 := NB451_489.out
         have hnb98 := NB489_470.out
         have hnc98 := NB470_489.out
         have hnb99 := NB489_477.out
         have hnc99 := NB477_489.out
         have ⟨hcz100_0, hcz100_1, hfz100_0, hfz100_1⟩ := bc2 BK489
         have hnb101 := NB470_450.out
         have hnc101 := NB450_470.out
         have hnb102 := NB470_451.out
         have hnc102 := NB451_470.out
         have hnb103 := NB470_477.out
         have hnc103 := NB477_470.out
         have ⟨hcz104_0, hcz104_1, hfz104_0, hfz104_1⟩ := bc2 BK470
         go_wp2_with (first | (go_at_call 11; (with_reducible refine (laws_eqShop.calls kj15 _ _ t482 _ _ t485 _ _ t463 _ _ t466 true _ ?s1 ?s2 ?s3 ?s4 ?s5 ?s6 ?s7 ?s8 A94.out).mono ?_); (case s1 => exact cr HO_490000); (case s2 => exact r1 HO_490000); (case s3 => exact cr HO_490001); (case s4 => exact r1 HO_490001); (case s5 => exact cr HO_471000); (case s6 => exact r1 HO_471000); (case s7 => exact cr HO_471001); (case s8 => exact r1 HO_471001); rintro e w105 ⟨rfl, hb⟩; replace HO_471000 := rb HO_471000 hb; replace HO_471001 := rb HO_471001 hb; replace HO_478000 := rb HO_478000 hb; replace HO_478001 := rb HO_478001 hb; replace HO_490000 := rb HO_490000 hb; replace HO_490001 := rb HO_490001 hb; replace HO493 := rb HO493 hb; replace HO496 := rb HO496 hb; replace BK450 := zb BK450 hb; replace BK451 := zb BK451 hb; replace BK470 := zb BK470 hb; replace BK477 := zb BK477 hb; replace BK489 := zb BK489 hb; replace HB := sb hb; (try clear hb)))
         go_meet
         case rel => exact ⟨_, ((t488 != t469)), sq, H', ⟨by have := HJ15.out; first | omega | exact Nat.le_refl _⟩, ⟨by (with_reducible repeat (first | apply Kd.R_alloc | apply Kd.R_drewN | apply Kd.R_drew)); exact Kd.R_mono HO_471000.out (fun _ hk => ⟨hk.1, hk.2.1⟩)⟩, ⟨by (with_reducible repeat (first | apply Kd.R_alloc | apply Kd.R_drewN | apply Kd.R_drew)); exact Kd.R_mono HO_471001.out (fun _ hk => ⟨hk.1, hk.2.1⟩)⟩, ⟨by (with_reducible repeat (first | apply Kd.R_alloc | apply Kd.R_drewN | apply Kd.R_drew)); exact Kd.R_mono HO_478000.out (fun _ hk => ⟨hk.1.1, hk.1.2⟩)⟩, ⟨by (with_reducible repeat (first | apply Kd.R_alloc | apply Kd.R_drewN | apply Kd.R_drew)); exact Kd.R_mono HO_478001.out (fun _ hk => ⟨hk.1.1, hk.1.2⟩)⟩, ⟨by (with_reducible repeat (first | apply Kd.R_alloc | apply Kd.R_drewN | apply Kd.R_drew)); exact Kd.R_mono HO_490000.out (fun _ hk => ⟨hk.1, hk.2.1⟩)⟩, ⟨by (with_reducible repeat (first | apply Kd.R_alloc | apply Kd.R_drewN | apply Kd.R_drew)); exact Kd.R_mono HO_490001.out (fun _ hk => ⟨hk.1, hk.2.1⟩)⟩, ⟨zq BK450⟩, ⟨zq BK451⟩, ⟨zq BK470⟩, ⟨zq BK477⟩, ⟨zq BK489⟩, ⟨bq⟩⟩
        ·replace c95 := Bool.eq_false_iff.mpr c95
         subst c95
         rw [if_neg (show ¬ (false = true) by decide)] at H
         try dsimp only at H
         have H' := Aside0.mk H
         clear H
         have hnb106 := NB489_450.out
         have hnc106 := NB450_489.out
         have hnb107 := NB489_451.out
         have hnc107 := NB451_489.out
         have hnb108 := NB489_470.out
         have hnc108 := NB470_489.out
         have hnb109 := NB489_477.out
         have hnc109 := NB477_489.out
         have ⟨hcz110_0, hcz110_1, hfz110_0, hfz110_1⟩ := bc2 BK489
         have hnb111 := NB470_450.out
         have hnc111 := NB450_470.out
         have hnb112 := NB470_451.out
         have hnc112 := NB451_470.out
         have hnb113 := NB470_477.out
         have hnc113 := NB477_470.out
         have ⟨hcz114_0, hcz114_1, hfz114_0, hfz114_1⟩ := bc2 BK470
         go_wp2_with (first | (go_at_call 11; (with_reducible refine (laws_eqShop.calls kj15 _ _ t482 _ _ t485 _ _ t463 _ _ t466 false _ ?s1 ?s2 ?s3 ?s4 ?s5 ?s6 ?s7 ?s8 A94.out).mono ?_); (case s1 => exact cr HO_490000); (case s2 => exact r1 HO_490000); (case s3 => exact cr HO_490001); (case s4 => exact r1 HO_490001); (case s5 => exact cr HO_471000); (case s6 => exact r1 HO_471000); (case s7 => exact cr HO_471001); (case s8 => exact r1 HO_471001); rintro e w115 ⟨rfl, hb⟩; replace HO_471000 := rb HO_471000 hb; replace HO_471001 := rb HO_471001 hb; replace HO_478000 := rb HO_478000 hb; replace HO_478001 := rb HO_478001 hb; replace HO_490000 := rb HO_490000 hb; replace HO_490001 := rb HO_490001 hb; replace HO493 := rb HO493 hb; replace HO496 := rb HO496 hb; replace BK450 := zb BK450 hb; replace BK451 := zb BK451 hb; replace BK470 := zb BK470 hb; replace BK477 := zb BK477 hb; replace BK489 := zb BK489 hb; replace HB := sb hb; (try clear hb)))
         go_meet
         case rel => exact ⟨_, (true), sq, H', ⟨by have := HJ15.out; first | omega | exact Nat.le_refl _⟩, ⟨by (with_reducible repeat (first | apply Kd.R_alloc | apply Kd.R_drewN | apply Kd.R_drew)); exact Kd.R_mono HO_471000.out (fun _ hk => ⟨hk.1, hk.2.1⟩)⟩, ⟨by (with_reducible repeat (first | apply Kd.R_alloc | apply Kd.R_drewN | apply Kd.R_drew)); exact Kd.R_mono HO_471001.out (fun _ hk => ⟨hk.1, hk.2.1⟩)⟩, ⟨by (with_reducible repeat (first | apply Kd.R_alloc | apply Kd.R_drewN | apply Kd.R_drew)); exact Kd.R_mono HO_478000.out (fun _ hk => ⟨hk.1.1, hk.1.2⟩)⟩, ⟨by (with_reducible repeat (first | apply Kd.R_alloc | apply Kd.R_drewN | apply Kd.R_drew)); exact Kd.R_mono HO_478001.out (fun _ hk => ⟨hk.1.1, hk.1.2⟩)⟩, ⟨by (with_reducible repeat (first | apply Kd.R_alloc | apply Kd.R_drewN | apply Kd.R_drew)); exact Kd.R_mono HO_490000.out (fun _ hk => ⟨hk.1, hk.2.1⟩)⟩, ⟨by (with_reducible repeat (first | apply Kd.R_alloc | apply Kd.R_drewN | apply Kd.R_drew)); exact Kd.R_mono HO_490001.out (fun _ hk => ⟨hk.1, hk.2.1⟩)⟩, ⟨zq BK450⟩, ⟨zq BK451⟩, ⟨zq BK470⟩, ⟨zq BK477⟩, ⟨zq BK489⟩, ⟨bq⟩⟩
      case rest =>
       clear HC81
       try clear c1
       try clear p2
       try clear c5
       try clear c6
       try clear c7
       try clear c8
       try clear c9
       try clear c10
       try clear c11
       try clear c12
       try clear c17
       try clear c18
       try clear c55
       try clear c56
       try clear c57
       try clear c58
       try clear c59
       try clear c61
       try clear c62
       try clear c63
       try clear c66
       try clear c67
       try clear c68
       try clear c69
       try clear c71
       try clear c72
       try clear c73
       try clear c76
       try clear c79
       try clear c87
       try clear c88
       try clear c89
       try clear c90
       try clear c93
       try clear c93b0
       try clear c95
       try clear c96
       try clear c97
       try clear c98
       try clear c99
       try clear c101
       try clear c102
       try clear c103
       try clear c106
       try clear c107
       try clear c108
       try clear c109
       try clear c111
       try clear c112
       try clear c113
       try clear hcz100_0
       try clear hcz100_1
       try clear hcz104_0
       try clear hcz104_1
       try clear hcz110_0
       try clear hcz110_1
       try clear hcz114_0
       try clear hcz114_1
       try clear hcz60_0
       try clear hcz60_1
       try clear hcz64_0
       try clear hcz64_1
       try clear hcz70_0
       try clear hcz70_1
       try clear hcz74_0
       try clear hcz74_1
       try clear hcz91_0
       try clear hcz91_1
       try clear hfz100_0
       try clear hfz100_1
       try clear hfz104_0
       try clear hfz104_1
       try clear hfz110_0
       try clear hfz110_1
       try clear hfz114_0
       try clear hfz114_1
       try clear hfz60_0
       try clear hfz60_1
       try clear hfz64_0
       try clear hfz64_1
       try clear hfz70_0
       try clear hfz70_1
       try clear hfz74_0
       try clear hfz74_1
       try clear hfz91_0
       try clear hfz91_1
       try clear p2
       obtain ⟨kq, x67_80, rfl, HA, HJ80, HO_471000, HO_471001, HO_478000, HO_478001, HO_490000, HO_490001, BK450, BK451, BK470, BK477, BK489, HB⟩ := hcut
       have hl478000_80 := (Kd.R_reads' HO_478000.out).1
       rw [hl478000_80] at HO_478000
       (try simp only [hl478000_80])
       (try simp only [hl478000_80] at BK450)
       (try simp only [hl478000_80] at BK451)
       (try simp only [hl478000_80] at BK470)
       (try simp only [hl478000_80] at BK477)
       (try simp only [hl478000_80] at BK489)
       (try simp only [hl478000_80] at HO_471000)
       (try simp only [hl478000_80] at HO_471001)
       (try simp only [hl478000_80] at HO_478001)
       (try simp only [hl478000_80] at HO_490000)
       (try simp only [hl478000_80] at HO_490001)
       have hl478001_80 := (Kd.R_reads' HO_478001.out).1
       rw [hl478001_80] at HO_478001
       (try simp only [hl478001_80])
       (try simp only [hl478001_80] at BK450)
       (try simp only [hl478001_80] at BK451)
       (try simp only [hl478001_80] at BK470)
       (try simp only [hl478001_80] at BK477)
       (try simp only [hl478001_80] at BK489)
       (try simp only [hl478001_80] at HO_471000)
       (try simp only [hl478001_80] at HO_471001)
       (try simp only [hl478001_80] at HO_478000)
       (try simp only [hl478001_80] at HO_490000)
       (try simp only [hl478001_80] at HO_490001)
       cases kq with
       | zero => exact absurd HA.out (by simp [laws_FnExactLendParts.j1])
       | succ kj80 =>
        have H := HA.out
        clear HA
        simp only [laws_FnExactLendParts.j1] at H
        by_cases c116 : x67_80 = true
        ·subst c116
         rw [if_pos rfl] at H
         try dsimp only at H
         obtain rfl := Option.some.inj H
         go_wp2
         go_ret
         exact ⟨eq_, bq⟩
        ·replace c116 := Bool.eq_false_iff.mpr c116
         subst c116
         rw [if_neg (show ¬ (false = true) by decide)] at H
         try dsimp only at H
         obtain ⟨⟨t502, t503, t504⟩, A117, H⟩ := bindq H
         try dsimp only at H
         obtain ⟨t505, A118, H⟩ := bindq H
         try dsimp only at H
         by_cases c119 : t505 < 0
         ·rw [if_pos c119] at H
          have c119b0 : decide (t505 < 0) = true := decide_eq_true c119
          clear c119
          obtain rfl := Option.some.inj H
          have hnb120 := NB489_450.out
          have hnc120 := NB450_489.out
          have hnb121 := NB489_451.out
          have hnc121 := NB451_489.out
          have hnb122 := NB489_470.out
          have hnc122 := NB470_489.out
          have hnb123 := NB489_477.out
          have hnc123 := NB477_489.out
          have ⟨hcz124_0, hcz124_1, hfz124_0, hfz124_1⟩ := bc2 BK489
          go_wp2_with (first | ((with_reducible refine gate_callee (f := 12) rfl ?_); refine goesQ (some 70) Try.func12 #[.agg #[.slice Ao50 t482.length co50, .slice Ao52 t485.length co52], .int .i64 1] ?_; (with_reducible refine (laws_markShop.calls kj80 (fun k_ => some k_ = (.slice Ao50 t482.length co50 : Value).ownBlock) (.slice Ao50 t482.length co50) t482 (fun k_ => some k_ = (.slice Ao52 t485.length co52 : Value).ownBlock) (.slice Ao52 t485.length co52) t485 1 t502 t503 t504 w _ ?s1 ?s2 ?s3 A117.out).mono ?_); (case s1 => repeat (first | (with_reducible first | exact HB.out | apply below_alloc | apply pw_below_drewN | apply below_drew1 | refine below_set ?_ GE450.out | refine below_set ?_ GE451.out | refine below_set ?_ GE470.out | refine below_set ?_ GE477.out | refine below_set ?_ GE489.out) | exact HB.out)); (case s2 => exact Kd.R_tight rfl HO_490000.out); (case s3 => exact Kd.R_tight rfl HO_490001.out); rintro e w125 ⟨rfl, hy0, hy1, hb, hkp⟩; refine ⟨_, rfl, ?_⟩; replace HO_471000 := Aside0.mk (Kd.R_mono (ok' := fun k_ => some k_ ≠ (.slice Ao38 t499.length co38 : Value).ownBlock ∧ some k_ ≠ (.slice Ao50 t482.length co50 : Value).ownBlock) (Kd.R_keptB ((Kd.R_apart' HO_471000.out (Kd.R_typed HO_490001.out) (by decide))) hkp (fun k_ hk_ hs_ => Or.elim hs_ (fun e_ => (hk_.1.2) e_) (fun e_ => (hk_.2) e_))) (fun k_ hk_ => ⟨hk_.1.1.1, hk_.1.1.2⟩)); replace HO_471001 := Aside0.mk (Kd.R_mono (ok' := fun k_ => some k_ ≠ (.slice Ao43 t500.length co43 : Value).ownBlock ∧ some k_ ≠ (.slice Ao52 t485.length co52 : Value).ownBlock) (Kd.R_keptB ((Kd.R_apart' HO_471001.out (Kd.R_typed HO_490000.out) (by decide))) hkp (fun k_ hk_ hs_ => Or.elim hs_ (fun e_ => (hk_.2) e_) (fun e_ => (hk_.1.2) e_))) (fun k_ hk_ => ⟨hk_.1.1.1, hk_.1.1.2⟩)); replace HO_478000 := Aside0.mk (Kd.R_mono (ok' := fun k_ => some k_ ≠ (.slice Ao30 t463.length co30 : Value).ownBlock ∧ some k_ ≠ (.slice Ao50 t482.length co50 : Value).ownBlock) (Kd.R_keptB ((Kd.R_apart' HO_478000.out (Kd.R_typed HO_490001.out) (by decide))) hkp (fun k_ hk_ hs_ => Or.elim hs_ (fun e_ => (hk_.1.2) e_) (fun e_ => (hk_.2) e_))) (fun k_ hk_ => ⟨hk_.1.1.1, hk_.1.1.2⟩)); replace HO_478001 := Aside0.mk (Kd.R_mono (ok' := fun k_ => some k_ ≠ (.slice Ao32 t466.length co32 : Value).ownBlock ∧ some k_ ≠ (.slice Ao52 t485.length co52 : Value).ownBlock) (Kd.R_keptB ((Kd.R_apart' HO_478001.out (Kd.R_typed HO_490000.out) (by decide))) hkp (fun k_ hk_ hs_ => Or.elim hs_ (fun e_ => (hk_.2) e_) (fun e_ => (hk_.1.2) e_))) (fun k_ hk_ => ⟨hk_.1.1.1, hk_.1.1.2⟩)); replace BK450 := Aside0.mk (blk_kept (zq BK450) hkp (fun hs_ => Or.elim hs_ (fun e_ => (fun e_ => (Kd.R_ne HO_490000.out BK450.out (by decide)) e_) e_) (fun e_ => (fun e_ => (Kd.R_ne HO_490001.out BK450.out (by decide)) e_) e_))); replace BK451 := Aside0.mk (blk_kept (zq BK451) hkp (fun hs_ => Or.elim hs_ (fun e_ => (fun e_ => (Kd.R_ne HO_490000.out BK451.out (by decide)) e_) e_) (fun e_ => (fun e_ => (Kd.R_ne HO_490001.out BK451.out (by decide)) e_) e_))); replace BK470 := Aside0.mk (blk_kept (zq BK470) hkp (fun hs_ => Or.elim hs_ (fun e_ => (fun e_ => (Kd.R_ne HO_490000.out BK470.out (by decide)) e_) e_) (fun e_ => (fun e_ => (Kd.R_ne HO_490001.out BK470.out (by decide)) e_) e_))); replace BK477 := Aside0.mk (blk_kept (zq BK477) hkp (fun hs_ => Or.elim hs_ (fun e_ => (fun e_ => (Kd.R_ne HO_490000.out BK477.out (by decide)) e_) e_) (fun e_ => (fun e_ => (Kd.R_ne HO_490001.out BK477.out (by decide)) e_) e_))); replace BK489 := Aside0.mk (blk_kept (zq BK489) hkp (fun hs_ => Or.elim hs_ (fun e_ => (fun e_ => (Kd.R_ne HO_490000.out BK489.out (by decide)) e_) e_) (fun e_ => (fun e_ => (Kd.R_ne HO_490001.out BK489.out (by decide)) e_) e_))); replace HO_490000 := Aside0.mk (Kd.R_reok rfl hy0 (fun k_ e_ => HO_490000.out.1 k_ e_)); replace HO_490001 := Aside0.mk (Kd.R_reok rfl hy1 (fun k_ e_ => HO_490001.out.1 k_ e_)); replace HB := Aside0.mk (hb); (try clear hb hkp hy0 hy1); have ⟨hcz126_0, hcz126_1, hfz126_0, hfz126_1⟩ := bc2 BK489) | ((with_reducible refine gate_callee (f := 13) rfl ?_); refine goesL_ (some 73) rfl rfl Try.func13 (by kernel_rfl) rfl #[.agg #[.slice Ao50 t503.length co50, .slice Ao52 t504.length co52], .int .i64 1] rfl (by (try simp only [List.map_toArray, List.map_cons, List.map_nil]); first | done | (rw [show t503.length = t482.length from (Kd.R_reads' HO_490000.out).1.symm, show t504.length = t485.length from (Kd.R_reads' HO_490001.out).1.symm] <;> rfl) | rfl | (simp only [List.length_drop, List.length_take]; rfl)) ?_; (with_reducible refine (laws_heldShop.calls kj80 _ _ t503 _ _ t504 1 t505 _ ?s1 ?s2 ?s3 ?s4 A118.out).mono ?_); (case s1 => exact cr HO_490000); (case s2 => rw [show t503.length = t482.length from (Kd.R_reads' HO_490000.out).1.symm]; exact r1 HO_490000); (case s3 => exact cr HO_490001); (case s4 => rw [show t504.length = t485.length from (Kd.R_reads' HO_490001.out).1.symm]; exact r1 HO_490001); rintro e w127 ⟨rfl, hb⟩; refine ⟨_, rfl, ?_⟩; replace HO_471000 := rb HO_471000 hb; replace HO_471001 := rb HO_471001 hb; replace HO_478000 := rb HO_478000 hb; replace HO_478001 := rb HO_478001 hb; replace HO_490000 := rb HO_490000 hb; replace HO_490001 := rb HO_490001 hb; replace BK450 := zb BK450 hb; replace BK451 := zb BK451 hb; replace BK470 := zb BK470 hb; replace BK477 := zb BK477 hb; replace BK489 := zb BK489 hb; replace HB := sb hb; (try clear hb)))
          go_ret
          exact ⟨eq_, bq⟩
         ·rw [if_neg c119] at H
          have c119b0 : decide (t505 < 0) = false := decide_eq_false c119
          clear c119
          by_cases c128 : t505 = t502
          ·rw [if_pos c128] at H
           have c128b0 : (t505 == t502) = true := beq_iff_eq.mpr c128
           have c128b1 : (t505 != t502) = false := bne_eq_false_iff_eq.mpr c128
           clear c128
           obtain ⟨⟨t506, t509⟩, A129, H⟩ := bindq H
           try dsimp only at H
           obtain ⟨⟨t512, t513, t514, t515⟩, A130, H⟩ := bindq H
           try dsimp only at H
           obtain ⟨⟨t516, t519, t522⟩, A131, H⟩ := bindq H
           try dsimp only at H
           have HC132 := Aside0.mk H
           clear H
           have hnb133 := NB489_450.out
           have hnc133 := NB450_489.out
           have hnb134 := NB489_451.out
           have hnc134 := NB451_489.out
           have hnb135 := NB489_470.out
           have hnc135 := NB470_489.out
           have hnb136 := NB489_477.out
           have hnc136 := NB477_489.out
           have ⟨hcz137_0, hcz137_1, hfz137_0, hfz137_1⟩ := bc2 BK489
           try go_wp2_with (first | ((with_reducible refine gate_callee (f := 12) rfl ?_); refine goesQ (some 70) Try.func12 #[.agg #[.slice Ao50 t482.length co50, .slice Ao52 t485.length co52], .int .i64 1] ?_; (with_reducible refine (laws_markShop.calls kj80 (fun k_ => some k_ = (.slice Ao50 t482.length co50 : Value).ownBlock) (.slice Ao50 t482.length co50) t482 (fun k_ => some k_ = (.slice Ao52 t485.length co52 : Value).ownBlock) (.slice Ao52 t485.length co52) t485 1 t502 t503 t504 w _ ?s1 ?s2 ?s3 A117.out).mono ?_); (case s1 => repeat (first | (with_reducible first | exact HB.out | apply below_alloc | apply pw_below_drewN | apply below_drew1 | refine below_set ?_ GE450.out | refine below_set ?_ GE451.out | refine below_set ?_ GE470.out | refine below_set ?_ GE477.out | refine below_set ?_ GE489.out) | exact HB.out)); (case s2 => exact Kd.R_tight rfl HO_490000.out); (case s3 => exact Kd.R_tight rfl HO_490001.out); rintro e w138 ⟨rfl, hy0, hy1, hb, hkp⟩; refine ⟨_, rfl, ?_⟩; replace HO_471000 := Aside0.mk (Kd.R_mono (ok' := fun k_ => some k_ ≠ (.slice Ao38 t499.length co38 : Value).ownBlock ∧ some k_ ≠ (.slice Ao50 t482.length co50 : Value).ownBlock) (Kd.R_keptB ((Kd.R_apart' HO_471000.out (Kd.R_typed HO_490001.out) (by decide))) hkp (fun k_ hk_ hs_ => Or.elim hs_ (fun e_ => (hk_.1.2) e_) (fun e_ => (hk_.2) e_))) (fun k_ hk_ => ⟨hk_.1.1.1, hk_.1.1.2⟩)); replace HO_471001 := Aside0.mk (Kd.R_mono (ok' := fun k_ => some k_ ≠ (.slice Ao43 t500.length co43 : Value).ownBlock ∧ some k_ ≠ (.slice Ao52 t485.length co52 : Value).ownBlock) (Kd.R_keptB ((Kd.R_apart' HO_471001.out (Kd.R_typed HO_490000.out) (by decide))) hkp (fun k_ hk_ hs_ => Or.elim hs_ (fun e_ => (hk_.2) e_) (fun e_ => (hk_.1.2) e_))) (fun k_ hk_ => ⟨hk_.1.1.1, hk_.1.1.2⟩)); replace HO_478000 := Aside0.mk (Kd.R_mono (ok' := fun k_ => some k_ ≠ (.slice Ao30 t463.length co30 : Value).ownBlock ∧ some k_ ≠ (.slice Ao50 t482.length co50 : Value).ownBlock) (Kd.R_keptB ((Kd.R_apart' HO_478000.out (Kd.R_typed HO_490001.out) (by decide))) hkp (fun k_ hk_ hs_ => Or.elim hs_ (fun e_ => (hk_.1.2) e_) (fun e_ => (hk_.2) e_))) (fun k_ hk_ => ⟨hk_.1.1.1, hk_.1.1.2⟩)); replace HO_478001 := Aside0.mk (Kd.R_mono (ok' := fun k_ => some k_ ≠ (.slice Ao32 t466.length co32 : Value).ownBlock ∧ some k_ ≠ (.slice Ao52 t485.length co52 : Value).ownBlock) (Kd.R_keptB ((Kd.R_apart' HO_478001.out (Kd.R_typed HO_490000.out) (by decide))) hkp (fun k_ hk_ hs_ => Or.elim hs_ (fun e_ => (hk_.2) e_) (fun e_ => (hk_.1.2) e_))) (fun k_ hk_ => ⟨hk_.1.1.1, hk_.1.1.2⟩)); replace BK450 := Aside0.mk (blk_kept (zq BK450) hkp (fun hs_ => Or.elim hs_ (fun e_ => (fun e_ => (Kd.R_ne HO_490000.out BK450.out (by decide)) e_) e_) (fun e_ => (fun e_ => (Kd.R_ne HO_490001.out BK450.out (by decide)) e_) e_))); replace BK451 := Aside0.mk (blk_kept (zq BK451) hkp (fun hs_ => Or.elim hs_ (fun e_ => (fun e_ => (Kd.R_ne HO_490000.out BK451.out (by decide)) e_) e_) (fun e_ => (fun e_ => (Kd.R_ne HO_490001.out BK451.out (by decide)) e_) e_))); replace BK470 := Aside0.mk (blk_kept (zq BK470) hkp (fun hs_ => Or.elim hs_ (fun e_ => (fun e_ => (Kd.R_ne HO_490000.out BK470.out (by decide)) e_) e_) (fun e_ => (fun e_ => (Kd.R_ne HO_490001.out BK470.out (by decide)) e_) e_))); replace BK477 := Aside0.mk (blk_kept (zq BK477) hkp (fun hs_ => Or.elim hs_ (fun e_ => (fun e_ => (Kd.R_ne HO_490000.out BK477.out (by decide)) e_) e_) (fun e_ => (fun e_ => (Kd.R_ne HO_490001.out BK477.out (by decide)) e_) e_))); replace BK489 := Aside0.mk (blk_kept (zq BK489) hkp (fun hs_ => Or.elim hs_ (fun e_ => (fun e_ => (Kd.R_ne HO_490000.out BK489.out (by decide)) e_) e_) (fun e_ => (fun e_ => (Kd.R_ne HO_490001.out BK489.out (by decide)) e_) e_))); replace HO_490000 := Aside0.mk (Kd.R_reok rfl hy0 (fun k_ e_ => HO_490000.out.1 k_ e_)); replace HO_490001 := Aside0.mk (Kd.R_reok rfl hy1 (fun k_ e_ => HO_490001.out.1 k_ e_)); replace HB := Aside0.mk (hb); (try clear hb hkp hy0 hy1); have ⟨hcz139_0, hcz139_1, hfz139_0, hfz139_1⟩ := bc2 BK489) | ((with_reducible refine gate_callee (f := 13) rfl ?_); refine goesL_ (some 73) rfl rfl Try.func13 (by kernel_rfl) rfl #[.agg #[.slice Ao50 t503.length co50, .slice Ao52 t504.length co52], .int .i64 1] rfl (by (try simp only [List.map_toArray, List.map_cons, List.map_nil]); first | done | (rw [show t503.length = t482.length from (Kd.R_reads' HO_490000.out).1.symm, show t504.length = t485.length from (Kd.R_reads' HO_490001.out).1.symm] <;> rfl) | rfl | (simp only [List.length_drop, List.length_take]; rfl)) ?_; (with_reducible refine (laws_heldShop.calls kj80 _ _ t503 _ _ t504 1 t505 _ ?s1 ?s2 ?s3 ?s4 A118.out).mono ?_); (case s1 => exact cr HO_490000); (case s2 => rw [show t503.length = t482.length from (Kd.R_reads' HO_490000.out).1.symm]; exact r1 HO_490000); (case s3 => exact cr HO_490001); (case s4 => rw [show t504.length = t485.length from (Kd.R_reads' HO_490001.out).1.symm]; exact r1 HO_490001); rintro e w140 ⟨rfl, hb⟩; refine ⟨_, rfl, ?_⟩; replace HO_471000 := rb HO_471000 hb; replace HO_471001 := rb HO_471001 hb; replace HO_478000 := rb HO_478000 hb; replace HO_478001 := rb HO_478001 hb; replace HO_490000 := rb HO_490000 hb; replace HO_490001 := rb HO_490001 hb; replace BK450 := zb BK450 hb; replace BK451 := zb BK451 hb; replace BK470 := zb BK470 hb; replace BK477 := zb BK477 hb; replace BK489 := zb BK489 hb; replace HB := sb hb; (try clear hb)))
           replace HO_471000 := Aside0.mk (Kd.R_drew HO_471000.out)
           replace HO_471001 := Aside0.mk (Kd.R_drew HO_471001.out)
           replace HO_478000 := Aside0.mk (Kd.R_drew HO_478000.out)
           replace HO_478001 := Aside0.mk (Kd.R_drew HO_478001.out)
           replace HO_490000 := Aside0.mk (Kd.R_drew HO_490000.out)
           replace HO_490001 := Aside0.mk (Kd.R_drew HO_490001.out)
           replace BK450 := Aside0.mk (blk_drew BK450.out)
           replace BK451 := Aside0.mk (blk_drew BK451.out)
           replace BK470 := Aside0.mk (blk_drew BK470.out)
           replace BK477 := Aside0.mk (blk_drew BK477.out)
           replace BK489 := Aside0.mk (blk_drew BK489.out)
           replace HB := Aside0.mk (below_drew1 HB.out)
           refine start_ (n := 11) (S := fun w' => w'.cell? ⟨gb450, 0, none⟩ = some (.slice A0_0 l0_0.length c0_0) ∧ w'.cell? ⟨gb450, 1, none⟩ = some (.slice A0_1 l0_1.length c0_1) ∧ w'.cell? ⟨gb451, 0, none⟩ = some (.int .i64 a1_0) ∧ w'.cell? ⟨gb451, 1, none⟩ = some (.int .i64 a1_1) ∧ w'.cell? ⟨gb451, 2, none⟩ = some (.int .i64 a1_2) ∧ w'.cell? ⟨gb451, 3, none⟩ = some (.int .i64 a1_3)) (ds := []) #[false, false, false, false, false, false, false, false, false, false, false] (by kernel_rfl) rfl rfl ⟨(blk_cell BK450.out 0).trans rfl, (blk_cell BK450.out 1).trans rfl, (blk_cell BK451.out 0).trans rfl, (blk_cell BK451.out 1).trans rfl, (blk_cell BK451.out 2).trans rfl, (blk_cell BK451.out 3).trans rfl⟩ (fun hHeld => ?_); refine with_tabW laws_FnExactLendParts.tab24 laws_FnExactLendParts.bits24 (fun HT_ HW_ => ?_)
           generalize w140.drew = w141 at HO_471000 HO_471001 HO_478000 HO_478001 HO_490000 HO_490001 BK450 BK451 BK470 BK477 BK489 HB hHeld ⊢
           refine take_ (i := 0) (N := some 80) (v := ?_) (a' := ?_) #[true, false, false, false, false, false, false, false, false, false, false] rfl rfl (take_ofW HT_.out HW_.out (by kernel_rfl)) (fun _ _ _ h => h) (Or.inl ⟨by rfl, ?_⟩) hHeld ?_ ?_
           rotate_left
           ·rintro w' ⟨s0, s1, s2, s3, s4, s5⟩
            go_simp
            with_reducible rfl
           rotate_left
           ·simp only [Act.put, List.setIfInBounds_toArray, List.set_cons_zero, List.set_cons_succ, i64_w, i32_w]
            rfl
           refine take_ (i := 2) (N := some 82) (v := ?_) (a' := ?_) #[true, false, true, false, false, false, false, false, false, false, false] rfl rfl (take_ofW HT_.out HW_.out (by kernel_rfl)) (fun _ _ _ h => h) (Or.inl ⟨by rfl, ?_⟩) hHeld ?_ ?_
           rotate_left
           ·rintro w' ⟨s0, s1, s2, s3, s4, s5⟩
            go_simp
            with_reducible rfl
           rotate_left
           ·simp only [Act.put, List.setIfInBounds_toArray, List.set_cons_zero, List.set_cons_succ, i64_w, i32_w]
            rfl
           refine join_ (σ := Value × Value × Value × Value × Nat) 2 #[true, true, true, true, true, true, true, true, true, false, false] (fun s_ => [(81, .agg #[s_.1, s_.2.1]), (83, .agg #[.int .i64 t512, .int .i64 t513, .int .i64 t514, .int .i64 t515]), (84, .tuple #[.agg #[s_.2.2.1, s_.2.2.2.1], .bool t522]), (14, .pointer (some ⟨s_.2.2.2.2, 0, none⟩)), (79, .tuple #[.agg #[s_.2.2.1, s_.2.2.2.1], .bool t522]), (85, .agg #[s_.2.2.1, s_.2.2.2.1]), (86, .bool t522)]) (fun s_ w' => (w'.cell? ⟨gb450, 0, none⟩ = some (.slice A0_0 l0_0.length c0_0) ∧ w'.cell? ⟨gb450, 1, none⟩ = some (.slice A0_1 l0_1.length c0_1) ∧ w'.cell? ⟨gb451, 0, none⟩ = some (.int .i64 a1_0) ∧ w'.cell? ⟨gb451, 1, none⟩ = some (.int .i64 a1_1) ∧ w'.cell? ⟨gb451, 2, none⟩ = some (.int .i64 a1_2) ∧ w'.cell? ⟨gb451, 3, none⟩ = some (.int .i64 a1_3)) ∧ (Kd.R (Kd.int .i64) 3 w' w.heap.size (fun k_ => some k_ ≠ (s_.2.2.1 : Value).ownBlock ∧ some k_ ≠ (.slice Ao30 t463.length co30 : Value).ownBlock ∧ some k_ ≠ (.slice Ao38 t499.length co38 : Value).ownBlock ∧ some k_ ≠ (.slice Ao50 t482.length co50 : Value).ownBlock) s_.1 t506) ∧ (Kd.R k41 41 w' w.heap.size (fun k_ => some k_ ≠ (s_.2.2.2.1 : Value).ownBlock ∧ some k_ ≠ (.slice Ao32 t466.length co32 : Value).ownBlock ∧ some k_ ≠ (.slice Ao43 t500.length co43 : Value).ownBlock ∧ some k_ ≠ (.slice Ao52 t485.length co52 : Value).ownBlock) s_.2.1 t509) ∧ (Kd.R (Kd.int .i64) 3 w' w.heap.size (fun k_ => some k_ ≠ (s_.1 : Value).ownBlock ∧ some k_ ≠ (.slice Ao30 t463.length co30 : Value).ownBlock ∧ some k_ ≠ (.slice Ao38 t499.length co38 : Value).ownBlock ∧ some k_ ≠ (.slice Ao50 t482.length co50 : Value).ownBlock) s_.2.2.1 t516) ∧ (Kd.R k41 41 w' w.heap.size (fun k_ => some k_ ≠ (s_.2.1 : Value).ownBlock ∧ some k_ ≠ (.slice Ao32 t466.length co32 : Value).ownBlock ∧ some k_ ≠ (.slice Ao43 t500.length co43 : Value).ownBlock ∧ some k_ ≠ (.slice Ao52 t485.length co52 : Value).ownBlock) s_.2.2.2.1 t519) ∧ (Kd.R (Kd.int .i64) 3 w' w.heap.size (fun k_ => some k_ ≠ (s_.1 : Value).ownBlock ∧ some k_ ≠ (s_.2.2.1 : Value).ownBlock ∧ some k_ ≠ (.slice Ao38 t499.length co38 : Value).ownBlock ∧ some k_ ≠ (.slice Ao50 t482.length co50 : Value).ownBlock) (.slice Ao30 t463.length co30) t463) ∧ (Kd.R k41 41 w' w.heap.size (fun k_ => some k_ ≠ (s_.2.1 : Value).ownBlock ∧ some k_ ≠ (s_.2.2.2.1 : Value).ownBlock ∧ some k_ ≠ (.slice Ao43 t500.length co43 : Value).ownBlock ∧ some k_ ≠ (.slice Ao52 t485.length co52 : Value).ownBlock) (.slice Ao32 t466.length co32) t466) ∧ (Kd.R (Kd.int .i64) 3 w' w.heap.size (fun k_ => some k_ ≠ (s_.1 : Value).ownBlock ∧ some k_ ≠ (s_.2.2.1 : Value).ownBlock ∧ some k_ ≠ (.slice Ao30 t463.length co30 : Value).ownBlock ∧ some k_ ≠ (.slice Ao50 t482.length co50 : Value).ownBlock) (.slice Ao38 t499.length co38) t499) ∧ (Kd.R k41 41 w' w.heap.size (fun k_ => some k_ ≠ (s_.2.1 : Value).ownBlock ∧ some k_ ≠ (s_.2.2.2.1 : Value).ownBlock ∧ some k_ ≠ (.slice Ao32 t466.length co32 : Value).ownBlock ∧ some k_ ≠ (.slice Ao52 t485.length co52 : Value).ownBlock) (.slice Ao43 t500.length co43) t500) ∧ (Kd.R (Kd.int .i64) 3 w' w.heap.size (fun k_ => some k_ ≠ (s_.1 : Value).ownBlock ∧ some k_ ≠ (s_.2.2.1 : Value).ownBlock ∧ some k_ ≠ (.slice Ao30 t463.length co30 : Value).ownBlock ∧ some k_ ≠ (.slice Ao38 t499.length co38 : Value).ownBlock) (.slice Ao50 t482.length co50) t503) ∧ (Kd.R k41 41 w' w.heap.size (fun k_ => some k_ ≠ (s_.2.1 : Value).ownBlock ∧ some k_ ≠ (s_.2.2.2.1 : Value).ownBlock ∧ some k_ ≠ (.slice Ao32 t466.length co32 : Value).ownBlock ∧ some k_ ≠ (.slice Ao43 t500.length co43 : Value).ownBlock) (.slice Ao52 t485.length co52) t504) ∧ (w'.heap[gb450]? = some (.cells #[.slice A0_0 l0_0.length c0_0, .slice A0_1 l0_1.length c0_1] 25 (0, 0))) ∧ (w'.heap[gb451]? = some (.cells #[.int .i64 a1_0, .int .i64 a1_1, .int .i64 a1_2, .int .i64 a1_3] 39 (0, 0))) ∧ (w'.heap[gb470]? = some (.cells #[.slice Ao30 t463.length co30, .slice Ao32 t466.length co32] 29 (0, 0))) ∧ (w'.heap[gb477]? = some (.cells #[.slice Ao38 t499.length co38, .slice Ao43 t500.length co43] 29 (0, 0))) ∧ (w'.heap[gb489]? = some (.cells #[.slice Ao50 t482.length co50, .slice Ao52 t485.length co52] 29 (0, 0))) ∧ (w'.heap[s_.2.2.2.2]? = some (.cells #[.slice none 0 0, .slice none 0 0] 29 (0, 0))) ∧ (w.heap.size ≤ s_.2.2.2.2) ∧ (w.heap.size ≤ s_.2.2.2.2) ∧ (gb450 ≠ s_.2.2.2.2) ∧ (s_.2.2.2.2 ≠ gb450) ∧ (gb451 ≠ s_.2.2.2.2) ∧ (s_.2.2.2.2 ≠ gb451) ∧ (gb470 ≠ s_.2.2.2.2) ∧ (s_.2.2.2.2 ≠ gb470) ∧ (gb477 ≠ s_.2.2.2.2) ∧ (s_.2.2.2.2 ≠ gb477) ∧ (gb489 ≠ s_.2.2.2.2) ∧ (s_.2.2.2.2 ≠ gb489) ∧ (Below w.heap.size w w')) ?_ ?_
           rotate_left
           ·intro hCont
            refine two_ (i := 1) (j := 8) (Ni := some 81) (Nj := some 14) #[true, true, true, false, false, false, false, false, false, false, false] #[true, false, true, false, false, false, false, false, true, false, false] rfl rfl rfl rfl (two_of HT_.out (by kernel_rfl)) (by decide) (by decide) (fun K hK => ?_) (fun K hK => ?_)
            ·skip
             refine goes_ Try.func9 (by kernel_rfl) rfl #[.agg #[.slice A0_0 l0_0.length c0_0, .slice A0_1 l0_1.length c0_1]] (by rfl) rfl rfl mq ?_
             with_reducible refine (laws_toShop.calls kj80 _ _ l0_0 _ _ l0_1 t506 t509 _ ?s1 ?s2 ?s3 ?s4 A129.out).mono ?_
             (case s1 => exact cq (Kd.C_below HR0_0.out HB.out))
             (case s2 => exact HC0_0.out)
             (case s3 => exact cq (Kd.C_below HR0_1.out HB.out))
             (case s4 => exact HC0_1.out)
             rintro e w142 ⟨v507, v510, rfl, ho0, ho1, hb⟩
             refine ⟨_, rfl, ?_⟩
             have HO508 := Aside0.mk (Kd.R_lower (Kd.R_new' (Kd.R_new' (Kd.R_new' ho0 (Kd.R_lt (rq HO_471000))) (Kd.R_lt (rq HO_478000))) (Kd.R_lt (rq HO_490000))) (below_size bq))
             replace HO_471000 := Aside0.mk (Kd.R_elder' (rq HO_471000) (Kd.R_base ho0) hb)
             replace HO_478000 := Aside0.mk (Kd.R_elder' (rq HO_478000) (Kd.R_base ho0) hb)
             replace HO_490000 := Aside0.mk (Kd.R_elder' (rq HO_490000) (Kd.R_base ho0) hb)
             have HO511 := Aside0.mk (Kd.R_lower (Kd.R_new' (Kd.R_new' (Kd.R_new' ho1 (Kd.R_lt (rq HO_471001))) (Kd.R_lt (rq HO_478001))) (Kd.R_lt (rq HO_490001))) (below_size bq))
             replace HO_471001 := Aside0.mk (Kd.R_elder' (rq HO_471001) (Kd.R_base ho1) hb)
             replace HO_478001 := Aside0.mk (Kd.R_elder' (rq HO_478001) (Kd.R_base ho1) hb)
             replace HO_490001 := Aside0.mk (Kd.R_elder' (rq HO_490001) (Kd.R_base ho1) hb)
             replace BK450 := zb BK450 hb
             replace BK451 := zb BK451 hb
             replace BK470 := zb BK470 hb
             replace BK477 := zb BK477 hb
             replace BK489 := zb BK489 hb
             replace HB := sb hb
             (try clear hb ho0 ho1)
             refine hK.out _ _ ⟨(blk_cell BK450.out 0).trans rfl, (blk_cell BK450.out 1).trans rfl, (blk_cell BK451.out 0).trans rfl, (blk_cell BK451.out 1).trans rfl, (blk_cell BK451.out 2).trans rfl, (blk_cell BK451.out 3).trans rfl⟩ (fun hHeld => ?_)
             clear hK K
             refine norm_ (a' := ?_) ?_ ?_
             rotate_left
             ·show Act.put _ (some 81) _ = _
              simp only [Act.put, List.setIfInBounds_toArray, List.set_cons_zero, List.set_cons_succ, i64_w, i32_w]
              rfl
             refine two_ (i := 3) (j := 8) (Ni := some 83) (Nj := some 14) #[true, true, true, true, false, false, false, false, false, false, false] #[true, true, true, false, false, false, false, false, true, false, false] rfl rfl rfl rfl (two_of HT_.out (by kernel_rfl)) (by decide) (by decide) (fun K hK => ?_) (fun K hK => ?_)
             ·skip
              refine goes_ Try.func17 (by kernel_rfl) rfl #[.agg #[.int .i64 a1_0, .int .i64 a1_1, .int .i64 a1_2, .int .i64 a1_3]] (by rfl) rfl rfl mq ?_
              with_reducible refine (laws_toLoan.calls a1_0 a1_1 a1_2 a1_3 t512 t513 t514 t515 _ A130.out).mono ?_
              rintro e w143 ⟨rfl, hb⟩
              refine ⟨_, rfl, ?_⟩
              replace HO_471000 := rb HO_471000 hb
              replace HO_471001 := rb HO_471001 hb
              replace HO_478000 := rb HO_478000 hb
              replace HO_478001 := rb HO_478001 hb
              replace HO_490000 := rb HO_490000 hb
              replace HO_490001 := rb HO_490001 hb
              replace HO508 := rb HO508 hb
              replace HO511 := rb HO511 hb
              replace BK450 := zb BK450 hb
              replace BK451 := zb BK451 hb
              replace BK470 := zb BK470 hb
              replace BK477 := zb BK477 hb
              replace BK489 := zb BK489 hb
              replace HB := sb hb
              (try clear hb)
              obtain ⟨Ao144, co144, eo144⟩ := Kd.R_slice HO508.out
              (first | subst eo144 | (injection eo144 with f1_ f2_ f3_; have f4_ := f1_.symm; have f5_ := f3_.symm; clear f1_ f2_ f3_; subst f4_; subst f5_))
              obtain ⟨Ao145, co145, eo145⟩ := Kd.R_slice HO511.out
              (first | subst eo145 | (injection eo145 with f1_ f2_ f3_; have f4_ := f1_.symm; have f5_ := f3_.symm; clear f1_ f2_ f3_; subst f4_; subst f5_))
              refine hK.out _ _ ⟨(blk_cell BK450.out 0).trans rfl, (blk_cell BK450.out 1).trans rfl, (blk_cell BK451.out 0).trans rfl, (blk_cell BK451.out 1).trans rfl, (blk_cell BK451.out 2).trans rfl, (blk_cell BK451.out 3).trans rfl⟩ (fun hHeld => ?_)
              clear hK K
              refine norm_ (a' := ?_) ?_ ?_
              rotate_left
              ·show Act.put _ (some 83) _ = _
               simp only [Act.put, List.setIfInBounds_toArray, List.set_cons_zero, List.set_cons_succ, i64_w, i32_w]
               rfl
              refine two_ (i := 4) (j := 8) (Ni := some 84) (Nj := some 14) #[true, true, true, true, true, false, false, false, false, false, false] #[true, true, true, true, false, false, false, false, true, false, false] rfl rfl rfl rfl (two_of HT_.out (by kernel_rfl)) (by decide) (by decide) (fun K hK => ?_) (fun K hK => ?_)
              ·skip
               refine goes_ Try.func18 (by kernel_rfl) rfl #[.agg #[.slice Ao144 t506.length co144, .slice Ao145 t509.length co145], .agg #[.int .i64 t512, .int .i64 t513, .int .i64 t514, .int .i64 t515]] (by rfl) rfl rfl mq ?_
               with_reducible refine (impl_LendParts.calls kj80 _ _ t506 _ _ t509 t512 t513 t514 t515 t516 t519 t522 _ ?s1 ?s2 ?s3 ?s4 A131.out).mono ?_
               (case s1 => exact cr HO508)
               (case s2 => exact r1 HO508)
               (case s3 => exact cr HO511)
               (case s4 => exact r1 HO511)
               rintro e w146 ⟨v517, v520, rfl, ho0, ho1, hb⟩
               refine ⟨_, rfl, ?_⟩
               have HO518 := Aside0.mk (Kd.R_lower (Kd.R_new' (Kd.R_new' (Kd.R_new' (Kd.R_new' ho0 (Kd.R_lt (rq HO_471000))) (Kd.R_lt (rq HO_478000))) (Kd.R_lt (rq HO_490000))) (Kd.R_lt (rq HO508))) (below_size bq))
               replace HO_471000 := Aside0.mk (Kd.R_elder' (rq HO_471000) (Kd.R_base ho0) hb)
               replace HO_478000 := Aside0.mk (Kd.R_elder' (rq HO_478000) (Kd.R_base ho0) hb)
               replace HO_490000 := Aside0.mk (Kd.R_elder' (rq HO_490000) (Kd.R_base ho0) hb)
               replace HO508 := Aside0.mk (Kd.R_elder' (rq HO508) (Kd.R_base ho0) hb)
               have HO521 := Aside0.mk (Kd.R_lower (Kd.R_new' (Kd.R_new' (Kd.R_new' (Kd.R_new' ho1 (Kd.R_lt (rq HO_471001))) (Kd.R_lt (rq HO_478001))) (Kd.R_lt (rq HO_490001))) (Kd.R_lt (rq HO511))) (below_size bq))
               replace HO_471001 := Aside0.mk (Kd.R_elder' (rq HO_471001) (Kd.R_base ho1) hb)
               replace HO_478001 := Aside0.mk (Kd.R_elder' (rq HO_478001) (Kd.R_base ho1) hb)
               replace HO_490001 := Aside0.mk (Kd.R_elder' (rq HO_490001) (Kd.R_base ho1) hb)
               replace HO511 := Aside0.mk (Kd.R_elder' (rq HO511) (Kd.R_base ho1) hb)
               replace BK450 := zb BK450 hb
               replace BK451 := zb BK451 hb
               replace BK470 := zb BK470 hb
               replace BK477 := zb BK477 hb
               replace BK489 := zb BK489 hb
               replace HB := sb hb
               (try clear hb ho0 ho1)
               refine hK.out _ _ ⟨(blk_cell BK450.out 0).trans rfl, (blk_cell BK450.out 1).trans rfl, (blk_cell BK451.out 0).trans rfl, (blk_cell BK451.out 1).trans rfl, (blk_cell BK451.out 2).trans rfl, (blk_cell BK451.out 3).trans rfl⟩ (fun hHeld => ?_)
               clear hK K
               refine norm_ (a' := ?_) ?_ ?_
               rotate_left
               ·show Act.put _ (some 84) _ = _
                simp only [Act.put, List.setIfInBounds_toArray, List.set_cons_zero, List.set_cons_succ, i64_w, i32_w]
                rfl
               refine pure_ (i := 5) (N := some 79) (v := ?_) (a' := ?_) #[true, true, true, true, true, true, false, false, false, false, false] rfl rfl (any_of HT_.out (by kernel_rfl)) (fun _ _ _ h => h) (Or.inl ⟨by rfl, ?_⟩) ?_ ?_
               rotate_left
               ·intro w'
                go_simp
                with_reducible rfl
               rotate_left
               ·simp only [Act.put, List.setIfInBounds_toArray, List.set_cons_zero, List.set_cons_succ, i64_w, i32_w]
                rfl
               refine pure_ (i := 6) (N := some 85) (v := ?_) (a' := ?_) #[true, true, true, true, true, true, true, false, false, false, false] rfl rfl (any_of HT_.out (by kernel_rfl)) (fun _ _ _ h => h) (Or.inl ⟨by rfl, ?_⟩) ?_ ?_
               rotate_left
               ·intro w'
                go_simp
                with_reducible rfl
               rotate_left
               ·simp only [Act.put, List.setIfInBounds_toArray, List.set_cons_zero, List.set_cons_succ, i64_w, i32_w]
                rfl
               refine pure_ (i := 7) (N := some 86) (v := ?_) (a' := ?_) #[true, true, true, true, true, true, true, true, false, false, false] rfl rfl (any_of HT_.out (by kernel_rfl)) (fun _ _ _ h => h) (Or.inl ⟨by rfl, ?_⟩) ?_ ?_
               rotate_left
               ·intro w'
                go_simp
                with_reducible rfl
               rotate_left
               ·simp only [Act.put, List.setIfInBounds_toArray, List.set_cons_zero, List.set_cons_succ, i64_w, i32_w]
                rfl
               refine one_ (i := 8) (N := some 14) #[true, true, true, true, true, true, true, true, true, false, false] rfl rfl (one_of HT_.out (by kernel_rfl)) (by decide) (fun K hK => ?_)
               refine box_step ?hg (N := 14) ?hd (cs := #[.slice none 0 0, .slice none 0 0]) (t := 29) ?hr ?_; (case hd => rfl); (case hg => rfl); (case hr => first | (go_simp; done) | (go_simp; rfl))
               intro gb523 hg w147 hbox hb
               replace HO_471000 := rb HO_471000 hb
               replace HO_471001 := rb HO_471001 hb
               replace HO_478000 := rb HO_478000 hb
               replace HO_478001 := rb HO_478001 hb
               replace HO_490000 := rb HO_490000 hb
               replace HO_490001 := rb HO_490001 hb
               replace HO508 := rb HO508 hb
               replace HO511 := rb HO511 hb
               replace HO518 := rb HO518 hb
               replace HO521 := rb HO521 hb
               have BK523 := Aside0.mk (hbox)
               have GW523 := Aside0.mk (gq hg)
               have GE523 := Aside0.mk (gq hg)
               replace HB := sb hb
               have NB450_523 := nl hg BK450
               have NB523_450 := ng hg BK450
               replace BK450 := zb BK450 hb
               have NB451_523 := nl hg BK451
               have NB523_451 := ng hg BK451
               replace BK451 := zb BK451 hb
               have NB470_523 := nl hg BK470
               have NB523_470 := ng hg BK470
               replace BK470 := zb BK470 hb
               have NB477_523 := nl hg BK477
               have NB523_477 := ng hg BK477
               replace BK477 := zb BK477 hb
               have NB489_523 := nl hg BK489
               have NB523_489 := ng hg BK489
               replace BK489 := zb BK489 hb
               clear hb hbox hg
               refine hK.out _ _ ⟨(blk_cell BK450.out 0).trans rfl, (blk_cell BK450.out 1).trans rfl, (blk_cell BK451.out 0).trans rfl, (blk_cell BK451.out 1).trans rfl, (blk_cell BK451.out 2).trans rfl, (blk_cell BK451.out 3).trans rfl⟩ (fun hHeld => ?_)
               clear hK K
               refine norm_ (a' := ?_) ?_ ?_
               rotate_left
               ·show Act.put _ (some 14) _ = _
                simp only [Act.put, List.setIfInBounds_toArray, List.set_cons_zero, List.set_cons_succ, i64_w, i32_w]
                rfl
               exact norm_ (by simp only [putAll, Act.put, List.setIfInBounds_toArray, List.set_cons_zero, List.set_cons_succ]) (hCont (.slice Ao144 t506.length co144, .slice Ao145 t509.length co145, v517, v520, gb523) _ ⟨hHeld, (by (with_reducible repeat (first | apply Kd.R_alloc | apply Kd.R_drewN | apply Kd.R_drew)); exact Kd.R_mono HO508.out (fun _ hk => ⟨hk.2, ⟨hk.1.1.1.2, ⟨hk.1.1.2, hk.1.2⟩⟩⟩)), (by (with_reducible repeat (first | apply Kd.R_alloc | apply Kd.R_drewN | apply Kd.R_drew)); exact Kd.R_mono HO511.out (fun _ hk => ⟨hk.2, ⟨hk.1.1.1.2, ⟨hk.1.1.2, hk.1.2⟩⟩⟩)), (by (with_reducible repeat (first | apply Kd.R_alloc | apply Kd.R_drewN | apply Kd.R_drew)); exact Kd.R_mono HO518.out (fun _ hk => ⟨hk.2, ⟨hk.1.1.1.2, ⟨hk.1.1.2, hk.1.2⟩⟩⟩)), (by (with_reducible repeat (first | apply Kd.R_alloc | apply Kd.R_drewN | apply Kd.R_drew)); exact Kd.R_mono HO521.out (fun _ hk => ⟨hk.2, ⟨hk.1.1.1.2, ⟨hk.1.1.2, hk.1.2⟩⟩⟩)), (by (with_reducible repeat (first | apply Kd.R_alloc | apply Kd.R_drewN | apply Kd.R_drew)); exact Kd.R_mono HO_471000.out (fun _ hk => ⟨hk.1.2, ⟨hk.2, ⟨hk.1.1.1, hk.1.1.2⟩⟩⟩)), (by (with_reducible repeat (first | apply Kd.R_alloc | apply Kd.R_drewN | apply Kd.R_drew)); exact Kd.R_mono HO_471001.out (fun _ hk => ⟨hk.1.2, ⟨hk.2, ⟨hk.1.1.1, hk.1.1.2⟩⟩⟩)), (by (with_reducible repeat (first | apply Kd.R_alloc | apply Kd.R_drewN | apply Kd.R_drew)); exact Kd.R_mono HO_478000.out (fun _ hk => ⟨hk.1.2, ⟨hk.2, ⟨hk.1.1.1, hk.1.1.2⟩⟩⟩)), (by (with_reducible repeat (first | apply Kd.R_alloc | apply Kd.R_drewN | apply Kd.R_drew)); exact Kd.R_mono HO_478001.out (fun _ hk => ⟨hk.1.2, ⟨hk.2, ⟨hk.1.1.1, hk.1.1.2⟩⟩⟩)), (by (with_reducible repeat (first | apply Kd.R_alloc | apply Kd.R_drewN | apply Kd.R_drew)); exact Kd.R_mono HO_490000.out (fun _ hk => ⟨hk.1.2, ⟨hk.2, ⟨hk.1.1.1, hk.1.1.2⟩⟩⟩)), (by (with_reducible repeat (first | apply Kd.R_alloc | apply Kd.R_drewN | apply Kd.R_drew)); exact Kd.R_mono HO_490001.out (fun _ hk => ⟨hk.1.2, ⟨hk.2, ⟨hk.1.1.1, hk.1.1.2⟩⟩⟩)), (zq BK450), (zq BK451), (zq BK470), (zq BK477), (zq BK489), (zq BK523), GW523.out, GE523.out, NB450_523.out, NB523_450.out, NB451_523.out, NB523_451.out, NB470_523.out, NB523_470.out, NB477_523.out, NB523_477.out, NB489_523.out, NB523_489.out, bq⟩)
              ·skip
               refine box_step ?hg (N := 14) ?hd (cs := #[.slice none 0 0, .slice none 0 0]) (t := 29) ?hr ?_; (case hd => rfl); (case hg => rfl); (case hr => first | (go_simp; done) | (go_simp; rfl))
               intro gb523 hg w144 hbox hb
               replace HO_471000 := rb HO_471000 hb
               replace HO_471001 := rb HO_471001 hb
               replace HO_478000 := rb HO_478000 hb
               replace HO_478001 := rb HO_478001 hb
               replace HO_490000 := rb HO_490000 hb
               replace HO_490001 := rb HO_490001 hb
               replace HO508 := rb HO508 hb
               replace HO511 := rb HO511 hb
               have BK523 := Aside0.mk (hbox)
               have GW523 := Aside0.mk (gq hg)
               have GE523 := Aside0.mk (gq hg)
               replace HB := sb hb
               have NB450_523 := nl hg BK450
               have NB523_450 := ng hg BK450
               replace BK450 := zb BK450 hb
               have NB451_523 := nl hg BK451
               have NB523_451 := ng hg BK451
               replace BK451 := zb BK451 hb
               have NB470_523 := nl hg BK470
               have NB523_470 := ng hg BK470
               replace BK470 := zb BK470 hb
               have NB477_523 := nl hg BK477
               have NB523_477 := ng hg BK477
               replace BK477 := zb BK477 hb
               have NB489_523 := nl hg BK489
               have NB523_489 := ng hg BK489
               replace BK489 := zb BK489 hb
               clear hb hbox hg
               obtain ⟨Ao145, co145, eo145⟩ := Kd.R_slice HO508.out
               (first | subst eo145 | (injection eo145 with f1_ f2_ f3_; have f4_ := f1_.symm; have f5_ := f3_.symm; clear f1_ f2_ f3_; subst f4_; subst f5_))
               obtain ⟨Ao146, co146, eo146⟩ := Kd.R_slice HO511.out
               (first | subst eo146 | (injection eo146 with f1_ f2_ f3_; have f4_ := f1_.symm; have f5_ := f3_.symm; clear f1_ f2_ f3_; subst f4_; subst f5_))
               refine hK.out _ _ ⟨(blk_cell BK450.out 0).trans rfl, (blk_cell BK450.out 1).trans rfl, (blk_cell BK451.out 0).trans rfl, (blk_cell BK451.out 1).trans rfl, (blk_cell BK451.out 2).trans rfl, (blk_cell BK451.out 3).trans rfl⟩ (fun hHeld => ?_)
               clear hK K
               refine norm_ (a' := ?_) ?_ ?_
               rotate_left
               ·show Act.put _ (some 14) _ = _
                simp only [Act.put, List.setIfInBounds_toArray, List.set_cons_zero, List.set_cons_succ, i64_w, i32_w]
                rfl
               refine one_ (i := 4) (N := some 84) #[true, true, true, true, true, false, false, false, true, false, false] rfl rfl (one_of HT_.out (by kernel_rfl)) (by decide) (fun K hK => ?_)
               refine goes_ Try.func18 (by kernel_rfl) rfl #[.agg #[.slice Ao145 t506.length co145, .slice Ao146 t509.length co146], .agg #[.int .i64 t512, .int .i64 t513, .int .i64 t514, .int .i64 t515]] (by rfl) rfl rfl mq ?_
               with_reducible refine (impl_LendParts.calls kj80 _ _ t506 _ _ t509 t512 t513 t514 t515 t516 t519 t522 _ ?s1 ?s2 ?s3 ?s4 A131.out).mono ?_
               (case s1 => exact cr HO508)
               (case s2 => exact r1 HO508)
               (case s3 => exact cr HO511)
               (case s4 => exact r1 HO511)
               rintro e w147 ⟨v517, v520, rfl, ho0, ho1, hb⟩
               refine ⟨_, rfl, ?_⟩
               have HO518 := Aside0.mk (Kd.R_lower (Kd.R_new' (Kd.R_new' (Kd.R_new' (Kd.R_new' ho0 (Kd.R_lt (rq HO_471000))) (Kd.R_lt (rq HO_478000))) (Kd.R_lt (rq HO_490000))) (Kd.R_lt (rq HO508))) (below_size bq))
               replace HO_471000 := Aside0.mk (Kd.R_elder' (rq HO_471000) (Kd.R_base ho0) hb)
               replace HO_478000 := Aside0.mk (Kd.R_elder' (rq HO_478000) (Kd.R_base ho0) hb)
               replace HO_490000 := Aside0.mk (Kd.R_elder' (rq HO_490000) (Kd.R_base ho0) hb)
               replace HO508 := Aside0.mk (Kd.R_elder' (rq HO508) (Kd.R_base ho0) hb)
               have HO521 := Aside0.mk (Kd.R_lower (Kd.R_new' (Kd.R_new' (Kd.R_new' (Kd.R_new' ho1 (Kd.R_lt (rq HO_471001))) (Kd.R_lt (rq HO_478001))) (Kd.R_lt (rq HO_490001))) (Kd.R_lt (rq HO511))) (below_size bq))
               replace HO_471001 := Aside0.mk (Kd.R_elder' (rq HO_471001) (Kd.R_base ho1) hb)
               replace HO_478001 := Aside0.mk (Kd.R_elder' (rq HO_478001) (Kd.R_base ho1) hb)
               replace HO_490001 := Aside0.mk (Kd.R_elder' (rq HO_490001) (Kd.R_base ho1) hb)
               replace HO511 := Aside0.mk (Kd.R_elder' (rq HO511) (Kd.R_base ho1) hb)
               replace BK450 := zb BK450 hb
               replace BK451 := zb BK451 hb
               replace BK470 := zb BK470 hb
               replace BK477 := zb BK477 hb
               replace BK489 := zb BK489 hb
               replace BK523 := zb BK523 hb
               replace HB := sb hb
               (try clear hb ho0 ho1)
               refine hK.out _ _ ⟨(blk_cell BK450.out 0).trans rfl, (blk_cell BK450.out 1).trans rfl, (blk_cell BK451.out 0).trans rfl, (blk_cell BK451.out 1).trans rfl, (blk_cell BK451.out 2).trans rfl, (blk_cell BK451.out 3).trans rfl⟩ (fun hHeld => ?_)
               clear hK K
               refine norm_ (a' := ?_) ?_ ?_
               rotate_left
               ·show Act.put _ (some 84) _ = _
                simp only [Act.put, List.setIfInBounds_toArray, List.set_cons_zero, List.set_cons_succ, i64_w, i32_w]
                rfl
               refine pure_ (i := 5) (N := some 79) (v := ?_) (a' := ?_) #[true, true, true, true, true, true, false, false, true, false, false] rfl rfl (any_of HT_.out (by kernel_rfl)) (fun _ _ _ h => h) (Or.inl ⟨by rfl, ?_⟩) ?_ ?_
               rotate_left
               ·intro w'
                go_simp
                with_reducible rfl
               rotate_left
               ·simp only [Act.put, List.setIfInBounds_toArray, List.set_cons_zero, List.set_cons_succ, i64_w, i32_w]
                rfl
               refine pure_ (i := 6) (N := some 85) (v := ?_) (a' := ?_) #[true, true, true, true, true, true, true, false, true, false, false] rfl rfl (any_of HT_.out (by kernel_rfl)) (fun _ _ _ h => h) (Or.inl ⟨by rfl, ?_⟩) ?_ ?_
               rotate_left
               ·intro w'
                go_simp
                with_reducible rfl
               rotate_left
               ·simp only [Act.put, List.setIfInBounds_toArray, List.set_cons_zero, List.set_cons_succ, i64_w, i32_w]
                rfl
               refine pure_ (i := 7) (N := some 86) (v := ?_) (a' := ?_) #[true, true, true, true, true, true, true, true, true, false, false] rfl rfl (any_of HT_.out (by kernel_rfl)) (fun _ _ _ h => h) (Or.inl ⟨by rfl, ?_⟩) ?_ ?_
               rotate_left
               ·intro w'
                go_simp
                with_reducible rfl
               rotate_left
               ·simp only [Act.put, List.setIfInBounds_toArray, List.set_cons_zero, List.set_cons_succ, i64_w, i32_w]
                rfl
               exact norm_ (by simp only [putAll, Act.put, List.setIfInBounds_toArray, List.set_cons_zero, List.set_cons_succ]) (hCont (.slice Ao145 t506.length co145, .slice Ao146 t509.length co146, v517, v520, gb523) _ ⟨hHeld, (by (with_reducible repeat (first | apply Kd.R_alloc | apply Kd.R_drewN | apply Kd.R_drew)); exact Kd.R_mono HO508.out (fun _ hk => ⟨hk.2, ⟨hk.1.1.1.2, ⟨hk.1.1.2, hk.1.2⟩⟩⟩)), (by (with_reducible repeat (first | apply Kd.R_alloc | apply Kd.R_drewN | apply Kd.R_drew)); exact Kd.R_mono HO511.out (fun _ hk => ⟨hk.2, ⟨hk.1.1.1.2, ⟨hk.1.1.2, hk.1.2⟩⟩⟩)), (by (with_reducible repeat (first | apply Kd.R_alloc | apply Kd.R_drewN | apply Kd.R_drew)); exact Kd.R_mono HO518.out (fun _ hk => ⟨hk.2, ⟨hk.1.1.1.2, ⟨hk.1.1.2, hk.1.2⟩⟩⟩)), (by (with_reducible repeat (first | apply Kd.R_alloc | apply Kd.R_drewN | apply Kd.R_drew)); exact Kd.R_mono HO521.out (fun _ hk => ⟨hk.2, ⟨hk.1.1.1.2, ⟨hk.1.1.2, hk.1.2⟩⟩⟩)), (by (with_reducible repeat (first | apply Kd.R_alloc | apply Kd.R_drewN | apply Kd.R_drew)); exact Kd.R_mono HO_471000.out (fun _ hk => ⟨hk.1.2, ⟨hk.2, ⟨hk.1.1.1, hk.1.1.2⟩⟩⟩)), (by (with_reducible repeat (first | apply Kd.R_alloc | apply Kd.R_drewN | apply Kd.R_drew)); exact Kd.R_mono HO_471001.out (fun _ hk => ⟨hk.1.2, ⟨hk.2, ⟨hk.1.1.1, hk.1.1.2⟩⟩⟩)), (by (with_reducible repeat (first | apply Kd.R_alloc | apply Kd.R_drewN | apply Kd.R_drew)); exact Kd.R_mono HO_478000.out (fun _ hk => ⟨hk.1.2, ⟨hk.2, ⟨hk.1.1.1, hk.1.1.2⟩⟩⟩)), (by (with_reducible repeat (first | apply Kd.R_alloc | apply Kd.R_drewN | apply Kd.R_drew)); exact Kd.R_mono HO_478001.out (fun _ hk => ⟨hk.1.2, ⟨hk.2, ⟨hk.1.1.1, hk.1.1.2⟩⟩⟩)), (by (with_reducible repeat (first | apply Kd.R_alloc | apply Kd.R_drewN | apply Kd.R_drew)); exact Kd.R_mono HO_490000.out (fun _ hk => ⟨hk.1.2, ⟨hk.2, ⟨hk.1.1.1, hk.1.1.2⟩⟩⟩)), (by (with_reducible repeat (first | apply Kd.R_alloc | apply Kd.R_drewN | apply Kd.R_drew)); exact Kd.R_mono HO_490001.out (fun _ hk => ⟨hk.1.2, ⟨hk.2, ⟨hk.1.1.1, hk.1.1.2⟩⟩⟩)), (zq BK450), (zq BK451), (zq BK470), (zq BK477), (zq BK489), (zq BK523), GW523.out, GE523.out, NB450_523.out, NB523_450.out, NB451_523.out, NB523_451.out, NB470_523.out, NB523_470.out, NB477_523.out, NB523_477.out, NB489_523.out, NB523_489.out, bq⟩)
             ·skip
              refine box_step ?hg (N := 14) ?hd (cs := #[.slice none 0 0, .slice none 0 0]) (t := 29) ?hr ?_; (case hd => rfl); (case hg => rfl); (case hr => first | (go_simp; done) | (go_simp; rfl))
              intro gb523 hg w143 hbox hb
              replace HO_471000 := rb HO_471000 hb
              replace HO_471001 := rb HO_471001 hb
              replace HO_478000 := rb HO_478000 hb
              replace HO_478001 := rb HO_478001 hb
              replace HO_490000 := rb HO_490000 hb
              replace HO_490001 := rb HO_490001 hb
              replace HO508 := rb HO508 hb
              replace HO511 := rb HO511 hb
              have BK523 := Aside0.mk (hbox)
              have GW523 := Aside0.mk (gq hg)
              have GE523 := Aside0.mk (gq hg)
              replace HB := sb hb
              have NB450_523 := nl hg BK450
              have NB523_450 := ng hg BK450
              replace BK450 := zb BK450 hb
              have NB451_523 := nl hg BK451
              have NB523_451 := ng hg BK451
              replace BK451 := zb BK451 hb
              have NB470_523 := nl hg BK470
              have NB523_470 := ng hg BK470
              replace BK470 := zb BK470 hb
              have NB477_523 := nl hg BK477
              have NB523_477 := ng hg BK477
              replace BK477 := zb BK477 hb
              have NB489_523 := nl hg BK489
              have NB523_489 := ng hg BK489
              replace BK489 := zb BK489 hb
              clear hb hbox hg
              refine hK.out _ _ ⟨(blk_cell BK450.out 0).trans rfl, (blk_cell BK450.out 1).trans rfl, (blk_cell BK451.out 0).trans rfl, (blk_cell BK451.out 1).trans rfl, (blk_cell BK451.out 2).trans rfl, (blk_cell BK451.out 3).trans rfl⟩ (fun hHeld => ?_)
              clear hK K
              refine norm_ (a' := ?_) ?_ ?_
              rotate_left
              ·show Act.put _ (some 14) _ = _
               simp only [Act.put, List.setIfInBounds_toArray, List.set_cons_zero, List.set_cons_succ, i64_w, i32_w]
               rfl
              refine one_ (i := 3) (N := some 83) #[true, true, true, true, false, false, false, false, true, false, false] rfl rfl (one_of HT_.out (by kernel_rfl)) (by decide) (fun K hK => ?_)
              refine goes_ Try.func17 (by kernel_rfl) rfl #[.agg #[.int .i64 a1_0, .int .i64 a1_1, .int .i64 a1_2, .int .i64 a1_3]] (by rfl) rfl rfl mq ?_
              with_reducible refine (laws_toLoan.calls a1_0 a1_1 a1_2 a1_3 t512 t513 t514 t515 _ A130.out).mono ?_
              rintro e w144 ⟨rfl, hb⟩
              refine ⟨_, rfl, ?_⟩
              replace HO_471000 := rb HO_471000 hb
              replace HO_471001 := rb HO_471001 hb
              replace HO_478000 := rb HO_478000 hb
              replace HO_478001 := rb HO_478001 hb
              replace HO_490000 := rb HO_490000 hb
              replace HO_490001 := rb HO_490001 hb
              replace HO508 := rb HO508 hb
              replace HO511 := rb HO511 hb
              replace BK450 := zb BK450 hb
              replace BK451 := zb BK451 hb
              replace BK470 := zb BK470 hb
              replace BK477 := zb BK477 hb
              replace BK489 := zb BK489 hb
              replace BK523 := zb BK523 hb
              replace HB := sb hb
              (try clear hb)
              obtain ⟨Ao145, co145, eo145⟩ := Kd.R_slice HO508.out
              (first | subst eo145 | (injection eo145 with f1_ f2_ f3_; have f4_ := f1_.symm; have f5_ := f3_.symm; clear f1_ f2_ f3_; subst f4_; subst f5_))
              obtain ⟨Ao146, co146, eo146⟩ := Kd.R_slice HO511.out
              (first | subst eo146 | (injection eo146 with f1_ f2_ f3_; have f4_ := f1_.symm; have f5_ := f3_.symm; clear f1_ f2_ f3_; subst f4_; subst f5_))
              refine hK.out _ _ ⟨(blk_cell BK450.out 0).trans rfl, (blk_cell BK450.out 1).trans rfl, (blk_cell BK451.out 0).trans rfl, (blk_cell BK451.out 1).trans rfl, (blk_cell BK451.out 2).trans rfl, (blk_cell BK451.out 3).trans rfl⟩ (fun hHeld => ?_)
              clear hK K
              refine norm_ (a' := ?_) ?_ ?_
              rotate_left
              ·show Act.put _ (some 83) _ = _
               simp only [Act.put, List.setIfInBounds_toArray, List.set_cons_zero, List.set_cons_succ, i64_w, i32_w]
               rfl
              refine one_ (i := 4) (N := some 84) #[true, true, true, true, true, false, false, false, true, false, false] rfl rfl (one_of HT_.out (by kernel_rfl)) (by decide) (fun K hK => ?_)
              refine goes_ Try.func18 (by kernel_rfl) rfl #[.agg #[.slice Ao145 t506.length co145, .slice Ao146 t509.length co146], .agg #[.int .i64 t512, .int .i64 t513, .int .i64 t514, .int .i64 t515]] (by rfl) rfl rfl mq ?_
              with_reducible refine (impl_LendParts.calls kj80 _ _ t506 _ _ t509 t512 t513 t514 t515 t516 t519 t522 _ ?s1 ?s2 ?s3 ?s4 A131.out).mono ?_
              (case s1 => exact cr HO508)
              (case s2 => exact r1 HO508)
              (case s3 => exact cr HO511)
              (case s4 => exact r1 HO511)
              rintro e w147 ⟨v517, v520, rfl, ho0, ho1, hb⟩
              refine ⟨_, rfl, ?_⟩
              have HO518 := Aside0.mk (Kd.R_lower (Kd.R_new' (Kd.R_new' (Kd.R_new' (Kd.R_new' ho0 (Kd.R_lt (rq HO_471000))) (Kd.R_lt (rq HO_478000))) (Kd.R_lt (rq HO_490000))) (Kd.R_lt (rq HO508))) (below_size bq))
              replace HO_471000 := Aside0.mk (Kd.R_elder' (rq HO_471000) (Kd.R_base ho0) hb)
              replace HO_478000 := Aside0.mk (Kd.R_elder' (rq HO_478000) (Kd.R_base ho0) hb)
              replace HO_490000 := Aside0.mk (Kd.R_elder' (rq HO_490000) (Kd.R_base ho0) hb)
              replace HO508 := Aside0.mk (Kd.R_elder' (rq HO508) (Kd.R_base ho0) hb)
              have HO521 := Aside0.mk (Kd.R_lower (Kd.R_new' (Kd.R_new' (Kd.R_new' (Kd.R_new' ho1 (Kd.R_lt (rq HO_471001))) (Kd.R_lt (rq HO_478001))) (Kd.R_lt (rq HO_490001))) (Kd.R_lt (rq HO511))) (below_size bq))
              replace HO_471001 := Aside0.mk (Kd.R_elder' (rq HO_471001) (Kd.R_base ho1) hb)
              replace HO_478001 := Aside0.mk (Kd.R_elder' (rq HO_478001) (Kd.R_base ho1) hb)
              replace HO_490001 := Aside0.mk (Kd.R_elder' (rq HO_490001) (Kd.R_base ho1) hb)
              replace HO511 := Aside0.mk (Kd.R_elder' (rq HO511) (Kd.R_base ho1) hb)
              replace BK450 := zb BK450 hb
              replace BK451 := zb BK451 hb
              replace BK470 := zb BK470 hb
              replace BK477 := zb BK477 hb
              replace BK489 := zb BK489 hb
              replace BK523 := zb BK523 hb
              replace HB := sb hb
              (try clear hb ho0 ho1)
              refine hK.out _ _ ⟨(blk_cell BK450.out 0).trans rfl, (blk_cell BK450.out 1).trans rfl, (blk_cell BK451.out 0).trans rfl, (blk_cell BK451.out 1).trans rfl, (blk_cell BK451.out 2).trans rfl, (blk_cell BK451.out 3).trans rfl⟩ (fun hHeld => ?_)
              clear hK K
              refine norm_ (a' := ?_) ?_ ?_
              rotate_left
              ·show Act.put _ (some 84) _ = _
               simp only [Act.put, List.setIfInBounds_toArray, List.set_cons_zero, List.set_cons_succ, i64_w, i32_w]
               rfl
              refine pure_ (i := 5) (N := some 79) (v := ?_) (a' := ?_) #[true, true, true, true, true, true, false, false, true, false, false] rfl rfl (any_of HT_.out (by kernel_rfl)) (fun _ _ _ h => h) (Or.inl ⟨by rfl, ?_⟩) ?_ ?_
              rotate_left
              ·intro w'
               go_simp
               with_reducible rfl
              rotate_left
              ·simp only [Act.put, List.setIfInBounds_toArray, List.set_cons_zero, List.set_cons_succ, i64_w, i32_w]
               rfl
              refine pure_ (i := 6) (N := some 85) (v := ?_) (a' := ?_) #[true, true, true, true, true, true, true, false, true, false, false] rfl rfl (any_of HT_.out (by kernel_rfl)) (fun _ _ _ h => h) (Or.inl ⟨by rfl, ?_⟩) ?_ ?_
              rotate_left
              ·intro w'
               go_simp
               with_reducible rfl
              rotate_left
              ·simp only [Act.put, List.setIfInBounds_toArray, List.set_cons_zero, List.set_cons_succ, i64_w, i32_w]
               rfl
              refine pure_ (i := 7) (N := some 86) (v := ?_) (a' := ?_) #[true, true, true, true, true, true, true, true, true, false, false] rfl rfl (any_of HT_.out (by kernel_rfl)) (fun _ _ _ h => h) (Or.inl ⟨by rfl, ?_⟩) ?_ ?_
              rotate_left
              ·intro w'
               go_simp
               with_reducible rfl
              rotate_left
              ·simp only [Act.put, List.setIfInBounds_toArray, List.set_cons_zero, List.set_cons_succ, i64_w, i32_w]
               rfl
              exact norm_ (by simp only [putAll, Act.put, List.setIfInBounds_toArray, List.set_cons_zero, List.set_cons_succ]) (hCont (.slice Ao145 t506.length co145, .slice Ao146 t509.length co146, v517, v520, gb523) _ ⟨hHeld, (by (with_reducible repeat (first | apply Kd.R_alloc | apply Kd.R_drewN | apply Kd.R_drew)); exact Kd.R_mono HO508.out (fun _ hk => ⟨hk.2, ⟨hk.1.1.1.2, ⟨hk.1.1.2, hk.1.2⟩⟩⟩)), (by (with_reducible repeat (first | apply Kd.R_alloc | apply Kd.R_drewN | apply Kd.R_drew)); exact Kd.R_mono HO511.out (fun _ hk => ⟨hk.2, ⟨hk.1.1.1.2, ⟨hk.1.1.2, hk.1.2⟩⟩⟩)), (by (with_reducible repeat (first | apply Kd.R_alloc | apply Kd.R_drewN | apply Kd.R_drew)); exact Kd.R_mono HO518.out (fun _ hk => ⟨hk.2, ⟨hk.1.1.1.2, ⟨hk.1.1.2, hk.1.2⟩⟩⟩)), (by (with_reducible repeat (first | apply Kd.R_alloc | apply Kd.R_drewN | apply Kd.R_drew)); exact Kd.R_mono HO521.out (fun _ hk => ⟨hk.2, ⟨hk.1.1.1.2, ⟨hk.1.1.2, hk.1.2⟩⟩⟩)), (by (with_reducible repeat (first | apply Kd.R_alloc | apply Kd.R_drewN | apply Kd.R_drew)); exact Kd.R_mono HO_471000.out (fun _ hk => ⟨hk.1.2, ⟨hk.2, ⟨hk.1.1.1, hk.1.1.2⟩⟩⟩)), (by (with_reducible repeat (first | apply Kd.R_alloc | apply Kd.R_drewN | apply Kd.R_drew)); exact Kd.R_mono HO_471001.out (fun _ hk => ⟨hk.1.2, ⟨hk.2, ⟨hk.1.1.1, hk.1.1.2⟩⟩⟩)), (by (with_reducible repeat (first | apply Kd.R_alloc | apply Kd.R_drewN | apply Kd.R_drew)); exact Kd.R_mono HO_478000.out (fun _ hk => ⟨hk.1.2, ⟨hk.2, ⟨hk.1.1.1, hk.1.1.2⟩⟩⟩)), (by (with_reducible repeat (first | apply Kd.R_alloc | apply Kd.R_drewN | apply Kd.R_drew)); exact Kd.R_mono HO_478001.out (fun _ hk => ⟨hk.1.2, ⟨hk.2, ⟨hk.1.1.1, hk.1.1.2⟩⟩⟩)), (by (with_reducible repeat (first | apply Kd.R_alloc | apply Kd.R_drewN | apply Kd.R_drew)); exact Kd.R_mono HO_490000.out (fun _ hk => ⟨hk.1.2, ⟨hk.2, ⟨hk.1.1.1, hk.1.1.2⟩⟩⟩)), (by (with_reducible repeat (first | apply Kd.R_alloc | apply Kd.R_drewN | apply Kd.R_drew)); exact Kd.R_mono HO_490001.out (fun _ hk => ⟨hk.1.2, ⟨hk.2, ⟨hk.1.1.1, hk.1.1.2⟩⟩⟩)), (zq BK450), (zq BK451), (zq BK470), (zq BK477), (zq BK489), (zq BK523), GW523.out, GE523.out, NB450_523.out, NB523_450.out, NB451_523.out, NB523_451.out, NB470_523.out, NB523_470.out, NB477_523.out, NB523_477.out, NB489_523.out, NB523_489.out, bq⟩)
            ·skip
             refine box_step ?hg (N := 14) ?hd (cs := #[.slice none 0 0, .slice none 0 0]) (t := 29) ?hr ?_; (case hd => rfl); (case hg => rfl); (case hr => first | (go_simp; done) | (go_simp; rfl))
             intro gb523 hg w142 hbox hb
             replace HO_471000 := rb HO_471000 hb
             replace HO_471001 := rb HO_471001 hb
             replace HO_478000 := rb HO_478000 hb
             replace HO_478001 := rb HO_478001 hb
             replace HO_490000 := rb HO_490000 hb
             replace HO_490001 := rb HO_490001 hb
             have BK523 := Aside0.mk (hbox)
             have GW523 := Aside0.mk (gq hg)
             have GE523 := Aside0.mk (gq hg)
             replace HB := sb hb
             have NB450_523 := nl hg BK450
             have NB523_450 := ng hg BK450
             replace BK450 := zb BK450 hb
             have NB451_523 := nl hg BK451
             have NB523_451 := ng hg BK451
             replace BK451 := zb BK451 hb
             have NB470_523 := nl hg BK470
             have NB523_470 := ng hg BK470
             replace BK470 := zb BK470 hb
             have NB477_523 := nl hg BK477
             have NB523_477 := ng hg BK477
             replace BK477 := zb BK477 hb
             have NB489_523 := nl hg BK489
             have NB523_489 := ng hg BK489
             replace BK489 := zb BK489 hb
             clear hb hbox hg
             refine hK.out _ _ ⟨(blk_cell BK450.out 0).trans rfl, (blk_cell BK450.out 1).trans rfl, (blk_cell BK451.out 0).trans rfl, (blk_cell BK451.out 1).trans rfl, (blk_cell BK451.out 2).trans rfl, (blk_cell BK451.out 3).trans rfl⟩ (fun hHeld => ?_)
             clear hK K
             refine norm_ (a' := ?_) ?_ ?_
             rotate_left
             ·show Act.put _ (some 14) _ = _
              simp only [Act.put, List.setIfInBounds_toArray, List.set_cons_zero, List.set_cons_succ, i64_w, i32_w]
              rfl
             refine one_ (i := 1) (N := some 81) #[true, true, true, false, false, false, false, false, true, false, false] rfl rfl (one_of HT_.out (by kernel_rfl)) (by decide) (fun K hK => ?_)
             refine goes_ Try.func9 (by kernel_rfl) rfl #[.agg #[.slice A0_0 l0_0.length c0_0, .slice A0_1 l0_1.length c0_1]] (by rfl) rfl rfl mq ?_
             with_reducible refine (laws_toShop.calls kj80 _ _ l0_0 _ _ l0_1 t506 t509 _ ?s1 ?s2 ?s3 ?s4 A129.out).mono ?_
             (case s1 => exact cq (Kd.C_below HR0_0.out HB.out))
             (case s2 => exact HC0_0.out)
             (case s3 => exact cq (Kd.C_below HR0_1.out HB.out))
             (case s4 => exact HC0_1.out)
             rintro e w143 ⟨v507, v510, rfl, ho0, ho1, hb⟩
             refine ⟨_, rfl, ?_⟩
             have HO508 := Aside0.mk (Kd.R_lower (Kd.R_new' (Kd.R_new' (Kd.R_new' ho0 (Kd.R_lt (rq HO_471000))) (Kd.R_lt (rq HO_478000))) (Kd.R_lt (rq HO_490000))) (below_size bq))
             replace HO_471000 := Aside0.mk (Kd.R_elder' (rq HO_471000) (Kd.R_base ho0) hb)
             replace HO_478000 := Aside0.mk (Kd.R_elder' (rq HO_478000) (Kd.R_base ho0) hb)
             replace HO_490000 := Aside0.mk (Kd.R_elder' (rq HO_490000) (Kd.R_base ho0) hb)
             have HO511 := Aside0.mk (Kd.R_lower (Kd.R_new' (Kd.R_new' (Kd.R_new' ho1 (Kd.R_lt (rq HO_471001))) (Kd.R_lt (rq HO_478001))) (Kd.R_lt (rq HO_490001))) (below_size bq))
             replace HO_471001 := Aside0.mk (Kd.R_elder' (rq HO_471001) (Kd.R_base ho1) hb)
             replace HO_478001 := Aside0.mk (Kd.R_elder' (rq HO_478001) (Kd.R_base ho1) hb)
             replace HO_490001 := Aside0.mk (Kd.R_elder' (rq HO_490001) (Kd.R_base ho1) hb)
             replace BK450 := zb BK450 hb
             replace BK451 := zb BK451 hb
             replace BK470 := zb BK470 hb
             replace BK477 := zb BK477 hb
             replace BK489 := zb BK489 hb
             replace BK523 := zb BK523 hb
             replace HB := sb hb
             (try clear hb ho0 ho1)
             refine hK.out _ _ ⟨(blk_cell BK450.out 0).trans rfl, (blk_cell BK450.out 1).trans rfl, (blk_cell BK451.out 0).trans rfl, (blk_cell BK451.out 1).trans rfl, (blk_cell BK451.out 2).trans rfl, (blk_cell BK451.out 3).trans rfl⟩ (fun hHeld => ?_)
             clear hK K
             refine norm_ (a' := ?_) ?_ ?_
             rotate_left
             ·show Act.put _ (some 81) _ = _
              simp only [Act.put, List.setIfInBounds_toArray, List.set_cons_zero, List.set_cons_succ, i64_w, i32_w]
              rfl
             refine one_ (i := 3) (N := some 83) #[true, true, true, true, false, false, false, false, true, false, false] rfl rfl (one_of HT_.out (by kernel_rfl)) (by decide) (fun K hK => ?_)
             refine goes_ Try.func17 (by kernel_rfl) rfl #[.agg #[.int .i64 a1_0, .int .i64 a1_1, .int .i64 a1_2, .int .i64 a1_3]] (by rfl) rfl rfl mq ?_
             with_reducible refine (laws_toLoan.calls a1_0 a1_1 a1_2 a1_3 t512 t513 t514 t515 _ A130.out).mono ?_
             rintro e w144 ⟨rfl, hb⟩
             refine ⟨_, rfl, ?_⟩
             replace HO_471000 := rb HO_471000 hb
             replace HO_471001 := rb HO_471001 hb
             replace HO_478000 := rb HO_478000 hb
             replace HO_478001 := rb HO_478001 hb
             replace HO_490000 := rb HO_490000 hb
             replace HO_490001 := rb HO_490001 hb
             replace HO508 := rb HO508 hb
             replace HO511 := rb HO511 hb
             replace BK450 := zb BK450 hb
             replace BK451 := zb BK451 hb
             replace BK470 := zb BK470 hb
             replace BK477 := zb BK477 hb
             replace BK489 := zb BK489 hb
             replace BK523 := zb BK523 hb
             replace HB := sb hb
             (try clear hb)
             obtain ⟨Ao145, co145, eo145⟩ := Kd.R_slice HO508.out
             (first | subst eo145 | (injection eo145 with f1_ f2_ f3_; have f4_ := f1_.symm; have f5_ := f3_.symm; clear f1_ f2_ f3_; subst f4_; subst f5_))
             obtain ⟨Ao146, co146, eo146⟩ := Kd.R_slice HO511.out
             (first | subst eo146 | (injection eo146 with f1_ f2_ f3_; have f4_ := f1_.symm; have f5_ := f3_.symm; clear f1_ f2_ f3_; subst f4_; subst f5_))
             refine hK.out _ _ ⟨(blk_cell BK450.out 0).trans rfl, (blk_cell BK450.out 1).trans rfl, (blk_cell BK451.out 0).trans rfl, (blk_cell BK451.out 1).trans rfl, (blk_cell BK451.out 2).trans rfl, (blk_cell BK451.out 3).trans rfl⟩ (fun hHeld => ?_)
             clear hK K
             refine norm_ (a' := ?_) ?_ ?_
             rotate_left
             ·show Act.put _ (some 83) _ = _
              simp only [Act.put, List.setIfInBounds_toArray, List.set_cons_zero, List.set_cons_succ, i64_w, i32_w]
              rfl
             refine one_ (i := 4) (N := some 84) #[true, true, true, true, true, false, false, false, true, false, false] rfl rfl (one_of HT_.out (by kernel_rfl)) (by decide) (fun K hK => ?_)
             refine goes_ Try.func18 (by kernel_rfl) rfl #[.agg #[.slice Ao145 t506.length co145, .slice Ao146 t509.length co146], .agg #[.int .i64 t512, .int .i64 t513, .int .i64 t514, .int .i64 t515]] (by rfl) rfl rfl mq ?_
             with_reducible refine (impl_LendParts.calls kj80 _ _ t506 _ _ t509 t512 t513 t514 t515 t516 t519 t522 _ ?s1 ?s2 ?s3 ?s4 A131.out).mono ?_
             (case s1 => exact cr HO508)
             (case s2 => exact r1 HO508)
             (case s3 => exact cr HO511)
             (case s4 => exact r1 HO511)
             rintro e w147 ⟨v517, v520, rfl, ho0, ho1, hb⟩
             refine ⟨_, rfl, ?_⟩
             have HO518 := Aside0.mk (Kd.R_lower (Kd.R_new' (Kd.R_new' (Kd.R_new' (Kd.R_new' ho0 (Kd.R_lt (rq HO_471000))) (Kd.R_lt (rq HO_478000))) (Kd.R_lt (rq HO_490000))) (Kd.R_lt (rq HO508))) (below_size bq))
             replace HO_471000 := Aside0.mk (Kd.R_elder' (rq HO_471000) (Kd.R_base ho0) hb)
             replace HO_478000 := Aside0.mk (Kd.R_elder' (rq HO_478000) (Kd.R_base ho0) hb)
             replace HO_490000 := Aside0.mk (Kd.R_elder' (rq HO_490000) (Kd.R_base ho0) hb)
             replace HO508 := Aside0.mk (Kd.R_elder' (rq HO508) (Kd.R_base ho0) hb)
             have HO521 := Aside0.mk (Kd.R_lower (Kd.R_new' (Kd.R_new' (Kd.R_new' (Kd.R_new' ho1 (Kd.R_lt (rq HO_471001))) (Kd.R_lt (rq HO_478001))) (Kd.R_lt (rq HO_490001))) (Kd.R_lt (rq HO511))) (below_size bq))
             replace HO_471001 := Aside0.mk (Kd.R_elder' (rq HO_471001) (Kd.R_base ho1) hb)
             replace HO_478001 := Aside0.mk (Kd.R_elder' (rq HO_478001) (Kd.R_base ho1) hb)
             replace HO_490001 := Aside0.mk (Kd.R_elder' (rq HO_490001) (Kd.R_base ho1) hb)
             replace HO511 := Aside0.mk (Kd.R_elder' (rq HO511) (Kd.R_base ho1) hb)
             replace BK450 := zb BK450 hb
             replace BK451 := zb BK451 hb
             replace BK470 := zb BK470 hb
             replace BK477 := zb BK477 hb
             replace BK489 := zb BK489 hb
             replace BK523 := zb BK523 hb
             replace HB := sb hb
             (try clear hb ho0 ho1)
             refine hK.out _ _ ⟨(blk_cell BK450.out 0).trans rfl, (blk_cell BK450.out 1).trans rfl, (blk_cell BK451.out 0).trans rfl, (blk_cell BK451.out 1).trans rfl, (blk_cell BK451.out 2).trans rfl, (blk_cell BK451.out 3).trans rfl⟩ (fun hHeld => ?_)
             clear hK K
             refine norm_ (a' := ?_) ?_ ?_
             rotate_left
             ·show Act.put _ (some 84) _ = _
              simp only [Act.put, List.setIfInBounds_toArray, List.set_cons_zero, List.set_cons_succ, i64_w, i32_w]
              rfl
             refine pure_ (i := 5) (N := some 79) (v := ?_) (a' := ?_) #[true, true, true, true, true, true, false, false, true, false, false] rfl rfl (any_of HT_.out (by kernel_rfl)) (fun _ _ _ h => h) (Or.inl ⟨by rfl, ?_⟩) ?_ ?_
             rotate_left
             ·intro w'
              go_simp
              with_reducible rfl
             rotate_left
             ·simp only [Act.put, List.setIfInBounds_toArray, List.set_cons_zero, List.set_cons_succ, i64_w, i32_w]
              rfl
             refine pure_ (i := 6) (N := some 85) (v := ?_) (a' := ?_) #[true, true, true, true, true, true, true, false, true, false, false] rfl rfl (any_of HT_.out (by kernel_rfl)) (fun _ _ _ h => h) (Or.inl ⟨by rfl, ?_⟩) ?_ ?_
             rotate_left
             ·intro w'
              go_simp
              with_reducible rfl
             rotate_left
             ·simp only [Act.put, List.setIfInBounds_toArray, List.set_cons_zero, List.set_cons_succ, i64_w, i32_w]
              rfl
             refine pure_ (i := 7) (N := some 86) (v := ?_) (a' := ?_) #[true, true, true, true, true, true, true, true, true, false, false] rfl rfl (any_of HT_.out (by kernel_rfl)) (fun _ _ _ h => h) (Or.inl ⟨by rfl, ?_⟩) ?_ ?_
             rotate_left
             ·intro w'
              go_simp
              with_reducible rfl
             rotate_left
             ·simp only [Act.put, List.setIfInBounds_toArray, List.set_cons_zero, List.set_cons_succ, i64_w, i32_w]
              rfl
             exact norm_ (by simp only [putAll, Act.put, List.setIfInBounds_toArray, List.set_cons_zero, List.set_cons_succ]) (hCont (.slice Ao145 t506.length co145, .slice Ao146 t509.length co146, v517, v520, gb523) _ ⟨hHeld, (by (with_reducible repeat (first | apply Kd.R_alloc | apply Kd.R_drewN | apply Kd.R_drew)); exact Kd.R_mono HO508.out (fun _ hk => ⟨hk.2, ⟨hk.1.1.1.2, ⟨hk.1.1.2, hk.1.2⟩⟩⟩)), (by (with_reducible repeat (first | apply Kd.R_alloc | apply Kd.R_drewN | apply Kd.R_drew)); exact Kd.R_mono HO511.out (fun _ hk => ⟨hk.2, ⟨hk.1.1.1.2, ⟨hk.1.1.2, hk.1.2⟩⟩⟩)), (by (with_reducible repeat (first | apply Kd.R_alloc | apply Kd.R_drewN | apply Kd.R_drew)); exact Kd.R_mono HO518.out (fun _ hk => ⟨hk.2, ⟨hk.1.1.1.2, ⟨hk.1.1.2, hk.1.2⟩⟩⟩)), (by (with_reducible repeat (first | apply Kd.R_alloc | apply Kd.R_drewN | apply Kd.R_drew)); exact Kd.R_mono HO521.out (fun _ hk => ⟨hk.2, ⟨hk.1.1.1.2, ⟨hk.1.1.2, hk.1.2⟩⟩⟩)), (by (with_reducible repeat (first | apply Kd.R_alloc | apply Kd.R_drewN | apply Kd.R_drew)); exact Kd.R_mono HO_471000.out (fun _ hk => ⟨hk.1.2, ⟨hk.2, ⟨hk.1.1.1, hk.1.1.2⟩⟩⟩)), (by (with_reducible repeat (first | apply Kd.R_alloc | apply Kd.R_drewN | apply Kd.R_drew)); exact Kd.R_mono HO_471001.out (fun _ hk => ⟨hk.1.2, ⟨hk.2, ⟨hk.1.1.1, hk.1.1.2⟩⟩⟩)), (by (with_reducible repeat (first | apply Kd.R_alloc | apply Kd.R_drewN | apply Kd.R_drew)); exact Kd.R_mono HO_478000.out (fun _ hk => ⟨hk.1.2, ⟨hk.2, ⟨hk.1.1.1, hk.1.1.2⟩⟩⟩)), (by (with_reducible repeat (first | apply Kd.R_alloc | apply Kd.R_drewN | apply Kd.R_drew)); exact Kd.R_mono HO_478001.out (fun _ hk => ⟨hk.1.2, ⟨hk.2, ⟨hk.1.1.1, hk.1.1.2⟩⟩⟩)), (by (with_reducible repeat (first | apply Kd.R_alloc | apply Kd.R_drewN | apply Kd.R_drew)); exact Kd.R_mono HO_490000.out (fun _ hk => ⟨hk.1.2, ⟨hk.2, ⟨hk.1.1.1, hk.1.1.2⟩⟩⟩)), (by (with_reducible repeat (first | apply Kd.R_alloc | apply Kd.R_drewN | apply Kd.R_drew)); exact Kd.R_mono HO_490001.out (fun _ hk => ⟨hk.1.2, ⟨hk.2, ⟨hk.1.1.1, hk.1.1.2⟩⟩⟩)), (zq BK450), (zq BK451), (zq BK470), (zq BK477), (zq BK489), (zq BK523), GW523.out, GE523.out, NB450_523.out, NB523_450.out, NB451_523.out, NB523_451.out, NB470_523.out, NB523_470.out, NB477_523.out, NB523_477.out, NB489_523.out, NB523_489.out, bq⟩)
           rintro ⟨v507, v510, v517, v520, gb523⟩ w148 ⟨hS_, h0_, h1_, h2_, h3_, h4_, h5_, h6_, h7_, h8_, h9_, h10_, h11_, h12_, h13_, h14_, h15_, h16_, h17_, h18_, h19_, h20_, h21_, h22_, h23_, h24_, h25_, h26_, h27_, h28_⟩
           have n0_ : Aside0 (Kd.R (Kd.int .i64) 3 w148 w.heap.size (fun k_ => some k_ ≠ (v517 : Value).ownBlock ∧ some k_ ≠ (.slice Ao30 t463.length co30 : Value).ownBlock ∧ some k_ ≠ (.slice Ao38 t499.length co38 : Value).ownBlock ∧ some k_ ≠ (.slice Ao50 t482.length co50 : Value).ownBlock) v507 t506) := ⟨h0_⟩
           have n1_ : Aside0 (Kd.R k41 41 w148 w.heap.size (fun k_ => some k_ ≠ (v520 : Value).ownBlock ∧ some k_ ≠ (.slice Ao32 t466.length co32 : Value).ownBlock ∧ some k_ ≠ (.slice Ao43 t500.length co43 : Value).ownBlock ∧ some k_ ≠ (.slice Ao52 t485.length co52 : Value).ownBlock) v510 t509) := ⟨h1_⟩
           have n2_ : Aside0 (Kd.R (Kd.int .i64) 3 w148 w.heap.size (fun k_ => some k_ ≠ (v507 : Value).ownBlock ∧ some k_ ≠ (.slice Ao30 t463.length co30 : Value).ownBlock ∧ some k_ ≠ (.slice Ao38 t499.length co38 : Value).ownBlock ∧ some k_ ≠ (.slice Ao50 t482.length co50 : Value).ownBlock) v517 t516) := ⟨h2_⟩
           have n3_ : Aside0 (Kd.R k41 41 w148 w.heap.size (fun k_ => some k_ ≠ (v510 : Value).ownBlock ∧ some k_ ≠ (.slice Ao32 t466.length co32 : Value).ownBlock ∧ some k_ ≠ (.slice Ao43 t500.length co43 : Value).ownBlock ∧ some k_ ≠ (.slice Ao52 t485.length co52 : Value).ownBlock) v520 t519) := ⟨h3_⟩
           have n4_ : Aside0 (Kd.R (Kd.int .i64) 3 w148 w.heap.size (fun k_ => some k_ ≠ (v507 : Value).ownBlock ∧ some k_ ≠ (v517 : Value).ownBlock ∧ some k_ ≠ (.slice Ao38 t499.length co38 : Value).ownBlock ∧ some k_ ≠ (.slice Ao50 t482.length co50 : Value).ownBlock) (.slice Ao30 t463.length co30) t463) := ⟨h4_⟩
           have n5_ : Aside0 (Kd.R k41 41 w148 w.heap.size (fun k_ => some k_ ≠ (v510 : Value).ownBlock ∧ some k_ ≠ (v520 : Value).ownBlock ∧ some k_ ≠ (.slice Ao43 t500.length co43 : Value).ownBlock ∧ some k_ ≠ (.slice Ao52 t485.length co52 : Value).ownBlock) (.slice Ao32 t466.length co32) t466) := ⟨h5_⟩
           have n6_ : Aside0 (Kd.R (Kd.int .i64) 3 w148 w.heap.size (fun k_ => some k_ ≠ (v507 : Value).ownBlock ∧ some k_ ≠ (v517 : Value).ownBlock ∧ some k_ ≠ (.slice Ao30 t463.length co30 : Value).ownBlock ∧ some k_ ≠ (.slice Ao50 t482.length co50 : Value).ownBlock) (.slice Ao38 t499.length co38) t499) := ⟨h6_⟩
           have n7_ : Aside0 (Kd.R k41 41 w148 w.heap.size (fun k_ => some k_ ≠ (v510 : Value).ownBlock ∧ some k_ ≠ (v520 : Value).ownBlock ∧ some k_ ≠ (.slice Ao32 t466.length co32 : Value).ownBlock ∧ some k_ ≠ (.slice Ao52 t485.length co52 : Value).ownBlock) (.slice Ao43 t500.length co43) t500) := ⟨h7_⟩
           have n8_ : Aside0 (Kd.R (Kd.int .i64) 3 w148 w.heap.size (fun k_ => some k_ ≠ (v507 : Value).ownBlock ∧ some k_ ≠ (v517 : Value).ownBlock ∧ some k_ ≠ (.slice Ao30 t463.length co30 : Value).ownBlock ∧ some k_ ≠ (.slice Ao38 t499.length co38 : Value).ownBlock) (.slice Ao50 t482.length co50) t503) := ⟨h8_⟩
           have n9_ : Aside0 (Kd.R k41 41 w148 w.heap.size (fun k_ => some k_ ≠ (v510 : Value).ownBlock ∧ some k_ ≠ (v520 : Value).ownBlock ∧ some k_ ≠ (.slice Ao32 t466.length co32 : Value).ownBlock ∧ some k_ ≠ (.slice Ao43 t500.length co43 : Value).ownBlock) (.slice Ao52 t485.length co52) t504) := ⟨h9_⟩
           have n10_ : Aside0 (w148.heap[gb450]? = some (.cells #[.slice A0_0 l0_0.length c0_0, .slice A0_1 l0_1.length c0_1] 25 (0, 0))) := ⟨h10_⟩
           have n11_ : Aside0 (w148.heap[gb451]? = some (.cells #[.int .i64 a1_0, .int .i64 a1_1, .int .i64 a1_2, .int .i64 a1_3] 39 (0, 0))) := ⟨h11_⟩
           have n12_ : Aside0 (w148.heap[gb470]? = some (.cells #[.slice Ao30 t463.length co30, .slice Ao32 t466.length co32] 29 (0, 0))) := ⟨h12_⟩
           have n13_ : Aside0 (w148.heap[gb477]? = some (.cells #[.slice Ao38 t499.length co38, .slice Ao43 t500.length co43] 29 (0, 0))) := ⟨h13_⟩
           have n14_ : Aside0 (w148.heap[gb489]? = some (.cells #[.slice Ao50 t482.length co50, .slice Ao52 t485.length co52] 29 (0, 0))) := ⟨h14_⟩
           have n15_ : Aside0 (w148.heap[gb523]? = some (.cells #[.slice none 0 0, .slice none 0 0] 29 (0, 0))) := ⟨h15_⟩
           have n16_ : Aside0 (w.heap.size ≤ gb523) := ⟨h16_⟩
           have n17_ : Aside0 (w.heap.size ≤ gb523) := ⟨h17_⟩
           have n18_ : Aside0 (gb450 ≠ gb523) := ⟨h18_⟩
           have n19_ : Aside0 (gb523 ≠ gb450) := ⟨h19_⟩
           have n20_ : Aside0 (gb451 ≠ gb523) := ⟨h20_⟩
           have n21_ : Aside0 (gb523 ≠ gb451) := ⟨h21_⟩
           have n22_ : Aside0 (gb470 ≠ gb523) := ⟨h22_⟩
           have n23_ : Aside0 (gb523 ≠ gb470) := ⟨h23_⟩
           have n24_ : Aside0 (gb477 ≠ gb523) := ⟨h24_⟩
           have n25_ : Aside0 (gb523 ≠ gb477) := ⟨h25_⟩
           have n26_ : Aside0 (gb489 ≠ gb523) := ⟨h26_⟩
           have n27_ : Aside0 (gb523 ≠ gb489) := ⟨h27_⟩
           have n28_ : Aside0 (Below w.heap.size w w148) := ⟨h28_⟩
           clear HO_471000 HO_471001 HO_478000 HO_478001 HO_490000 HO_490001 BK450 BK451 BK470 BK477 BK489 HB h0_ h1_ h2_ h3_ h4_ h5_ h6_ h7_ h8_ h9_ h10_ h11_ h12_ h13_ h14_ h15_ h16_ h17_ h18_ h19_ h20_ h21_ h22_ h23_ h24_ h25_ h26_ h27_ h28_
           have HO518 := n2_
           have HO521 := n3_
           have HO_471000 := n4_
           have HO_471001 := n5_
           have HO_478000 := n6_
           have HO_478001 := n7_
           have HO_490000 := n8_
           have HO_490001 := n9_
           have BK450 := n10_
           have BK451 := n11_
           have BK470 := n12_
           have BK477 := n13_
           have BK489 := n14_
           have BK523 := n15_
           have GE523 := n17_
           have NB450_523 := n18_
           have NB523_450 := n19_
           have NB451_523 := n20_
           have NB523_451 := n21_
           have NB470_523 := n22_
           have NB523_470 := n23_
           have NB477_523 := n24_
           have NB523_477 := n25_
           have NB489_523 := n26_
           have NB523_489 := n27_
           have HB := n28_
           clear n0_ n1_ n2_ n3_ n4_ n5_ n6_ n7_ n8_ n9_ n10_ n11_ n12_ n13_ n14_ n15_ n16_ n17_ n18_ n19_ n20_ n21_ n22_ n23_ n24_ n25_ n26_ n27_ n28_
           have hHeld : w148.cell? ⟨gb450, 0, none⟩ = some (.slice A0_0 l0_0.length c0_0) ∧ w148.cell? ⟨gb450, 1, none⟩ = some (.slice A0_1 l0_1.length c0_1) ∧ w148.cell? ⟨gb451, 0, none⟩ = some (.int .i64 a1_0) ∧ w148.cell? ⟨gb451, 1, none⟩ = some (.int .i64 a1_1) ∧ w148.cell? ⟨gb451, 2, none⟩ = some (.int .i64 a1_2) ∧ w148.cell? ⟨gb451, 3, none⟩ = some (.int .i64 a1_3) := hS_
           obtain ⟨Ao149, co149, eo149⟩ := Kd.R_slice HO518.out
           (first | subst eo149 | (injection eo149 with f1_ f2_ f3_; have f4_ := f1_.symm; have f5_ := f3_.symm; clear f1_ f2_ f3_; subst f4_; subst f5_))
           obtain ⟨Ao151, co151, eo151⟩ := Kd.R_slice HO521.out
           (first | subst eo151 | (injection eo151 with f1_ f2_ f3_; have f4_ := f1_.symm; have f5_ := f3_.symm; clear f1_ f2_ f3_; subst f4_; subst f5_))
           refine norm_ (a' := ?_) ?_ ?_
           rotate_left
           ·simp only [putAll, Act.put, List.setIfInBounds_toArray, List.set_cons_zero, List.set_cons_succ]
            rfl
           refine one_ (i := 9) (N := none) #[true, true, true, true, true, true, true, true, true, true, false] rfl rfl (one_of HT_.out (by kernel_rfl)) (by decide) (fun K hK => ?_)
           have hs150 : w148.cell? ⟨gb523, 0, none⟩ = some (.slice none 0 0) := (blk_cell BK523.out 0).trans rfl
           have hfs150 := blk_frozen BK523.out 0
           have hns150_0 := NB450_523.out
           have hns150_1 := NB451_523.out
           have hns150_2 := NB470_523.out
           have hns150_3 := NB477_523.out
           have hns150_4 := NB489_523.out
           have hms150_0 := NB523_450.out
           have hms150_1 := NB523_451.out
           have hms150_2 := NB523_470.out
           have hms150_3 := NB523_477.out
           have hms150_4 := NB523_489.out
           have hs152 : w148.cell? ⟨gb523, 1, none⟩ = some (.slice none 0 0) := (blk_cell BK523.out 1).trans rfl
           have hfs152 := blk_frozen BK523.out 1
           have hns152_0 := NB450_523.out
           have hns152_1 := NB451_523.out
           have hns152_2 := NB470_523.out
           have hns152_3 := NB477_523.out
           have hns152_4 := NB489_523.out
           have hms152_0 := NB523_450.out
           have hms152_1 := NB523_451.out
           have hms152_2 := NB523_470.out
           have hms152_3 := NB523_477.out
           have hms152_4 := NB523_489.out
           refine skip_ (w1 := ?_) (by rfl) rfl ?_ ?_
           rotate_left
           ·go_simp
            rfl
           refine hK.out _ _ ⟨((cell_far (p := ⟨gb523, _, none⟩) NB450_523.out _).trans (((cell_far (p := ⟨gb523, _, none⟩) NB450_523.out _).trans (hHeld.1)))), ((cell_far (p := ⟨gb523, _, none⟩) NB450_523.out _).trans (((cell_far (p := ⟨gb523, _, none⟩) NB450_523.out _).trans (hHeld.2.1)))), ((cell_far (p := ⟨gb523, _, none⟩) NB451_523.out _).trans (((cell_far (p := ⟨gb523, _, none⟩) NB451_523.out _).trans (hHeld.2.2.1)))), ((cell_far (p := ⟨gb523, _, none⟩) NB451_523.out _).trans (((cell_far (p := ⟨gb523, _, none⟩) NB451_523.out _).trans (hHeld.2.2.2.1)))), ((cell_far (p := ⟨gb523, _, none⟩) NB451_523.out _).trans (((cell_far (p := ⟨gb523, _, none⟩) NB451_523.out _).trans (hHeld.2.2.2.2.1)))), ((cell_far (p := ⟨gb523, _, none⟩) NB451_523.out _).trans (((cell_far (p := ⟨gb523, _, none⟩) NB451_523.out _).trans (hHeld.2.2.2.2.2))))⟩ (fun hHeld => ?_)
           clear hK K
           refine pure_ (i := 10) (N := some 15) (v := ?_) (a' := ?_) #[true, true, true, true, true, true, true, true, true, true, true] rfl rfl (any_of HT_.out (by kernel_rfl)) (fun _ _ _ h => h) (Or.inl ⟨by rfl, ?_⟩) ?_ ?_
           rotate_left
           ·intro w'
            go_simp
            with_reducible rfl
           rotate_left
           ·simp only [Act.put, List.setIfInBounds_toArray, List.set_cons_zero, List.set_cons_succ, i64_w, i32_w]
            rfl
           refine done_ (done_of HT_.out (by kernel_rfl)) ?_
           go_upto_region 25 with (fail)
           go_cut [95] (fun v95 wc => ∃ (kq : Nat) (x95_131 : Bool), v95 = .bool x95_131 ∧ Aside0 (laws_FnExactLendParts.j2 kq t502 x95_131 t503 t504 = some r) ∧ Aside0 (kq ≤ kj80) ∧ Aside0 (Kd.R (Kd.int .i64) 3 wc w.heap.size (fun k_ => some k_ ≠ ((.slice Ao38 t499.length co38) : Value).ownBlock ∧ some k_ ≠ ((.slice Ao50 t482.length co50) : Value).ownBlock ∧ some k_ ≠ ((.slice Ao149 t516.length co149) : Value).ownBlock) (.slice Ao30 t463.length co30) t463) ∧ Aside0 (Kd.R k41 41 wc w.heap.size (fun k_ => some k_ ≠ ((.slice Ao43 t500.length co43) : Value).ownBlock ∧ some k_ ≠ ((.slice Ao52 t485.length co52) : Value).ownBlock ∧ some k_ ≠ ((.slice Ao151 t519.length co151) : Value).ownBlock) (.slice Ao32 t466.length co32) t466) ∧ Aside0 (Kd.R (Kd.int .i64) 3 wc w.heap.size (fun k_ => some k_ ≠ ((.slice Ao30 t463.length co30) : Value).ownBlock ∧ some k_ ≠ ((.slice Ao50 t482.length co50) : Value).ownBlock ∧ some k_ ≠ ((.slice Ao149 t516.length co149) : Value).ownBlock) (.slice Ao38 t499.length co38) t499) ∧ Aside0 (Kd.R k41 41 wc w.heap.size (fun k_ => some k_ ≠ ((.slice Ao32 t466.length co32) : Value).ownBlock ∧ some k_ ≠ ((.slice Ao52 t485.length co52) : Value).ownBlock ∧ some k_ ≠ ((.slice Ao151 t519.length co151) : Value).ownBlock) (.slice Ao43 t500.length co43) t500) ∧ Aside0 (Kd.R (Kd.int .i64) 3 wc w.heap.size (fun k_ => some k_ ≠ ((.slice Ao30 t463.length co30) : Value).ownBlock ∧ some k_ ≠ ((.slice Ao38 t499.length co38) : Value).ownBlock ∧ some k_ ≠ ((.slice Ao149 t516.length co149) : Value).ownBlock) (.slice Ao50 t482.length co50) t503) ∧ Aside0 (Kd.R k41 41 wc w.heap.size (fun k_ => some k_ ≠ ((.slice Ao32 t466.length co32) : Value).ownBlock ∧ some k_ ≠ ((.slice Ao43 t500.length co43) : Value).ownBlock ∧ some k_ ≠ ((.slice Ao151 t519.length co151) : Value).ownBlock) (.slice Ao52 t485.length co52) t504) ∧ Aside0 (Kd.R (Kd.int .i64) 3 wc w.heap.size (fun k_ => some k_ ≠ ((.slice Ao30 t463.length co30) : Value).ownBlock ∧ some k_ ≠ ((.slice Ao38 t499.length co38) : Value).ownBlock ∧ some k_ ≠ ((.slice Ao50 t482.length co50) : Value).ownBlock) (.slice Ao149 t516.length co149) t516) ∧ Aside0 (Kd.R k41 41 wc w.heap.size (fun k_ => some k_ ≠ ((.slice Ao32 t466.length co32) : Value).ownBlock ∧ some k_ ≠ ((.slice Ao43 t500.length co43) : Value).ownBlock ∧ some k_ ≠ ((.slice Ao52 t485.length co52) : Value).ownBlock) (.slice Ao151 t519.length co151) t519) ∧ Aside0 (wc.heap[gb450]? = some (.cells #[(.slice A0_0 l0_0.length c0_0), (.slice A0_1 l0_1.length c0_1)] 25 (0, 0))) ∧ Aside0 (wc.heap[gb451]? = some (.cells #[.int .i64 a1_0, .int .i64 a1_1, .int .i64 a1_2, .int .i64 a1_3] 39 (0, 0))) ∧ Aside0 (wc.heap[gb470]? = some (.cells #[(.slice Ao30 t463.length co30), (.slice Ao32 t466.length co32)] 29 (0, 0))) ∧ Aside0 (wc.heap[gb477]? = some (.cells #[(.slice Ao38 t499.length co38), (.slice Ao43 t500.length co43)] 29 (0, 0))) ∧ Aside0 (wc.heap[gb489]? = some (.cells #[(.slice Ao50 t482.length co50), (.slice Ao52 t485.length co52)] 29 (0, 0))) ∧ Aside0 (wc.heap[gb523]? = some (.cells #[(.slice Ao149 t516.length co149), (.slice Ao151 t519.length co151)] 29 (0, 0))) ∧ Aside0 (Below w.heap.size w wc))
           case first =>
            have H := HC132.out
            clear HC132
            obtain ⟨t524, A153, H⟩ := bindq H
            try dsimp only at H
            by_cases c154 : t524 = true
            ·subst c154
             rw [if_pos rfl] at H
             try dsimp only at H
             have H' := Aside0.mk H
             clear H
             have hnb155 := NB523_450.out
             have hnc155 := NB450_523.out
             have hnb156 := NB523_451.out
             have hnc156 := NB451_523.out
             have hnb157 := NB523_470.out
             have hnc157 := NB470_523.out
             have hnb158 := NB523_477.out
             have hnc158 := NB477_523.out
             have hnb159 := NB523_489.out
             have hnc159 := NB489_523.out
             have ⟨hcz160_0, hcz160_1, hfz160_0, hfz160_1⟩ := bc2 BK523
             have hnb161 := NB470_450.out
             have hnc161 := NB450_470.out
             have hnb162 := NB470_451.out
             have hnc162 := NB451_470.out
             have hnb163 := NB470_477.out
             have hnc163 := NB477_470.out
             have hnb164 := NB470_489.out
             have hnc164 := NB489_470.out
             have ⟨hcz165_0, hcz165_1, hfz165_0, hfz165_1⟩ := bc2 BK470
             go_wp2_with (first | ((with_reducible refine gate_callee (f := 11) rfl ?_); refine goesQ (some 89) Try.func11 #[.agg #[.slice Ao149 t516.length co149, .slice Ao151 t519.length co151], .agg #[.slice Ao30 t463.length co30, .slice Ao32 t466.length co32]] ?_; (with_reducible refine (laws_eqShop.calls kj80 _ _ t516 _ _ t519 _ _ t463 _ _ t466 true _ ?s1 ?s2 ?s3 ?s4 ?s5 ?s6 ?s7 ?s8 A153.out).mono ?_); (case s1 => refine (Kd.R_reads' (e := 3) (base := w.heap.size) (ok := fun k_ => (some k_ ≠ (v507 : Value).ownBlock ∧ (some k_ ≠ (.slice Ao30 t463.length co30 : Value).ownBlock ∧ (some k_ ≠ (.slice Ao38 t499.length co38 : Value).ownBlock ∧ some k_ ≠ (.slice Ao50 t482.length co50 : Value).ownBlock)))) (n := t516.length) (c := co149) ?_).2.2; exact (by (with_reducible repeat (first | apply Kd.R_alloc | apply Kd.R_drewN | apply Kd.R_drew)); exact (Kd.R_mono (Kd.R_far (p := ⟨gb523, 1, none⟩) (Kd.R_far (p := ⟨gb523, 0, none⟩) (Kd.R_types HO518.out BK523.out (by decide)) (fun _ hk => hk.2) (.slice Ao149 t516.length co149)) (fun _ hk => hk.2) (.slice Ao151 t519.length co151)) (fun _ h_ => h_.1)))); (case s2 => exact r1 HO518); (case s3 => refine (Kd.R_reads' (e := 41) (base := w.heap.size) (ok := fun k_ => (some k_ ≠ (v510 : Value).ownBlock ∧ (some k_ ≠ (.slice Ao32 t466.length co32 : Value).ownBlock ∧ (some k_ ≠ (.slice Ao43 t500.length co43 : Value).ownBlock ∧ some k_ ≠ (.slice Ao52 t485.length co52 : Value).ownBlock)))) (n := t519.length) (c := co151) ?_).2.2; exact (by (with_reducible repeat (first | apply Kd.R_alloc | apply Kd.R_drewN | apply Kd.R_drew)); exact (Kd.R_mono (Kd.R_far (p := ⟨gb523, 1, none⟩) (Kd.R_far (p := ⟨gb523, 0, none⟩) (Kd.R_types HO521.out BK523.out (by decide)) (fun _ hk => hk.2) (.slice Ao149 t516.length co149)) (fun _ hk => hk.2) (.slice Ao151 t519.length co151)) (fun _ h_ => h_.1)))); (case s4 => exact r1 HO521); (case s5 => refine (Kd.R_reads' (e := 3) (base := w.heap.size) (ok := fun k_ => (some k_ ≠ (v507 : Value).ownBlock ∧ (some k_ ≠ (.slice Ao149 t516.length co149 : Value).ownBlock ∧ (some k_ ≠ (.slice Ao38 t499.length co38 : Value).ownBlock ∧ some k_ ≠ (.slice Ao50 t482.length co50 : Value).ownBlock)))) (n := t463.length) (c := co30) ?_).2.2; exact (by (with_reducible repeat (first | apply Kd.R_alloc | apply Kd.R_drewN | apply Kd.R_drew)); exact (Kd.R_mono (Kd.R_far (p := ⟨gb523, 1, none⟩) (Kd.R_far (p := ⟨gb523, 0, none⟩) (Kd.R_types HO_471000.out BK523.out (by decide)) (fun _ hk => hk.2) (.slice Ao149 t516.length co149)) (fun _ hk => hk.2) (.slice Ao151 t519.length co151)) (fun _ h_ => h_.1)))); (case s6 => exact r1 HO_471000); (case s7 => refine (Kd.R_reads' (e := 41) (base := w.heap.size) (ok := fun k_ => (some k_ ≠ (v510 : Value).ownBlock ∧ (some k_ ≠ (.slice Ao151 t519.length co151 : Value).ownBlock ∧ (some k_ ≠ (.slice Ao43 t500.length co43 : Value).ownBlock ∧ some k_ ≠ (.slice Ao52 t485.length co52 : Value).ownBlock)))) (n := t466.length) (c := co32) ?_).2.2; exact (by (with_reducible repeat (first | apply Kd.R_alloc | apply Kd.R_drewN | apply Kd.R_drew)); exact (Kd.R_mono (Kd.R_far (p := ⟨gb523, 1, none⟩) (Kd.R_far (p := ⟨gb523, 0, none⟩) (Kd.R_types HO_471001.out BK523.out (by decide)) (fun _ hk => hk.2) (.slice Ao149 t516.length co149)) (fun _ hk => hk.2) (.slice Ao151 t519.length co151)) (fun _ h_ => h_.1)))); (case s8 => exact r1 HO_471001); rintro e w166 ⟨rfl, hb⟩; refine ⟨_, rfl, ?_⟩; replace HO_471000 := Aside0.mk (Kd.R_below (by (with_reducible repeat (first | apply Kd.R_alloc | apply Kd.R_drewN | apply Kd.R_drew)); exact (Kd.R_mono (Kd.R_far (p := ⟨gb523, 1, none⟩) (Kd.R_far (p := ⟨gb523, 0, none⟩) (Kd.R_types HO_471000.out BK523.out (by decide)) (fun _ hk => hk.2) (.slice Ao149 t516.length co149)) (fun _ hk => hk.2) (.slice Ao151 t519.length co151)) (fun _ h_ => h_.1))) hb); replace HO_471001 := Aside0.mk (Kd.R_below (by (with_reducible repeat (first | apply Kd.R_alloc | apply Kd.R_drewN | apply Kd.R_drew)); exact (Kd.R_mono (Kd.R_far (p := ⟨gb523, 1, none⟩) (Kd.R_far (p := ⟨gb523, 0, none⟩) (Kd.R_types HO_471001.out BK523.out (by decide)) (fun _ hk => hk.2) (.slice Ao149 t516.length co149)) (fun _ hk => hk.2) (.slice Ao151 t519.length co151)) (fun _ h_ => h_.1))) hb); replace HO_478000 := Aside0.mk (Kd.R_below (by (with_reducible repeat (first | apply Kd.R_alloc | apply Kd.R_drewN | apply Kd.R_drew)); exact (Kd.R_mono (Kd.R_far (p := ⟨gb523, 1, none⟩) (Kd.R_far (p := ⟨gb523, 0, none⟩) (Kd.R_types HO_478000.out BK523.out (by decide)) (fun _ hk => hk.2) (.slice Ao149 t516.length co149)) (fun _ hk => hk.2) (.slice Ao151 t519.length co151)) (fun _ h_ => h_.1))) hb); replace HO_478001 := Aside0.mk (Kd.R_below (by (with_reducible repeat (first | apply Kd.R_alloc | apply Kd.R_drewN | apply Kd.R_drew)); exact (Kd.R_mono (Kd.R_far (p := ⟨gb523, 1, none⟩) (Kd.R_far (p := ⟨gb523, 0, none⟩) (Kd.R_types HO_478001.out BK523.out (by decide)) (fun _ hk => hk.2) (.slice Ao149 t516.length co149)) (fun _ hk => hk.2) (.slice Ao151 t519.length co151)) (fun _ h_ => h_.1))) hb); replace HO_490000 := Aside0.mk (Kd.R_below (by (with_reducible repeat (first | apply Kd.R_alloc | apply Kd.R_drewN | apply Kd.R_drew)); exact (Kd.R_mono (Kd.R_far (p := ⟨gb523, 1, none⟩) (Kd.R_far (p := ⟨gb523, 0, none⟩) (Kd.R_types HO_490000.out BK523.out (by decide)) (fun _ hk => hk.2) (.slice Ao149 t516.length co149)) (fun _ hk => hk.2) (.slice Ao151 t519.length co151)) (fun _ h_ => h_.1))) hb); replace HO_490001 := Aside0.mk (Kd.R_below (by (with_reducible repeat (first | apply Kd.R_alloc | apply Kd.R_drewN | apply Kd.R_drew)); exact (Kd.R_mono (Kd.R_far (p := ⟨gb523, 1, none⟩) (Kd.R_far (p := ⟨gb523, 0, none⟩) (Kd.R_types HO_490001.out BK523.out (by decide)) (fun _ hk => hk.2) (.slice Ao149 t516.length co149)) (fun _ hk => hk.2) (.slice Ao151 t519.length co151)) (fun _ h_ => h_.1))) hb); replace HO518 := Aside0.mk (Kd.R_below (by (with_reducible repeat (first | apply Kd.R_alloc | apply Kd.R_drewN | apply Kd.R_drew)); exact (Kd.R_mono (Kd.R_far (p := ⟨gb523, 1, none⟩) (Kd.R_far (p := ⟨gb523, 0, none⟩) (Kd.R_types HO518.out BK523.out (by decide)) (fun _ hk => hk.2) (.slice Ao149 t516.length co149)) (fun _ hk => hk.2) (.slice Ao151 t519.length co151)) (fun _ h_ => h_.1))) hb); replace HO521 := Aside0.mk (Kd.R_below (by (with_reducible repeat (first | apply Kd.R_alloc | apply Kd.R_drewN | apply Kd.R_drew)); exact (Kd.R_mono (Kd.R_far (p := ⟨gb523, 1, none⟩) (Kd.R_far (p := ⟨gb523, 0, none⟩) (Kd.R_types HO521.out BK523.out (by decide)) (fun _ hk => hk.2) (.slice Ao149 t516.length co149)) (fun _ hk => hk.2) (.slice Ao151 t519.length co151)) (fun _ h_ => h_.1))) hb); replace BK450 := Aside0.mk (blk_below (g := gb450) (o := .cells #[.slice A0_0 l0_0.length c0_0, .slice A0_1 l0_1.length c0_1] 25 (0, 0)) (by (with_reducible repeat (first | refine blk_drewN ?_ _ | refine blk_drew ?_ | refine blk_alloc ?_ _)); refine blk_far ?_ NB450_523.out _; (with_reducible repeat (first | refine blk_drewN ?_ _ | refine blk_drew ?_ | refine blk_alloc ?_ _)); refine blk_far ?_ NB450_523.out _; (with_reducible repeat (first | refine blk_drewN ?_ _ | refine blk_drew ?_ | refine blk_alloc ?_ _)); exact BK450.out) hb); replace BK451 := Aside0.mk (blk_below (g := gb451) (o := .cells #[.int .i64 a1_0, .int .i64 a1_1, .int .i64 a1_2, .int .i64 a1_3] 39 (0, 0)) (by (with_reducible repeat (first | refine blk_drewN ?_ _ | refine blk_drew ?_ | refine blk_alloc ?_ _)); refine blk_far ?_ NB451_523.out _; (with_reducible repeat (first | refine blk_drewN ?_ _ | refine blk_drew ?_ | refine blk_alloc ?_ _)); refine blk_far ?_ NB451_523.out _; (with_reducible repeat (first | refine blk_drewN ?_ _ | refine blk_drew ?_ | refine blk_alloc ?_ _)); exact BK451.out) hb); replace BK470 := Aside0.mk (blk_below (g := gb470) (o := .cells #[.slice Ao30 t463.length co30, .slice Ao32 t466.length co32] 29 (0, 0)) (by (with_reducible repeat (first | refine blk_drewN ?_ _ | refine blk_drew ?_ | refine blk_alloc ?_ _)); refine blk_far ?_ NB470_523.out _; (with_reducible repeat (first | refine blk_drewN ?_ _ | refine blk_drew ?_ | refine blk_alloc ?_ _)); refine blk_far ?_ NB470_523.out _; (with_reducible repeat (first | refine blk_drewN ?_ _ | refine blk_drew ?_ | refine blk_alloc ?_ _)); exact BK470.out) hb); replace BK477 := Aside0.mk (blk_below (g := gb477) (o := .cells #[.slice Ao38 t499.length co38, .slice Ao43 t500.length co43] 29 (0, 0)) (by (with_reducible repeat (first | refine blk_drewN ?_ _ | refine blk_drew ?_ | refine blk_alloc ?_ _)); refine blk_far ?_ NB477_523.out _; (with_reducible repeat (first | refine blk_drewN ?_ _ | refine blk_drew ?_ | refine blk_alloc ?_ _)); refine blk_far ?_ NB477_523.out _; (with_reducible repeat (first | refine blk_drewN ?_ _ | refine blk_drew ?_ | refine blk_alloc ?_ _)); exact BK477.out) hb); replace BK489 := Aside0.mk (blk_below (g := gb489) (o := .cells #[.slice Ao50 t482.length co50, .slice Ao52 t485.length co52] 29 (0, 0)) (by (with_reducible repeat (first | refine blk_drewN ?_ _ | refine blk_drew ?_ | refine blk_alloc ?_ _)); refine blk_far ?_ NB489_523.out _; (with_reducible repeat (first | refine blk_drewN ?_ _ | refine blk_drew ?_ | refine blk_alloc ?_ _)); refine blk_far ?_ NB489_523.out _; (with_reducible repeat (first | refine blk_drewN ?_ _ | refine blk_drew ?_ | refine blk_alloc ?_ _)); exact BK489.out) hb); replace BK523 := Aside0.mk (blk_below (g := gb523) (o := .cells #[.slice Ao149 t516.length co149, .slice Ao151 t519.length co151] 29 (0, 0)) (by (with_reducible repeat (first | refine blk_drewN ?_ _ | refine blk_drew ?_ | refine blk_alloc ?_ _)); refine blk_put (cs := #[.slice Ao149 t516.length co149, .slice none 0 0]) ?_ 1 _ rfl; (with_reducible repeat (first | refine blk_drewN ?_ _ | refine blk_drew ?_ | refine blk_alloc ?_ _)); refine blk_put (cs := #[.slice none 0 0, .slice none 0 0]) ?_ 0 _ rfl; (with_reducible repeat (first | refine blk_drewN ?_ _ | refine blk_drew ?_ | refine blk_alloc ?_ _)); exact BK523.out) hb); replace HB := sb hb; (try clear hb hb2 hk hi)))
             go_meet
             case rel => exact ⟨_, ((t522 != t469)), sq, H', ⟨by have := HJ15.out; have := HJ80.out; first | omega | exact Nat.le_refl _⟩, ⟨by (try simp only [hl478000_80]); (try simp only [hl478001_80]); (with_reducible repeat (first | apply Kd.R_alloc | apply Kd.R_drewN | apply Kd.R_drew)); exact Kd.R_mono HO_471000.out (fun _ hk => ⟨hk.2.2.1, ⟨hk.2.2.2, hk.2.1⟩⟩)⟩, ⟨by (try simp only [hl478000_80]); (try simp only [hl478001_80]); (with_reducible repeat (first | apply Kd.R_alloc | apply Kd.R_drewN | apply Kd.R_drew)); exact Kd.R_mono HO_471001.out (fun _ hk => ⟨hk.2.2.1, ⟨hk.2.2.2, hk.2.1⟩⟩)⟩, ⟨by (try simp only [hl478000_80]); (try simp only [hl478001_80]); (with_reducible repeat (first | apply Kd.R_alloc | apply Kd.R_drewN | apply Kd.R_drew)); exact Kd.R_mono HO_478000.out (fun _ hk => ⟨hk.2.2.1, ⟨hk.2.2.2, hk.2.1⟩⟩)⟩, ⟨by (try simp only [hl478000_80]); (try simp only [hl478001_80]); (with_reducible repeat (first | apply Kd.R_alloc | apply Kd.R_drewN | apply Kd.R_drew)); exact Kd.R_mono HO_478001.out (fun _ hk => ⟨hk.2.2.1, ⟨hk.2.2.2, hk.2.1⟩⟩)⟩, ⟨by (try simp only [hl478000_80]); (try simp only [hl478001_80]); (with_reducible repeat (first | apply Kd.R_alloc | apply Kd.R_drewN | apply Kd.R_drew)); exact Kd.R_mono HO_490000.out (fun _ hk => ⟨hk.2.2.1, ⟨hk.2.2.2, hk.2.1⟩⟩)⟩, ⟨by (try simp only [hl478000_80]); (try simp only [hl478001_80]); (with_reducible repeat (first | apply Kd.R_alloc | apply Kd.R_drewN | apply Kd.R_drew)); exact Kd.R_mono HO_490001.out (fun _ hk => ⟨hk.2.2.1, ⟨hk.2.2.2, hk.2.1⟩⟩)⟩, ⟨by (try simp only [hl478000_80]); (try simp only [hl478001_80]); (with_reducible repeat (first | apply Kd.R_alloc | apply Kd.R_drewN | apply Kd.R_drew)); exact Kd.R_mono HO518.out (fun _ hk => ⟨hk.2.1, ⟨hk.2.2.1, hk.2.2.2⟩⟩)⟩, ⟨by (try simp only [hl478000_80]); (try simp only [hl478001_80]); (with_reducible repeat (first | apply Kd.R_alloc | apply Kd.R_drewN | apply Kd.R_drew)); exact Kd.R_mono HO521.out (fun _ hk => ⟨hk.2.1, ⟨hk.2.2.1, hk.2.2.2⟩⟩)⟩, ⟨by (try simp only [hl478000_80]); (try simp only [hl478001_80]); (with_reducible repeat (first | refine blk_drewN ?_ _ | refine blk_drew ?_ | refine blk_alloc ?_ _)); exact BK450.out⟩, ⟨by (try simp only [hl478000_80]); (try simp only [hl478001_80]); (with_reducible repeat (first | refine blk_drewN ?_ _ | refine blk_drew ?_ | refine blk_alloc ?_ _)); exact BK451.out⟩, ⟨by (try simp only [hl478000_80]); (try simp only [hl478001_80]); (with_reducible repeat (first | refine blk_drewN ?_ _ | refine blk_drew ?_ | refine blk_alloc ?_ _)); exact BK470.out⟩, ⟨by (try simp only [hl478000_80]); (try simp only [hl478001_80]); (with_reducible repeat (first | refine blk_drewN ?_ _ | refine blk_drew ?_ | refine blk_alloc ?_ _)); exact BK477.out⟩, ⟨by (try simp only [hl478000_80]); (try simp only [hl478001_80]); (with_reducible repeat (first | refine blk_drewN ?_ _ | refine blk_drew ?_ | refine blk_alloc ?_ _)); exact BK489.out⟩, ⟨by (try simp only [hl478000_80]); (try simp only [hl478001_80]); (with_reducible repeat (first | refine blk_drewN ?_ _ | refine blk_drew ?_ | refine blk_alloc ?_ _)); exact BK523.out⟩, ⟨bq⟩⟩
            ·replace c154 := Bool.eq_false_iff.mpr c154
             subst c154
             rw [if_neg (show ¬ (false = true) by decide)] at H
             try dsimp only at H
             have H' := Aside0.mk H
             clear H
             have hnb167 := NB523_450.out
             have hnc167 := NB450_523.out
             have hnb168 := NB523_451.out
             have hnc168 := NB451_523.out
             have hnb169 := NB523_470.out
             have hnc169 := NB470_523.out
             have hnb170 := NB523_477.out
             have hnc170 := NB477_523.out
             have hnb171 := NB523_489.out
             have hnc171 := NB489_523.out
             have ⟨hcz172_0, hcz172_1, hfz172_0, hfz172_1⟩ := bc2 BK523
             have hnb173 := NB470_450.out
             have hnc173 := NB450_470.out
             have hnb174 := NB470_451.out
             have hnc174 := NB451_470.out
             have hnb175 := NB470_477.out
             have hnc175 := NB477_470.out
             have hnb176 := NB470_489.out
             have hnc176 := NB489_470.out
             have ⟨hcz177_0, hcz177_1, hfz177_0, hfz177_1⟩ := bc2 BK470
             go_wp2_with (first | ((with_reducible refine gate_callee (f := 11) rfl ?_); refine goesQ (some 89) Try.func11 #[.agg #[.slice Ao149 t516.length co149, .slice Ao151 t519.length co151], .agg #[.slice Ao30 t463.length co30, .slice Ao32 t466.length co32]] ?_; (with_reducible refine (laws_eqShop.calls kj80 _ _ t516 _ _ t519 _ _ t463 _ _ t466 false _ ?s1 ?s2 ?s3 ?s4 ?s5 ?s6 ?s7 ?s8 A153.out).mono ?_); (case s1 => refine (Kd.R_reads' (e := 3) (base := w.heap.size) (ok := fun k_ => (some k_ ≠ (v507 : Value).ownBlock ∧ (some k_ ≠ (.slice Ao30 t463.length co30 : Value).ownBlock ∧ (some k_ ≠ (.slice Ao38 t499.length co38 : Value).ownBlock ∧ some k_ ≠ (.slice Ao50 t482.length co50 : Value).ownBlock)))) (n := t516.length) (c := co149) ?_).2.2; exact (by (with_reducible repeat (first | apply Kd.R_alloc | apply Kd.R_drewN | apply Kd.R_drew)); exact (Kd.R_mono (Kd.R_far (p := ⟨gb523, 1, none⟩) (Kd.R_far (p := ⟨gb523, 0, none⟩) (Kd.R_types HO518.out BK523.out (by decide)) (fun _ hk => hk.2) (.slice Ao149 t516.length co149)) (fun _ hk => hk.2) (.slice Ao151 t519.length co151)) (fun _ h_ => h_.1)))); (case s2 => exact r1 HO518); (case s3 => refine (Kd.R_reads' (e := 41) (base := w.heap.size) (ok := fun k_ => (some k_ ≠ (v510 : Value).ownBlock ∧ (some k_ ≠ (.slice Ao32 t466.length co32 : Value).ownBlock ∧ (some k_ ≠ (.slice Ao43 t500.length co43 : Value).ownBlock ∧ some k_ ≠ (.slice Ao52 t485.length co52 : Value).ownBlock)))) (n := t519.length) (c := co151) ?_).2.2; exact (by (with_reducible repeat (first | apply Kd.R_alloc | apply Kd.R_drewN | apply Kd.R_drew)); exact (Kd.R_mono (Kd.R_far (p := ⟨gb523, 1, none⟩) (Kd.R_far (p := ⟨gb523, 0, none⟩) (Kd.R_types HO521.out BK523.out (by decide)) (fun _ hk => hk.2) (.slice Ao149 t516.length co149)) (fun _ hk => hk.2) (.slice Ao151 t519.length co151)) (fun _ h_ => h_.1)))); (case s4 => exact r1 HO521); (case s5 => refine (Kd.R_reads' (e := 3) (base := w.heap.size) (ok := fun k_ => (some k_ ≠ (v507 : Value).ownBlock ∧ (some k_ ≠ (.slice Ao149 t516.length co149 : Value).ownBlock ∧ (some k_ ≠ (.slice Ao38 t499.length co38 : Value).ownBlock ∧ some k_ ≠ (.slice Ao50 t482.length co50 : Value).ownBlock)))) (n := t463.length) (c := co30) ?_).2.2; exact (by (with_reducible repeat (first | apply Kd.R_alloc | apply Kd.R_drewN | apply Kd.R_drew)); exact (Kd.R_mono (Kd.R_far (p := ⟨gb523, 1, none⟩) (Kd.R_far (p := ⟨gb523, 0, none⟩) (Kd.R_types HO_471000.out BK523.out (by decide)) (fun _ hk => hk.2) (.slice Ao149 t516.length co149)) (fun _ hk => hk.2) (.slice Ao151 t519.length co151)) (fun _ h_ => h_.1)))); (case s6 => exact r1 HO_471000); (case s7 => refine (Kd.R_reads' (e := 41) (base := w.heap.size) (ok := fun k_ => (some k_ ≠ (v510 : Value).ownBlock ∧ (some k_ ≠ (.slice Ao151 t519.length co151 : Value).ownBlock ∧ (some k_ ≠ (.slice Ao43 t500.length co43 : Value).ownBlock ∧ some k_ ≠ (.slice Ao52 t485.length co52 : Value).ownBlock)))) (n := t466.length) (c := co32) ?_).2.2; exact (by (with_reducible repeat (first | apply Kd.R_alloc | apply Kd.R_drewN | apply Kd.R_drew)); exact (Kd.R_mono (Kd.R_far (p := ⟨gb523, 1, none⟩) (Kd.R_far (p := ⟨gb523, 0, none⟩) (Kd.R_types HO_471001.out BK523.out (by decide)) (fun _ hk => hk.2) (.slice Ao149 t516.length co149)) (fun _ hk => hk.2) (.slice Ao151 t519.length co151)) (fun _ h_ => h_.1)))); (case s8 => exact r1 HO_471001); rintro e w178 ⟨rfl, hb⟩; refine ⟨_, rfl, ?_⟩; replace HO_471000 := Aside0.mk (Kd.R_below (by (with_reducible repeat (first | apply Kd.R_alloc | apply Kd.R_drewN | apply Kd.R_drew)); exact (Kd.R_mono (Kd.R_far (p := ⟨gb523, 1, none⟩) (Kd.R_far (p := ⟨gb523, 0, none⟩) (Kd.R_types HO_471000.out BK523.out (by decide)) (fun _ hk => hk.2) (.slice Ao149 t516.length co149)) (fun _ hk => hk.2) (.slice Ao151 t519.length co151)) (fun _ h_ => h_.1))) hb); replace HO_471001 := Aside0.mk (Kd.R_below (by (with_reducible repeat (first | apply Kd.R_alloc | apply Kd.R_drewN | apply Kd.R_drew)); exact (Kd.R_mono (Kd.R_far (p := ⟨gb523, 1, none⟩) (Kd.R_far (p := ⟨gb523, 0, none⟩) (Kd.R_types HO_471001.out BK523.out (by decide)) (fun _ hk => hk.2) (.slice Ao149 t516.length co149)) (fun _ hk => hk.2) (.slice Ao151 t519.length co151)) (fun _ h_ => h_.1))) hb); replace HO_478000 := Aside0.mk (Kd.R_below (by (with_reducible repeat (first | apply Kd.R_alloc | apply Kd.R_drewN | apply Kd.R_drew)); exact (Kd.R_mono (Kd.R_far (p := ⟨gb523, 1, none⟩) (Kd.R_far (p := ⟨gb523, 0, none⟩) (Kd.R_types HO_478000.out BK523.out (by decide)) (fun _ hk => hk.2) (.slice Ao149 t516.length co149)) (fun _ hk => hk.2) (.slice Ao151 t519.length co151)) (fun _ h_ => h_.1))) hb); replace HO_478001 := Aside0.mk (Kd.R_below (by (with_reducible repeat (first | apply Kd.R_alloc | apply Kd.R_drewN | apply Kd.R_drew)); exact (Kd.R_mono (Kd.R_far (p := ⟨gb523, 1, none⟩) (Kd.R_far (p := ⟨gb523, 0, none⟩) (Kd.R_types HO_478001.out BK523.out (by decide)) (fun _ hk => hk.2) (.slice Ao149 t516.length co149)) (fun _ hk => hk.2) (.slice Ao151 t519.length co151)) (fun _ h_ => h_.1))) hb); replace HO_490000 := Aside0.mk (Kd.R_below (by (with_reducible repeat (first | apply Kd.R_alloc | apply Kd.R_drewN | apply Kd.R_drew)); exact (Kd.R_mono (Kd.R_far (p := ⟨gb523, 1, none⟩) (Kd.R_far (p := ⟨gb523, 0, none⟩) (Kd.R_types HO_490000.out BK523.out (by decide)) (fun _ hk => hk.2) (.slice Ao149 t516.length co149)) (fun _ hk => hk.2) (.slice Ao151 t519.length co151)) (fun _ h_ => h_.1))) hb); replace HO_490001 := Aside0.mk (Kd.R_below (by (with_reducible repeat (first | apply Kd.R_alloc | apply Kd.R_drewN | apply Kd.R_drew)); exact (Kd.R_mono (Kd.R_far (p := ⟨gb523, 1, none⟩) (Kd.R_far (p := ⟨gb523, 0, none⟩) (Kd.R_types HO_490001.out BK523.out (by decide)) (fun _ hk => hk.2) (.slice Ao149 t516.length co149)) (fun _ hk => hk.2) (.slice Ao151 t519.length co151)) (fun _ h_ => h_.1))) hb); replace HO518 := Aside0.mk (Kd.R_below (by (with_reducible repeat (first | apply Kd.R_alloc | apply Kd.R_drewN | apply Kd.R_drew)); exact (Kd.R_mono (Kd.R_far (p := ⟨gb523, 1, none⟩) (Kd.R_far (p := ⟨gb523, 0, none⟩) (Kd.R_types HO518.out BK523.out (by decide)) (fun _ hk => hk.2) (.slice Ao149 t516.length co149)) (fun _ hk => hk.2) (.slice Ao151 t519.length co151)) (fun _ h_ => h_.1))) hb); replace HO521 := Aside0.mk (Kd.R_below (by (with_reducible repeat (first | apply Kd.R_alloc | apply Kd.R_drewN | apply Kd.R_drew)); exact (Kd.R_mono (Kd.R_far (p := ⟨gb523, 1, none⟩) (Kd.R_far (p := ⟨gb523, 0, none⟩) (Kd.R_types HO521.out BK523.out (by decide)) (fun _ hk => hk.2) (.slice Ao149 t516.length co149)) (fun _ hk => hk.2) (.slice Ao151 t519.length co151)) (fun _ h_ => h_.1))) hb); replace BK450 := Aside0.mk (blk_below (g := gb450) (o := .cells #[.slice A0_0 l0_0.length c0_0, .slice A0_1 l0_1.length c0_1] 25 (0, 0)) (by (with_reducible repeat (first | refine blk_drewN ?_ _ | refine blk_drew ?_ | refine blk_alloc ?_ _)); refine blk_far ?_ NB450_523.out _; (with_reducible repeat (first | refine blk_drewN ?_ _ | refine blk_drew ?_ | refine blk_alloc ?_ _)); refine blk_far ?_ NB450_523.out _; (with_reducible repeat (first | refine blk_drewN ?_ _ | refine blk_drew ?_ | refine blk_alloc ?_ _)); exact BK450.out) hb); replace BK451 := Aside0.mk (blk_below (g := gb451) (o := .cells #[.int .i64 a1_0, .int .i64 a1_1, .int .i64 a1_2, .int .i64 a1_3] 39 (0, 0)) (by (with_reducible repeat (first | refine blk_drewN ?_ _ | refine blk_drew ?_ | refine blk_alloc ?_ _)); refine blk_far ?_ NB451_523.out _; (with_reducible repeat (first | refine blk_drewN ?_ _ | refine blk_drew ?_ | refine blk_alloc ?_ _)); refine blk_far ?_ NB451_523.out _; (with_reducible repeat (first | refine blk_drewN ?_ _ | refine blk_drew ?_ | refine blk_alloc ?_ _)); exact BK451.out) hb); replace BK470 := Aside0.mk (blk_below (g := gb470) (o := .cells #[.slice Ao30 t463.length co30, .slice Ao32 t466.length co32] 29 (0, 0)) (by (with_reducible repeat (first | refine blk_drewN ?_ _ | refine blk_drew ?_ | refine blk_alloc ?_ _)); refine blk_far ?_ NB470_523.out _; (with_reducible repeat (first | refine blk_drewN ?_ _ | refine blk_drew ?_ | refine blk_alloc ?_ _)); refine blk_far ?_ NB470_523.out _; (with_reducible repeat (first | refine blk_drewN ?_ _ | refine blk_drew ?_ | refine blk_alloc ?_ _)); exact BK470.out) hb); replace BK477 := Aside0.mk (blk_below (g := gb477) (o := .cells #[.slice Ao38 t499.length co38, .slice Ao43 t500.length co43] 29 (0, 0)) (by (with_reducible repeat (first | refine blk_drewN ?_ _ | refine blk_drew ?_ | refine blk_alloc ?_ _)); refine blk_far ?_ NB477_523.out _; (with_reducible repeat (first | refine blk_drewN ?_ _ | refine blk_drew ?_ | refine blk_alloc ?_ _)); refine blk_far ?_ NB477_523.out _; (with_reducible repeat (first | refine blk_drewN ?_ _ | refine blk_drew ?_ | refine blk_alloc ?_ _)); exact BK477.out) hb); replace BK489 := Aside0.mk (blk_below (g := gb489) (o := .cells #[.slice Ao50 t482.length co50, .slice Ao52 t485.length co52] 29 (0, 0)) (by (with_reducible repeat (first | refine blk_drewN ?_ _ | refine blk_drew ?_ | refine blk_alloc ?_ _)); refine blk_far ?_ NB489_523.out _; (with_reducible repeat (first | refine blk_drewN ?_ _ | refine blk_drew ?_ | refine blk_alloc ?_ _)); refine blk_far ?_ NB489_523.out _; (with_reducible repeat (first | refine blk_drewN ?_ _ | refine blk_drew ?_ | refine blk_alloc ?_ _)); exact BK489.out) hb); replace BK523 := Aside0.mk (blk_below (g := gb523) (o := .cells #[.slice Ao149 t516.length co149, .slice Ao151 t519.length co151] 29 (0, 0)) (by (with_reducible repeat (first | refine blk_drewN ?_ _ | refine blk_drew ?_ | refine blk_alloc ?_ _)); refine blk_put (cs := #[.slice Ao149 t516.length co149, .slice none 0 0]) ?_ 1 _ rfl; (with_reducible repeat (first | refine blk_drewN ?_ _ | refine blk_drew ?_ | refine blk_alloc ?_ _)); refine blk_put (cs := #[.slice none 0 0, .slice none 0 0]) ?_ 0 _ rfl; (with_reducible repeat (first | refine blk_drewN ?_ _ | refine blk_drew ?_ | refine blk_alloc ?_ _)); exact BK523.out) hb); replace HB := sb hb; (try clear hb hb2 hk hi)))
             go_meet
             case rel => exact ⟨_, (true), sq, H', ⟨by have := HJ15.out; have := HJ80.out; first | omega | exact Nat.le_refl _⟩, ⟨by (try simp only [hl478000_80]); (try simp only [hl478001_80]); (with_reducible repeat (first | apply Kd.R_alloc | apply Kd.R_drewN | apply Kd.R_drew)); exact Kd.R_mono HO_471000.out (fun _ hk => ⟨hk.2.2.1, ⟨hk.2.2.2, hk.2.1⟩⟩)⟩, ⟨by (try simp only [hl478000_80]); (try simp only [hl478001_80]); (with_reducible repeat (first | apply Kd.R_alloc | apply Kd.R_drewN | apply Kd.R_drew)); exact Kd.R_mono HO_471001.out (fun _ hk => ⟨hk.2.2.1, ⟨hk.2.2.2, hk.2.1⟩⟩)⟩, ⟨by (try simp only [hl478000_80]); (try simp only [hl478001_80]); (with_reducible repeat (first | apply Kd.R_alloc | apply Kd.R_drewN | apply Kd.R_drew)); exact Kd.R_mono HO_478000.out (fun _ hk => ⟨hk.2.2.1, ⟨hk.2.2.2, hk.2.1⟩⟩)⟩, ⟨by (try simp only [hl478000_80]); (try simp only [hl478001_80]); (with_reducible repeat (first | apply Kd.R_alloc | apply Kd.R_drewN | apply Kd.R_drew)); exact Kd.R_mono HO_478001.out (fun _ hk => ⟨hk.2.2.1, ⟨hk.2.2.2, hk.2.1⟩⟩)⟩, ⟨by (try simp only [hl478000_80]); (try simp only [hl478001_80]); (with_reducible repeat (first | apply Kd.R_alloc | apply Kd.R_drewN | apply Kd.R_drew)); exact Kd.R_mono HO_490000.out (fun _ hk => ⟨hk.2.2.1, ⟨hk.2.2.2, hk.2.1⟩⟩)⟩, ⟨by (try simp only [hl478000_80]); (try simp only [hl478001_80]); (with_reducible repeat (first | apply Kd.R_alloc | apply Kd.R_drewN | apply Kd.R_drew)); exact Kd.R_mono HO_490001.out (fun _ hk => ⟨hk.2.2.1, ⟨hk.2.2.2, hk.2.1⟩⟩)⟩, ⟨by (try simp only [hl478000_80]); (try simp only [hl478001_80]); (with_reducible repeat (first | apply Kd.R_alloc | apply Kd.R_drewN | apply Kd.R_drew)); exact Kd.R_mono HO518.out (fun _ hk => ⟨hk.2.1, ⟨hk.2.2.1, hk.2.2.2⟩⟩)⟩, ⟨by (try simp only [hl478000_80]); (try simp only [hl478001_80]); (with_reducible repeat (first | apply Kd.R_alloc | apply Kd.R_drewN | apply Kd.R_drew)); exact Kd.R_mono HO521.out (fun _ hk => ⟨hk.2.1, ⟨hk.2.2.1, hk.2.2.2⟩⟩)⟩, ⟨by (try simp only [hl478000_80]); (try simp only [hl478001_80]); (with_reducible repeat (first | refine blk_drewN ?_ _ | refine blk_drew ?_ | refine blk_alloc ?_ _)); exact BK450.out⟩, ⟨by (try simp only [hl478000_80]); (try simp only [hl478001_80]); (with_reducible repeat (first | refine blk_drewN ?_ _ | refine blk_drew ?_ | refine blk_alloc ?_ _)); exact BK451.out⟩, ⟨by (try simp only [hl478000_80]); (try simp only [hl478001_80]); (with_reducible repeat (first | refine blk_drewN ?_ _ | refine blk_drew ?_ | refine blk_alloc ?_ _)); exact BK470.out⟩, ⟨by (try simp only [hl478000_80]); (try simp only [hl478001_80]); (with_reducible repeat (first | refine blk_drewN ?_ _ | refine blk_drew ?_ | refine blk_alloc ?_ _)); exact BK477.out⟩, ⟨by (try simp only [hl478000_80]); (try simp only [hl478001_80]); (with_reducible repeat (first | refine blk_drewN ?_ _ | refine blk_drew ?_ | refine blk_alloc ?_ _)); exact BK489.out⟩, ⟨by (try simp only [hl478000_80]); (try simp only [hl478001_80]); (with_reducible repeat (first | refine blk_drewN ?_ _ | refine blk_drew ?_ | refine blk_alloc ?_ _)); exact BK523.out⟩, ⟨bq⟩⟩
           case rest =>
            clear HC132
            try clear c1
            try clear p2
            try clear c9
            try clear c11
            try clear c15
            try clear c16
            try clear c17
            try clear c18
            try clear c154
            try clear c155
            try clear c156
            try clear c157
            try clear c158
            try clear c159
            try clear c161
            try clear c162
            try clear c163
            try clear c164
            try clear c167
            try clear c168
            try clear c169
            try clear c170
            try clear c171
            try clear c173
            try clear c174
            try clear c175
            try clear c176
            try clear hcz160_0
            try clear hcz160_1
            try clear hcz165_0
            try clear hcz165_1
            try clear hcz172_0
            try clear hcz172_1
            try clear hcz177_0
            try clear hcz177_1
            try clear hfz160_0
            try clear hfz160_1
            try clear hfz165_0
            try clear hfz165_1
            try clear hfz172_0
            try clear hfz172_1
            try clear hfz177_0
            try clear hfz177_1
            obtain ⟨kq, x95_131, rfl, HA, HJ131, HO_471000, HO_471001, HO_478000, HO_478001, HO_490000, HO_490001, HO_524000, HO_524001, BK450, BK451, BK470, BK477, BK489, BK523, HB⟩ := hcut
            have hl490000_131 := (Kd.R_reads' HO_490000.out).1
            rw [hl490000_131] at HO_490000
            (try simp only [hl490000_131])
            (try simp only [hl490000_131] at BK450)
            (try simp only [hl490000_131] at BK451)
            (try simp only [hl490000_131] at BK470)
            (try simp only [hl490000_131] at BK477)
            (try simp only [hl490000_131] at BK489)
            (try simp only [hl490000_131] at BK523)
            (try simp only [hl490000_131] at HO_471000)
            (try simp only [hl490000_131] at HO_471001)
            (try simp only [hl490000_131] at HO_478000)
            (try simp only [hl490000_131] at HO_478001)
            (try simp only [hl490000_131] at HO_490001)
            (try simp only [hl490000_131] at HO_524000)
            (try simp only [hl490000_131] at HO_524001)
            have hl490001_131 := (Kd.R_reads' HO_490001.out).1
            rw [hl490001_131] at HO_490001
            (try simp only [hl490001_131])
            (try simp only [hl490001_131] at BK450)
            (try simp only [hl490001_131] at BK451)
            (try simp only [hl490001_131] at BK470)
            (try simp only [hl490001_131] at BK477)
            (try simp only [hl490001_131] at BK489)
            (try simp only [hl490001_131] at BK523)
            (try simp only [hl490001_131] at HO_471000)
            (try simp only [hl490001_131] at HO_471001)
            (try simp only [hl490001_131] at HO_478000)
            (try simp only [hl490001_131] at HO_478001)
            (try simp only [hl490001_131] at HO_490000)
            (try simp only [hl490001_131] at HO_524000)
            (try simp only [hl490001_131] at HO_524001)
            cases kq with
            | zero => exact absurd HA.out (by simp [laws_FnExactLendParts.j2])
            | succ kj131 =>
             have H := HA.out
             clear HA
             simp only [laws_FnExactLendParts.j2] at H
             by_cases c179 : x95_131 = true
             ·subst c179
              rw [if_pos rfl] at H
              try dsimp only at H
              obtain rfl := Option.some.inj H
              go_wp2
              go_ret
              exact ⟨eq_, bq⟩
             ·replace c179 := Bool.eq_false_iff.mpr c179
              subst c179
              rw [if_neg (show ¬ (false = true) by decide)] at H
              try dsimp only at H
              obtain ⟨t525, A180, H⟩ := bindq H
              try dsimp only at H
              by_cases c181 : t525 < 0
              ·rw [if_pos c181] at H
               have c181b0 : decide (t525 < 0) = true := decide_eq_true c181
               clear c181
               obtain rfl := Option.some.inj H
               have hnb182 := NB489_450.out
               have hnc182 := NB450_489.out
               have hnb183 := NB489_451.out
               have hnc183 := NB451_489.out
               have hnb184 := NB489_470.out
               have hnc184 := NB470_489.out
               have hnb185 := NB489_477.out
               have hnc185 := NB477_489.out
               have hnb186 := NB489_523.out
               have hnc186 := NB523_489.out
               have ⟨hcz187_0, hcz187_1, hfz187_0, hfz187_1⟩ := bc2 BK489
               go_wp2_with (first | ((with_reducible refine gate_callee (f := 13) rfl ?_); refine goesQ (some 98) Try.func13 #[.agg #[.slice Ao50 t503.length co50, .slice Ao52 t504.length co52], .int .i64 1] ?_; (with_reducible refine (laws_heldShop.calls kj131 _ _ t503 _ _ t504 1 t525 _ ?s1 ?s2 ?s3 ?s4 A180.out).mono ?_); (case s1 => exact cr HO_490000); (case s2 => exact r1 HO_490000); (case s3 => exact cr HO_490001); (case s4 => exact r1 HO_490001); rintro e w188 ⟨rfl, hb⟩; refine ⟨_, rfl, ?_⟩; replace HO_471000 := rb HO_471000 hb; replace HO_471001 := rb HO_471001 hb; replace HO_478000 := rb HO_478000 hb; replace HO_478001 := rb HO_478001 hb; replace HO_490000 := rb HO_490000 hb; replace HO_490001 := rb HO_490001 hb; replace BK450 := zb BK450 hb; replace BK477 := zb BK477 hb; replace BK489 := zb BK489 hb; replace HB := sb hb; (try clear hb)))
               go_ret
               exact ⟨eq_, bq⟩
              ·rw [if_neg c181] at H
               have c181b0 : decide (t525 < 0) = false := decide_eq_false c181
               clear c181
               by_cases c189 : t525 = t502
               ·rw [if_pos c189] at H
                have c189b0 : (t525 == t502) = true := beq_iff_eq.mpr c189
                have c189b1 : (t525 != t502) = false := bne_eq_false_iff_eq.mpr c189
                clear c189
                obtain rfl := Option.some.inj H
                have hnb190 := NB489_450.out
                have hnc190 := NB450_489.out
                have hnb191 := NB489_451.out
                have hnc191 := NB451_489.out
                have hnb192 := NB489_470.out
                have hnc192 := NB470_489.out
                have hnb193 := NB489_477.out
                have hnc193 := NB477_489.out
                have hnb194 := NB489_523.out
                have hnc194 := NB523_489.out
                have ⟨hcz195_0, hcz195_1, hfz195_0, hfz195_1⟩ := bc2 BK489
                go_wp2_with (first | ((with_reducible refine gate_callee (f := 13) rfl ?_); refine goesQ (some 98) Try.func13 #[.agg #[.slice Ao50 t503.length co50, .slice Ao52 t504.length co52], .int .i64 1] ?_; (with_reducible refine (laws_heldShop.calls kj131 _ _ t503 _ _ t504 1 t525 _ ?s1 ?s2 ?s3 ?s4 A180.out).mono ?_); (case s1 => exact cr HO_490000); (case s2 => exact r1 HO_490000); (case s3 => exact cr HO_490001); (case s4 => exact r1 HO_490001); rintro e w196 ⟨rfl, hb⟩; refine ⟨_, rfl, ?_⟩; replace HO_471000 := rb HO_471000 hb; replace HO_471001 := rb HO_471001 hb; replace HO_478000 := rb HO_478000 hb; replace HO_478001 := rb HO_478001 hb; replace HO_490000 := rb HO_490000 hb; replace HO_490001 := rb HO_490001 hb; replace BK450 := zb BK450 hb; replace BK477 := zb BK477 hb; replace BK489 := zb BK489 hb; replace HB := sb hb; (try clear hb)))
                go_ret
                exact ⟨eq_, bq⟩
               ·rw [if_neg c189] at H
                have c189b0 : (t525 == t502) = false := beq_eq_false_iff_ne.mpr c189
                have c189b1 : (t525 != t502) = true := bne_iff_ne.mpr c189
                obtain rfl := Option.some.inj H
                have hnb197 := NB489_450.out
                have hnc197 := NB450_489.out
                have hnb198 := NB489_451.out
                have hnc198 := NB451_489.out
                have hnb199 := NB489_470.out
                have hnc199 := NB470_489.out
                have hnb200 := NB489_477.out
                have hnc200 := NB477_489.out
                have hnb201 := NB489_523.out
                have hnc201 := NB523_489.out
                have ⟨hcz202_0, hcz202_1, hfz202_0, hfz202_1⟩ := bc2 BK489
                go_wp2_with (first | ((with_reducible refine gate_callee (f := 13) rfl ?_); refine goesQ (some 98) Try.func13 #[.agg #[.slice Ao50 t503.length co50, .slice Ao52 t504.length co52], .int .i64 1] ?_; (with_reducible refine (laws_heldShop.calls kj131 _ _ t503 _ _ t504 1 t525 _ ?s1 ?s2 ?s3 ?s4 A180.out).mono ?_); (case s1 => exact cr HO_490000); (case s2 => exact r1 HO_490000); (case s3 => exact cr HO_490001); (case s4 => exact r1 HO_490001); rintro e w203 ⟨rfl, hb⟩; refine ⟨_, rfl, ?_⟩; replace HO_471000 := rb HO_471000 hb; replace HO_471001 := rb HO_471001 hb; replace HO_478000 := rb HO_478000 hb; replace HO_478001 := rb HO_478001 hb; replace HO_490000 := rb HO_490000 hb; replace HO_490001 := rb HO_490001 hb; replace BK450 := zb BK450 hb; replace BK477 := zb BK477 hb; replace BK489 := zb BK489 hb; replace HB := sb hb; (try clear hb)))
                go_ret
                exact ⟨eq_, bq⟩
          ·rw [if_neg c128] at H
           have c128b0 : (t505 == t502) = false := beq_eq_false_iff_ne.mpr c128
           have c128b1 : (t505 != t502) = true := bne_iff_ne.mpr c128
           obtain rfl := Option.some.inj H
           have hnb204 := NB489_450.out
           have hnc204 := NB450_489.out
           have hnb205 := NB489_451.out
           have hnc205 := NB451_489.out
           have hnb206 := NB489_470.out
           have hnc206 := NB470_489.out
           have hnb207 := NB489_477.out
           have hnc207 := NB477_489.out
           have ⟨hcz208_0, hcz208_1, hfz208_0, hfz208_1⟩ := bc2 BK489
           go_wp2_with (first | ((with_reducible refine gate_callee (f := 12) rfl ?_); refine goesQ (some 70) Try.func12 #[.agg #[.slice Ao50 t482.length co50, .slice Ao52 t485.length co52], .int .i64 1] ?_; (with_reducible refine (laws_markShop.calls kj80 (fun k_ => some k_ = (.slice Ao50 t482.length co50 : Value).ownBlock) (.slice Ao50 t482.length co50) t482 (fun k_ => some k_ = (.slice Ao52 t485.length co52 : Value).ownBlock) (.slice Ao52 t485.length co52) t485 1 t502 t503 t504 w _ ?s1 ?s2 ?s3 A117.out).mono ?_); (case s1 => repeat (first | (with_reducible first | exact HB.out | apply below_alloc | apply pw_below_drewN | apply below_drew1 | refine below_set ?_ GE450.out | refine below_set ?_ GE451.out | refine below_set ?_ GE470.out | refine below_set ?_ GE477.out | refine below_set ?_ GE489.out) | exact HB.out)); (case s2 => exact Kd.R_tight rfl HO_490000.out); (case s3 => exact Kd.R_tight rfl HO_490001.out); rintro e w209 ⟨rfl, hy0, hy1, hb, hkp⟩; refine ⟨_, rfl, ?_⟩; replace HO_471000 := Aside0.mk (Kd.R_mono (ok' := fun k_ => some k_ ≠ (.slice Ao38 t499.length co38 : Value).ownBlock ∧ some k_ ≠ (.slice Ao50 t482.length co50 : Value).ownBlock) (Kd.R_keptB ((Kd.R_apart' HO_471000.out (Kd.R_typed HO_490001.out) (by decide))) hkp (fun k_ hk_ hs_ => Or.elim hs_ (fun e_ => (hk_.1.2) e_) (fun e_ => (hk_.2) e_))) (fun k_ hk_ => ⟨hk_.1.1.1, hk_.1.1.2⟩)); replace HO_471001 := Aside0.mk (Kd.R_mono (ok' := fun k_ => some k_ ≠ (.slice Ao43 t500.length co43 : Value).ownBlock ∧ some k_ ≠ (.slice Ao52 t485.length co52 : Value).ownBlock) (Kd.R_keptB ((Kd.R_apart' HO_471001.out (Kd.R_typed HO_490000.out) (by decide))) hkp (fun k_ hk_ hs_ => Or.elim hs_ (fun e_ => (hk_.2) e_) (fun e_ => (hk_.1.2) e_))) (fun k_ hk_ => ⟨hk_.1.1.1, hk_.1.1.2⟩)); replace HO_478000 := Aside0.mk (Kd.R_mono (ok' := fun k_ => some k_ ≠ (.slice Ao30 t463.length co30 : Value).ownBlock ∧ some k_ ≠ (.slice Ao50 t482.length co50 : Value).ownBlock) (Kd.R_keptB ((Kd.R_apart' HO_478000.out (Kd.R_typed HO_490001.out) (by decide))) hkp (fun k_ hk_ hs_ => Or.elim hs_ (fun e_ => (hk_.1.2) e_) (fun e_ => (hk_.2) e_))) (fun k_ hk_ => ⟨hk_.1.1.1, hk_.1.1.2⟩)); replace HO_478001 := Aside0.mk (Kd.R_mono (ok' := fun k_ => some k_ ≠ (.slice Ao32 t466.length co32 : Value).ownBlock ∧ some k_ ≠ (.slice Ao52 t485.length co52 : Value).ownBlock) (Kd.R_keptB ((Kd.R_apart' HO_478001.out (Kd.R_typed HO_490000.out) (by decide))) hkp (fun k_ hk_ hs_ => Or.elim hs_ (fun e_ => (hk_.2) e_) (fun e_ => (hk_.1.2) e_))) (fun k_ hk_ => ⟨hk_.1.1.1, hk_.1.1.2⟩)); replace BK450 := Aside0.mk (blk_kept (zq BK450) hkp (fun hs_ => Or.elim hs_ (fun e_ => (fun e_ => (Kd.R_ne HO_490000.out BK450.out (by decide)) e_) e_) (fun e_ => (fun e_ => (Kd.R_ne HO_490001.out BK450.out (by decide)) e_) e_))); replace BK477 := Aside0.mk (blk_kept (zq BK477) hkp (fun hs_ => Or.elim hs_ (fun e_ => (fun e_ => (Kd.R_ne HO_490000.out BK477.out (by decide)) e_) e_) (fun e_ => (fun e_ => (Kd.R_ne HO_490001.out BK477.out (by decide)) e_) e_))); replace BK489 := Aside0.mk (blk_kept (zq BK489) hkp (fun hs_ => Or.elim hs_ (fun e_ => (fun e_ => (Kd.R_ne HO_490000.out BK489.out (by decide)) e_) e_) (fun e_ => (fun e_ => (Kd.R_ne HO_490001.out BK489.out (by decide)) e_) e_))); replace HO_490000 := Aside0.mk (Kd.R_reok rfl hy0 (fun k_ e_ => HO_490000.out.1 k_ e_)); replace HO_490001 := Aside0.mk (Kd.R_reok rfl hy1 (fun k_ e_ => HO_490001.out.1 k_ e_)); replace HB := Aside0.mk (hb); (try clear hb hkp hy0 hy1); have ⟨hcz210_0, hcz210_1, hfz210_0, hfz210_1⟩ := bc2 BK489) | ((with_reducible refine gate_callee (f := 13) rfl ?_); refine goesL_ (some 73) rfl rfl Try.func13 (by kernel_rfl) rfl #[.agg #[.slice Ao50 t503.length co50, .slice Ao52 t504.length co52], .int .i64 1] rfl (by (try simp only [List.map_toArray, List.map_cons, List.map_nil]); first | done | (rw [show t503.length = t482.length from (Kd.R_reads' HO_490000.out).1.symm, show t504.length = t485.length from (Kd.R_reads' HO_490001.out).1.symm] <;> rfl) | rfl | (simp only [List.length_drop, List.length_take]; rfl)) ?_; (with_reducible refine (laws_heldShop.calls kj80 _ _ t503 _ _ t504 1 t505 _ ?s1 ?s2 ?s3 ?s4 A118.out).mono ?_); (case s1 => exact cr HO_490000); (case s2 => rw [show t503.length = t482.length from (Kd.R_reads' HO_490000.out).1.symm]; exact r1 HO_490000); (case s3 => exact cr HO_490001); (case s4 => rw [show t504.length = t485.length from (Kd.R_reads' HO_490001.out).1.symm]; exact r1 HO_490001); rintro e w211 ⟨rfl, hb⟩; refine ⟨_, rfl, ?_⟩; replace HO_471000 := rb HO_471000 hb; replace HO_471001 := rb HO_471001 hb; replace HO_478000 := rb HO_478000 hb; replace HO_478001 := rb HO_478001 hb; replace HO_490000 := rb HO_490000 hb; replace HO_490001 := rb HO_490001 hb; replace BK450 := zb BK450 hb; replace BK477 := zb BK477 hb; replace HB := sb hb; (try clear hb)))
           go_ret
           exact ⟨eq_, bq⟩
     ·replace c79 := Bool.eq_false_iff.mpr c79
      subst c79
      rw [if_neg (show ¬ (false = true) by decide)] at H
      try dsimp only at H
      obtain rfl := Option.some.inj H
      try go_wp2
      replace HO_471000 := Aside0.mk (Kd.R_drew HO_471000.out)
      replace HO_471001 := Aside0.mk (Kd.R_drew HO_471001.out)
      replace HO_478000 := Aside0.mk (Kd.R_drew HO_478000.out)
      replace HO_478001 := Aside0.mk (Kd.R_drew HO_478001.out)
      replace HO_490000 := Aside0.mk (Kd.R_drew HO_490000.out)
      replace HO_490001 := Aside0.mk (Kd.R_drew HO_490001.out)
      replace BK450 := Aside0.mk (blk_drew BK450.out)
      replace BK477 := Aside0.mk (blk_drew BK477.out)
      replace HB := Aside0.mk (below_drew1 HB.out)
      refine start_ (n := 5) (S := fun w' => w'.cell? ⟨gb477, 0, none⟩ = some (.slice Ao38 t471.length co38) ∧ w'.cell? ⟨gb477, 1, none⟩ = some (.slice Ao43 t474.length co43) ∧ w'.cell? ⟨gb450, 0, none⟩ = some (.slice A0_0 l0_0.length c0_0) ∧ w'.cell? ⟨gb450, 1, none⟩ = some (.slice A0_1 l0_1.length c0_1)) (ds := []) #[false, false, false, false, false] (by kernel_rfl) rfl rfl ⟨(blk_cell BK477.out 0).trans rfl, (blk_cell BK477.out 1).trans rfl, (blk_cell BK450.out 0).trans rfl, (blk_cell BK450.out 1).trans rfl⟩ (fun hHeld => ?_)
      generalize wc.drew = w212 at HO_471000 HO_471001 HO_478000 HO_478001 HO_490000 HO_490001 BK450 BK477 HB hHeld ⊢
      refine take_ (i := 0) (N := some 47) (v := ?_) (a' := ?_) #[true, false, false, false, false] rfl rfl (by kernel_rfl) (fun _ _ _ h => h) (Or.inl ⟨by rfl, ?_⟩) hHeld ?_ ?_
      rotate_left
      ·rintro w' ⟨s0, s1, s2, s3⟩
       go_simp
       with_reducible rfl
      rotate_left
      ·simp only [Act.put, List.setIfInBounds_toArray, List.set_cons_zero, List.set_cons_succ, i64_w, i32_w]
       rfl
      refine take_ (i := 1) (N := some 48) (v := ?_) (a' := ?_) #[true, true, false, false, false] rfl rfl (by kernel_rfl) (fun _ _ _ h => h) (Or.inl ⟨by rfl, ?_⟩) hHeld ?_ ?_
      rotate_left
      ·rintro w' ⟨s0, s1, s2, s3⟩
       go_simp
       with_reducible rfl
      rotate_left
      ·simp only [Act.put, List.setIfInBounds_toArray, List.set_cons_zero, List.set_cons_succ, i64_w, i32_w]
       rfl
      refine one_ (i := 2) (N := some 49) #[true, true, true, false, false] rfl rfl (by kernel_rfl) (by decide) (fun K hK => ?_)
      refine goes_ Try.func9 (by kernel_rfl) rfl #[.agg #[.slice A0_0 l0_0.length c0_0, .slice A0_1 l0_1.length c0_1]] (by rfl) rfl rfl mq ?_
      with_reducible refine (laws_toShop.calls kj15 _ _ l0_0 _ _ l0_1 t491 t494 _ ?s1 ?s2 ?s3 ?s4 A77.out).mono ?_
      (case s1 => exact cq (Kd.C_below HR0_0.out HB.out))
      (case s2 => exact HC0_0.out)
      (case s3 => exact cq (Kd.C_below HR0_1.out HB.out))
      (case s4 => exact HC0_1.out)
      rintro e w213 ⟨v492, v495, rfl, ho0, ho1, hb⟩
      refine ⟨_, rfl, ?_⟩
      have HO493 := Aside0.mk (Kd.R_lower (Kd.R_new' (Kd.R_new' (Kd.R_new' ho0 (Kd.R_lt (rq HO_471000))) (Kd.R_lt (rq HO_478000))) (Kd.R_lt (rq HO_490000))) (below_size bq))
      replace HO_478000 := Aside0.mk (Kd.R_elder' (rq HO_478000) (Kd.R_base ho0) hb)
      have HO496 := Aside0.mk (Kd.R_lower (Kd.R_new' (Kd.R_new' (Kd.R_new' ho1 (Kd.R_lt (rq HO_471001))) (Kd.R_lt (rq HO_478001))) (Kd.R_lt (rq HO_490001))) (below_size bq))
      replace HO_478001 := Aside0.mk (Kd.R_elder' (rq HO_478001) (Kd.R_base ho1) hb)
      replace BK450 := zb BK450 hb
      replace BK477 := zb BK477 hb
      replace HB := sb hb
      (try clear hb ho0 ho1)
      obtain ⟨Ao214, co214, eo214⟩ := Kd.R_slice HO493.out
      (first | subst eo214 | (injection eo214 with f1_ f2_ f3_; have f4_ := f1_.symm; have f5_ := f3_.symm; clear f1_ f2_ f3_; subst f4_; subst f5_))
      obtain ⟨Ao215, co215, eo215⟩ := Kd.R_slice HO496.out
      (first | subst eo215 | (injection eo215 with f1_ f2_ f3_; have f4_ := f1_.symm; have f5_ := f3_.symm; clear f1_ f2_ f3_; subst f4_; subst f5_))
      refine hK.out _ _ ⟨(blk_cell BK477.out 0).trans rfl, (blk_cell BK477.out 1).trans rfl, (blk_cell BK450.out 0).trans rfl, (blk_cell BK450.out 1).trans rfl⟩ (fun hHeld => ?_)
      clear hK K
      refine norm_ (a' := ?_) ?_ ?_
      rotate_left
      ·show Act.put _ (some 49) _ = _
       simp only [Act.put, List.setIfInBounds_toArray, List.set_cons_zero, List.set_cons_succ, i64_w, i32_w]
       rfl
      refine one_ (i := 3) (N := some 50) #[true, true, true, true, false] rfl rfl (by kernel_rfl) (by decide) (fun K hK => ?_)
      refine goes_ Try.func11 (by kernel_rfl) rfl #[.agg #[.slice Ao38 t471.length co38, .slice Ao43 t474.length co43], .agg #[.slice Ao214 t491.length co214, .slice Ao215 t494.length co215]] (by rfl) rfl rfl mq ?_
      with_reducible refine (laws_eqShop.calls kj15 _ _ t471 _ _ t474 _ _ t491 _ _ t494 false _ ?s1 ?s2 ?s3 ?s4 ?s5 ?s6 ?s7 ?s8 A78.out).mono ?_
      (case s1 => exact cr HO_478000)
      (case s2 => exact r1 HO_478000)
      (case s3 => exact cr HO_478001)
      (case s4 => exact r1 HO_478001)
      (case s5 => exact cr HO493)
      (case s6 => exact r1 HO493)
      (case s7 => exact cr HO496)
      (case s8 => exact r1 HO496)
      rintro e w216 ⟨rfl, hb⟩
      refine ⟨_, rfl, ?_⟩
      replace BK450 := zb BK450 hb
      replace BK477 := zb BK477 hb
      replace HB := sb hb
      (try clear hb)
      refine hK.out _ _ ⟨(blk_cell BK477.out 0).trans rfl, (blk_cell BK477.out 1).trans rfl, (blk_cell BK450.out 0).trans rfl, (blk_cell BK450.out 1).trans rfl⟩ (fun hHeld => ?_)
      clear hK K
      refine norm_ (a' := ?_) ?_ ?_
      rotate_left
      ·show Act.put _ (some 50) _ = _
       simp only [Act.put, List.setIfInBounds_toArray, List.set_cons_zero, List.set_cons_succ, i64_w, i32_w]
       rfl
      refine pure_ (i := 4) (N := some 51) (v := ?_) (a' := ?_) #[true, true, true, true, true] rfl rfl (by kernel_rfl) (fun _ _ _ h => h) (Or.inl ⟨by rfl, ?_⟩) ?_ ?_
      rotate_left
      ·intro w'
       go_simp
       with_reducible rfl
      rotate_left
      ·simp only [Act.put, List.setIfInBounds_toArray, List.set_cons_zero, List.set_cons_succ, i64_w, i32_w]
       rfl
      refine done_ (by kernel_rfl) ?_
      try go_wp2
      go_ret
      exact ⟨eq_, bq⟩




end Go.Proofs.Ytokigipkoeeddaa.Pall
