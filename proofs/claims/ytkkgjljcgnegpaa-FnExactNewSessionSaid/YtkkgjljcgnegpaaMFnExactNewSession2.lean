-- written by the kit's print program, put together by a program
import Derived.Test.YtkkgjljcgnegpaaMFnExactNewSession1
namespace Go.Proofs.Ytkkgjljcgnegpaa.Pall
open Go.RowKit Go.Proofs.YtkkgjljcgnegpaaW.PrintWords Go.Proofs.YtkkgjljcgnegpaaW.PrintLast Go.Proofs.YtkkgjljcgnegpaaW.PrintMore
attribute [local go_sem] max2_int min2_int max_two min_two max_three min_three max_four min_four   -- for this text's walks alone
set_option linter.unusedVariables false
set_option linter.unusedSimpArgs false
/-! ### laws_FnExactNewSession: function 4 -/
mutual
def laws_FnExactNewSession.j0 : Nat → Bool → Bool → Bool → Int → Int → List (S54) → Int → Int → List (S58) → List (S60) → List (S60) → Int → Int → List (S58) → Int → Int → List (S58) → List (S60) → List (S60) → Option (Bool)
 | 0, _, _, _, _, _, _, _, _, _, _, _, _, _, _, _, _, _, _, _ => none
 | k + 1, x5, x8, x40, x319000, x319001, x319002, x338000, x338001, x338002, x338003, x338004, x344000, x344001, x344002, x357000, x357001, x357002, x357003, x357004 => if x40 = true then (some false) else ((laws_toBoard.f k x319000 x319001 x319002).bind fun bt358 => ((laws_eqBoard.f k x344000 x344001 x344002 bt358.1 bt358.2.1 bt358.2.2).bind fun t363 => (if t363 = true then ((laws_markBoard.f k x344000 x344001 x344002 1).bind fun bt364 => (if bt364.1 < 0 then (laws_FnExactNewSession.j1 k x5 true x319000 x319001 x319002 x338000 x338001 x338002 x338003 x338004 x357000 x357001 x357002 x357003 x357004) else ((laws_eqSession.f k x357000 x357001 x357002 x357003 x357004 x338000 x338001 x338002 x338003 x338004).bind fun t366 => (if t366 = true then (laws_FnExactNewSession.j1 k x5 (x8 != x5) x319000 x319001 x319002 x338000 x338001 x338002 x338003 x338004 x357000 x357001 x357002 x357003 x357004) else (laws_FnExactNewSession.j1 k x5 true x319000 x319001 x319002 x338000 x338001 x338002 x338003 x338004 x357000 x357001 x357002 x357003 x357004))))) else (some false))))
def laws_FnExactNewSession.j1 : Nat → Bool → Bool → Int → Int → List (S54) → Int → Int → List (S58) → List (S60) → List (S60) → Int → Int → List (S58) → List (S60) → List (S60) → Option (Bool)
 | 0, _, _, _, _, _, _, _, _, _, _, _, _, _, _, _ => none
 | k + 1, x5, x61, x319000, x319001, x319002, x338000, x338001, x338002, x338003, x338004, x357000, x357001, x357002, x357003, x357004 => if x61 = true then (some false) else ((laws_markSession.f k x357000 x357001 x357002 x357003 x357004 1).bind fun bt367 => ((laws_heldSession.f k x357000 x357001 bt367.2.1 bt367.2.2.1 bt367.2.2.2 1).bind fun t371 => (if t371 < 0 then (some false) else (if t371 = bt367.1 then ((laws_toBoard.f k x319000 x319001 x319002).bind fun bt372 => ((impl_NewSession.f k bt372.1 bt372.2.1 bt372.2.2).bind fun bt377 => ((laws_eqSession.f k bt377.1 bt377.2.1 bt377.2.2.1 bt377.2.2.2.1 bt377.2.2.2.2.1 x338000 x338001 x338002 x338003 x338004).bind fun t390 => (if t390 = true then (laws_FnExactNewSession.j2 k bt367.1 (bt377.2.2.2.2.2 != x5) x357000 x357001 bt367.2.1 bt367.2.2.1 bt367.2.2.2) else (laws_FnExactNewSession.j2 k bt367.1 true x357000 x357001 bt367.2.1 bt367.2.2.1 bt367.2.2.2))))) else (some false)))))
def laws_FnExactNewSession.j2 : Nat → Int → Bool → Int → Int → List (S58) → List (S60) → List (S60) → Option (Bool)
 | 0, _, _, _, _, _, _, _ => none
 | k + 1, x10, x87, x357000, x357001, x357002, x357003, x357004 => if x87 = true then (some false) else ((laws_heldSession.f k x357000 x357001 x357002 x357003 x357004 1).bind fun t391 => (if t391 < 0 then (some false) else (if t391 = x10 then (some true) else (some false))))
end
def laws_FnExactNewSession.f (k : Nat) (a0_0 : Int) (a0_1 : Int) (l0_2 : List (S54)) : Option (Bool) := (laws_szBoard.f a0_0 a0_1 l0_2 1048576).bind fun t319 => (if t319 < 0 then (some true) else ((laws_toBoard.f k a0_0 a0_1 l0_2).bind fun bt320 => ((spec_NewSession.f k bt320.1 bt320.2.1 bt320.2.2).bind fun bt325 => ((laws_toBoard.f k a0_0 a0_1 l0_2).bind fun bt338 => ((impl_NewSession.f k bt338.1 bt338.2.1 bt338.2.2).bind fun bt344 => ((laws_eqSession.f k bt344.1 bt344.2.1 bt344.2.2.1 bt344.2.2.2.1 bt344.2.2.2.2.1 bt325.1 bt325.2.1 bt325.2.2.1 bt325.2.2.2.1 bt325.2.2.2.2.1).bind fun t357 => (if t357 = true then (laws_FnExactNewSession.j0 k bt325.2.2.2.2.2 bt344.2.2.2.2.2 (bt344.2.2.2.2.2 != bt325.2.2.2.2.2) a0_0 a0_1 l0_2 bt325.1 bt325.2.1 bt325.2.2.1 bt325.2.2.2.1 bt325.2.2.2.2.1 bt338.1 bt338.2.1 bt338.2.2 bt344.1 bt344.2.1 bt344.2.2.1 bt344.2.2.2.1 bt344.2.2.2.2.1) else (laws_FnExactNewSession.j0 k bt325.2.2.2.2.2 bt344.2.2.2.2.2 true a0_0 a0_1 l0_2 bt325.1 bt325.2.1 bt325.2.2.1 bt325.2.2.2.1 bt325.2.2.2.2.1 bt338.1 bt338.2.1 bt338.2.2 bt344.1 bt344.2.1 bt344.2.2.1 bt344.2.2.2.1 bt344.2.2.2.2.1))))))))
theorem laws_FnExactNewSession.mono_l : ∀ k, (∀ y0 y1 y2 y3 y4 y5 y6 y7 y8 y9 y10 y11 y12 y13 y14 y15 y16 y17 y18, LeO (laws_FnExactNewSession.j0 k y0 y1 y2 y3 y4 y5 y6 y7 y8 y9 y10 y11 y12 y13 y14 y15 y16 y17 y18) (laws_FnExactNewSession.j0 (k + 1) y0 y1 y2 y3 y4 y5 y6 y7 y8 y9 y10 y11 y12 y13 y14 y15 y16 y17 y18)) ∧ (∀ y0 y1 y2 y3 y4 y5 y6 y7 y8 y9 y10 y11 y12 y13 y14, LeO (laws_FnExactNewSession.j1 k y0 y1 y2 y3 y4 y5 y6 y7 y8 y9 y10 y11 y12 y13 y14) (laws_FnExactNewSession.j1 (k + 1) y0 y1 y2 y3 y4 y5 y6 y7 y8 y9 y10 y11 y12 y13 y14)) ∧ (∀ y0 y1 y2 y3 y4 y5 y6, LeO (laws_FnExactNewSession.j2 k y0 y1 y2 y3 y4 y5 y6) (laws_FnExactNewSession.j2 (k + 1) y0 y1 y2 y3 y4 y5 y6))
 | 0 => ⟨fun _ _ _ _ _ _ _ _ _ _ _ _ _ _ _ _ _ _ _ r h => by simp [laws_FnExactNewSession.j0] at h, fun _ _ _ _ _ _ _ _ _ _ _ _ _ _ _ r h => by simp [laws_FnExactNewSession.j1] at h, fun _ _ _ _ _ _ _ r h => by simp [laws_FnExactNewSession.j2] at h⟩
 | k + 1 => by
  obtain ⟨ih0, ih1, ih2⟩ := laws_FnExactNewSession.mono_l k
  refine ⟨?_, ?_, ?_⟩
  ·intro y0 y1 y2 y3 y4 y5 y6 y7 y8 y9 y10 y11 y12 y13 y14 y15 y16 y17 y18
   unfold laws_FnExactNewSession.j0
   repeat' first
   | (with_reducible exact ih0 _ _ _ _ _ _ _ _ _ _ _ _ _ _ _ _ _ _ _)
   | (with_reducible exact ih1 _ _ _ _ _ _ _ _ _ _ _ _ _ _ _)
   | (with_reducible exact ih2 _ _ _ _ _ _ _)
   | (with_reducible exact impl_NewSession.mono _ _ _ _)
   | (with_reducible exact laws_eqBoard.mono _ _ _ _ _ _ _)
   | (with_reducible exact laws_eqSession.mono _ _ _ _ _ _ _ _ _ _ _)
   | (with_reducible exact laws_heldSession.mono _ _ _ _ _ _ _)
   | (with_reducible exact laws_markBoard.mono _ _ _ _ _)
   | (with_reducible exact laws_markSession.mono _ _ _ _ _ _ _)
   | (with_reducible exact laws_toBoard.mono _ _ _ _)
   | (with_reducible exact spec_NewSession.mono _ _ _ _)
   | (with_reducible exact LeO.refl _)
   | (with_reducible exact LeO.none _)
   | (with_reducible refine LeO.ite ?_ ?_)
   | (with_reducible refine LeO.bind ?_ (fun _ => ?_))
   | exact ih0 _ _ _ _ _ _ _ _ _ _ _ _ _ _ _ _ _ _ _
   | exact ih1 _ _ _ _ _ _ _ _ _ _ _ _ _ _ _
   | exact ih2 _ _ _ _ _ _ _
   | exact impl_NewSession.mono _ _ _ _
   | exact laws_eqBoard.mono _ _ _ _ _ _ _
   | exact laws_eqSession.mono _ _ _ _ _ _ _ _ _ _ _
   | exact laws_heldSession.mono _ _ _ _ _ _ _
   | exact laws_markBoard.mono _ _ _ _ _
   | exact laws_markSession.mono _ _ _ _ _ _ _
   | exact laws_toBoard.mono _ _ _ _
   | exact spec_NewSession.mono _ _ _ _
   | exact LeO.none _
   | refine LeO.ite ?_ ?_
   | refine LeO.bind ?_ (fun _ => ?_)
  ·intro y0 y1 y2 y3 y4 y5 y6 y7 y8 y9 y10 y11 y12 y13 y14
   unfold laws_FnExactNewSession.j1
   repeat' first
   | (with_reducible exact ih0 _ _ _ _ _ _ _ _ _ _ _ _ _ _ _ _ _ _ _)
   | (with_reducible exact ih1 _ _ _ _ _ _ _ _ _ _ _ _ _ _ _)
   | (with_reducible exact ih2 _ _ _ _ _ _ _)
   | (with_reducible exact impl_NewSession.mono _ _ _ _)
   | (with_reducible exact laws_eqBoard.mono _ _ _ _ _ _ _)
   | (with_reducible exact laws_eqSession.mono _ _ _ _ _ _ _ _ _ _ _)
   | (with_reducible exact laws_heldSession.mono _ _ _ _ _ _ _)
   | (with_reducible exact laws_markBoard.mono _ _ _ _ _)
   | (with_reducible exact laws_markSession.mono _ _ _ _ _ _ _)
   | (with_reducible exact laws_toBoard.mono _ _ _ _)
   | (with_reducible exact spec_NewSession.mono _ _ _ _)
   | (with_reducible exact LeO.refl _)
   | (with_reducible exact LeO.none _)
   | (with_reducible refine LeO.ite ?_ ?_)
   | (with_reducible refine LeO.bind ?_ (fun _ => ?_))
   | exact ih0 _ _ _ _ _ _ _ _ _ _ _ _ _ _ _ _ _ _ _
   | exact ih1 _ _ _ _ _ _ _ _ _ _ _ _ _ _ _
   | exact ih2 _ _ _ _ _ _ _
   | exact impl_NewSession.mono _ _ _ _
   | exact laws_eqBoard.mono _ _ _ _ _ _ _
   | exact laws_eqSession.mono _ _ _ _ _ _ _ _ _ _ _
   | exact laws_heldSession.mono _ _ _ _ _ _ _
   | exact laws_markBoard.mono _ _ _ _ _
   | exact laws_markSession.mono _ _ _ _ _ _ _
   | exact laws_toBoard.mono _ _ _ _
   | exact spec_NewSession.mono _ _ _ _
   | exact LeO.none _
   | refine LeO.ite ?_ ?_
   | refine LeO.bind ?_ (fun _ => ?_)
  ·intro y0 y1 y2 y3 y4 y5 y6
   unfold laws_FnExactNewSession.j2
   repeat' first
   | (with_reducible exact ih0 _ _ _ _ _ _ _ _ _ _ _ _ _ _ _ _ _ _ _)
   | (with_reducible exact ih1 _ _ _ _ _ _ _ _ _ _ _ _ _ _ _)
   | (with_reducible exact ih2 _ _ _ _ _ _ _)
   | (with_reducible exact impl_NewSession.mono _ _ _ _)
   | (with_reducible exact laws_eqBoard.mono _ _ _ _ _ _ _)
   | (with_reducible exact laws_eqSession.mono _ _ _ _ _ _ _ _ _ _ _)
   | (with_reducible exact laws_heldSession.mono _ _ _ _ _ _ _)
   | (with_reducible exact laws_markBoard.mono _ _ _ _ _)
   | (with_reducible exact laws_markSession.mono _ _ _ _ _ _ _)
   | (with_reducible exact laws_toBoard.mono _ _ _ _)
   | (with_reducible exact spec_NewSession.mono _ _ _ _)
   | (with_reducible exact LeO.refl _)
   | (with_reducible exact LeO.none _)
   | (with_reducible refine LeO.ite ?_ ?_)
   | (with_reducible refine LeO.bind ?_ (fun _ => ?_))
   | exact ih0 _ _ _ _ _ _ _ _ _ _ _ _ _ _ _ _ _ _ _
   | exact ih1 _ _ _ _ _ _ _ _ _ _ _ _ _ _ _
   | exact ih2 _ _ _ _ _ _ _
   | exact impl_NewSession.mono _ _ _ _
   | exact laws_eqBoard.mono _ _ _ _ _ _ _
   | exact laws_eqSession.mono _ _ _ _ _ _ _ _ _ _ _
   | exact laws_heldSession.mono _ _ _ _ _ _ _
   | exact laws_markBoard.mono _ _ _ _ _
   | exact laws_markSession.mono _ _ _ _ _ _ _
   | exact laws_toBoard.mono _ _ _ _
   | exact spec_NewSession.mono _ _ _ _
   | exact LeO.none _
   | refine LeO.ite ?_ ?_
   | refine LeO.bind ?_ (fun _ => ?_)
theorem laws_FnExactNewSession.mono : ∀ a0 a1 a2 k, LeO (laws_FnExactNewSession.f k a0 a1 a2) (laws_FnExactNewSession.f (k + 1) a0 a1 a2) := by
 intro a0 a1 a2 k
 obtain ⟨ih0, ih1, ih2⟩ := laws_FnExactNewSession.mono_l k
 unfold laws_FnExactNewSession.f
 repeat' first
   | (with_reducible exact ih0 _ _ _ _ _ _ _ _ _ _ _ _ _ _ _ _ _ _ _)
   | (with_reducible exact ih1 _ _ _ _ _ _ _ _ _ _ _ _ _ _ _)
   | (with_reducible exact ih2 _ _ _ _ _ _ _)
   | (with_reducible exact impl_NewSession.mono _ _ _ _)
   | (with_reducible exact laws_eqBoard.mono _ _ _ _ _ _ _)
   | (with_reducible exact laws_eqSession.mono _ _ _ _ _ _ _ _ _ _ _)
   | (with_reducible exact laws_heldSession.mono _ _ _ _ _ _ _)
   | (with_reducible exact laws_markBoard.mono _ _ _ _ _)
   | (with_reducible exact laws_markSession.mono _ _ _ _ _ _ _)
   | (with_reducible exact laws_toBoard.mono _ _ _ _)
   | (with_reducible exact spec_NewSession.mono _ _ _ _)
   | (with_reducible exact LeO.refl _)
   | (with_reducible exact LeO.none _)
   | (with_reducible refine LeO.ite ?_ ?_)
   | (with_reducible refine LeO.bind ?_ (fun _ => ?_))
   | exact ih0 _ _ _ _ _ _ _ _ _ _ _ _ _ _ _ _ _ _ _
   | exact ih1 _ _ _ _ _ _ _ _ _ _ _ _ _ _ _
   | exact ih2 _ _ _ _ _ _ _
   | exact impl_NewSession.mono _ _ _ _
   | exact laws_eqBoard.mono _ _ _ _ _ _ _
   | exact laws_eqSession.mono _ _ _ _ _ _ _ _ _ _ _
   | exact laws_heldSession.mono _ _ _ _ _ _ _
   | exact laws_markBoard.mono _ _ _ _ _
   | exact laws_markSession.mono _ _ _ _ _ _ _
   | exact laws_toBoard.mono _ _ _ _
   | exact spec_NewSession.mono _ _ _ _
   | exact LeO.none _
   | refine LeO.ite ?_ ?_
   | refine LeO.bind ?_ (fun _ => ?_)
set_option maxHeartbeats 8000000 in
set_option maxRecDepth 100000 in
theorem laws_FnExactNewSession.calls (k : Nat) (a0_0 : Int) (a0_1 : Int) (A0_2 : Option Addr) (c0_2 : Nat) (l0_2 : List (S54)) (r : Bool) (w : World) (hr0_2 : Kd.C k54 w A0_2 l0_2.length l0_2) (hc0_2 : l0_2.length ≤ c0_2) (h : laws_FnExactNewSession.f k a0_0 a0_1 l0_2 = some r) :
  Calls Try.prog 4 #[.agg #[.int .i64 a0_0, .int .i64 a0_1, .slice A0_2 l0_2.length c0_2]] w fun e w' => e = .returned (.bool r) ∧ Below w.heap.size w w' := by
 have hu24 := Try.underlying24
 have hu35 := Try.underlying35
 have hu32 := Try.underlying32
 have HR0_2 := Aside0.mk hr0_2
 have HC0_2 := Aside0.mk hc0_2
 clear hr0_2 hc0_2
 have HB := Aside0.mk (Below.refl w.heap.size w)
 have H : ((laws_szBoard.f a0_0 a0_1 l0_2 1048576).bind fun t319 => (if t319 < 0 then (some true) else ((laws_toBoard.f k a0_0 a0_1 l0_2).bind fun bt320 => ((spec_NewSession.f k bt320.1 bt320.2.1 bt320.2.2).bind fun bt325 => ((laws_toBoard.f k a0_0 a0_1 l0_2).bind fun bt338 => ((impl_NewSession.f k bt338.1 bt338.2.1 bt338.2.2).bind fun bt344 => ((laws_eqSession.f k bt344.1 bt344.2.1 bt344.2.2.1 bt344.2.2.2.1 bt344.2.2.2.2.1 bt325.1 bt325.2.1 bt325.2.2.1 bt325.2.2.2.1 bt325.2.2.2.2.1).bind fun t357 => (if t357 = true then (laws_FnExactNewSession.j0 k bt325.2.2.2.2.2 bt344.2.2.2.2.2 (bt344.2.2.2.2.2 != bt325.2.2.2.2.2) a0_0 a0_1 l0_2 bt325.1 bt325.2.1 bt325.2.2.1 bt325.2.2.2.1 bt325.2.2.2.2.1 bt338.1 bt338.2.1 bt338.2.2 bt344.1 bt344.2.1 bt344.2.2.1 bt344.2.2.2.1 bt344.2.2.2.2.1) else (laws_FnExactNewSession.j0 k bt325.2.2.2.2.2 bt344.2.2.2.2.2 true a0_0 a0_1 l0_2 bt325.1 bt325.2.1 bt325.2.2.1 bt325.2.2.2.1 bt325.2.2.2.2.1 bt338.1 bt338.2.1 bt338.2.2 bt344.1 bt344.2.1 bt344.2.2.1 bt344.2.2.2.1 bt344.2.2.2.2.1))))))))) = some r := h
 clear h
 obtain ⟨t319, A2, H⟩ := bindq H
 try dsimp only at H
 by_cases c3 : t319 < 0
 ·rw [if_pos c3] at H
  have c3b0 : decide (t319 < 0) = true := decide_eq_true c3
  clear c3
  obtain rfl := Option.some.inj H
  go_enter Try.func4, Try.ntmps4
  go_wp2_with (first | ((with_reducible refine gate_dst (N := 1) rfl ?_); refine box_event ?hg (N := 1) ?hd (cs := #[.int .i64 a0_0, .int .i64 a0_1, .slice A0_2 l0_2.length c0_2]) (t := 24) ?hr ?_; (case hd => rfl); (case hg => rfl); (case hr => first | (go_simp; done) | (go_simp; rfl)); intro gb318 hg w4 hbox hb; have BK318 := Aside0.mk (hbox); have GE318 := Aside0.mk (gq hg); replace HB := sb hb; clear hb hbox hg; have ⟨hcz5_0, hcz5_1, hcz5_2, hfz5_0, hfz5_1, hfz5_2⟩ := bc3 BK318) | ((with_reducible refine gate_callee (f := 19) rfl ?_); refine goesQ (some 16) Try.func19 #[.agg #[.int .i64 a0_0, .int .i64 a0_1, .slice A0_2 l0_2.length c0_2], .int .i64 1048576] ?_; (with_reducible refine (laws_szBoard.calls a0_0 a0_1 _ _ l0_2 1048576 t319 _ ?s1 ?s2 A2.out).mono ?_); (case s1 => exact cq (Kd.C_below HR0_2.out HB.out)); (case s2 => exact HC0_2.out); rintro e w6 ⟨rfl, hb⟩; refine ⟨_, rfl, ?_⟩; replace BK318 := zb BK318 hb; replace HB := sb hb; (try clear hb)))
  go_ret
  exact ⟨eq_, bq⟩
 ·rw [if_neg c3] at H
  have c3b0 : decide (t319 < 0) = false := decide_eq_false c3
  clear c3
  obtain ⟨⟨t320, t321, t322⟩, A7, H⟩ := bindq H
  try dsimp only at H
  obtain ⟨⟨t325, t326, t327, t330, t333, t336⟩, A8, H⟩ := bindq H
  try dsimp only at H
  obtain ⟨⟨t338, t339, t340⟩, A9, H⟩ := bindq H
  try dsimp only at H
  obtain ⟨⟨t344, t345, t346, t349, t352, t355⟩, A10, H⟩ := bindq H
  try dsimp only at H
  have HC11 := Aside0.mk H
  clear H
  go_enter Try.func4, Try.ntmps4
  go_upto_region 8 with (first | ((with_reducible refine gate_dst (N := 1) rfl ?_); refine box_event ?hg (N := 1) ?hd (cs := #[.int .i64 a0_0, .int .i64 a0_1, .slice A0_2 l0_2.length c0_2]) (t := 24) ?hr ?_; (case hd => rfl); (case hg => rfl); (case hr => first | (go_simp; done) | (go_simp; rfl)); intro gb318 hg w12 hbox hb; have BK318 := Aside0.mk (hbox); have GE318 := Aside0.mk (gq hg); replace HB := sb hb; clear hb hbox hg; have ⟨hcz13_0, hcz13_1, hcz13_2, hfz13_0, hfz13_1, hfz13_2⟩ := bc3 BK318) | ((with_reducible refine gate_callee (f := 19) rfl ?_); refine goesQ (some 16) Try.func19 #[.agg #[.int .i64 a0_0, .int .i64 a0_1, .slice A0_2 l0_2.length c0_2], .int .i64 1048576] ?_; (with_reducible refine (laws_szBoard.calls a0_0 a0_1 _ _ l0_2 1048576 t319 _ ?s1 ?s2 A2.out).mono ?_); (case s1 => exact cq (Kd.C_below HR0_2.out HB.out)); (case s2 => exact HC0_2.out); rintro e w14 ⟨rfl, hb⟩; refine ⟨_, rfl, ?_⟩; replace BK318 := zb BK318 hb; replace HB := sb hb; (try clear hb); have ⟨hcz15_0, hcz15_1, hcz15_2, hfz15_0, hfz15_1, hfz15_2⟩ := bc3 BK318) | ((with_reducible refine gate_callee (f := 21) rfl ?_); refine goesQ (some 21) Try.func21 #[.agg #[.int .i64 a0_0, .int .i64 a0_1, .slice A0_2 l0_2.length c0_2]] ?_; (with_reducible refine (laws_toBoard.calls k a0_0 a0_1 _ _ l0_2 t320 t321 t322 _ ?s1 ?s2 A7.out).mono ?_); (case s1 => exact cq (Kd.C_below HR0_2.out HB.out)); (case s2 => exact HC0_2.out); rintro e w16 ⟨v323, rfl, ho0, hb⟩; refine ⟨_, rfl, ?_⟩; have HO324 := rl ho0; replace BK318 := zb BK318 hb; replace HB := sb hb; (try clear hb ho0); obtain ⟨Ao17, co17, eo17⟩ := Kd.R_slice HO324.out; subst eo17) | ((with_reducible refine gate_callee (f := 20) rfl ?_); refine goesQ (some 22) Try.func20 #[.agg #[.int .i64 t320, .int .i64 t321, .slice Ao17 t322.length co17]] ?_; (with_reducible refine (spec_NewSession.calls k t320 t321 _ _ t322 t325 t326 t327 t330 t333 t336 _ ?s1 ?s2 A8.out).mono ?_); (case s1 => exact cr HO324); (case s2 => exact r1 HO324); rintro e w18 ⟨v328, v331, v334, rfl, ho0, ho1, ho2, hb⟩; refine ⟨_, rfl, ?_⟩; have HO329 := Aside0.mk (Kd.R_lower (Kd.R_new' ho0 (Kd.R_lt (rq HO324))) (below_size bq)); replace HO324 := Aside0.mk (Kd.R_elder' (rq HO324) (Kd.R_base ho0) hb); have HO332 := rl ho1; have HO335 := rl ho2; replace BK318 := zb BK318 hb; replace HB := sb hb; (try clear hb ho0 ho1 ho2)) | ((with_reducible refine gate_dst (N := 4) rfl ?_); refine box_event ?hg (N := 4) ?hd (cs := #[.int .i64 0, .int .i64 0, .slice none 0 0, .slice none 0 0, .slice none 0 0]) (t := 35) ?hr ?_; (case hd => rfl); (case hg => rfl); (case hr => first | (go_simp; done) | (go_simp; rfl)); intro gb337 hg w19 hbox hb; replace HO324 := rb HO324 hb; replace HO329 := rb HO329 hb; replace HO332 := rb HO332 hb; replace HO335 := rb HO335 hb; have BK337 := Aside0.mk (hbox); have GE337 := Aside0.mk (gq hg); replace HB := sb hb; have NB318_337 := nl hg BK318; have NB337_318 := ng hg BK318; replace BK318 := zb BK318 hb; clear hb hbox hg; have hnb20 := NB337_318.out; have hnc20 := NB318_337.out; have ⟨hcz21_0, hcz21_1, hcz21_2, hcz21_3, hcz21_4, hfz21_0, hfz21_1, hfz21_2, hfz21_3, hfz21_4⟩ := bc5 BK337; obtain ⟨Ao22, co22, eo22⟩ := Kd.R_slice HO329.out; subst eo22; obtain ⟨Ao23, co23, eo23⟩ := Kd.R_slice HO332.out; subst eo23; obtain ⟨Ao24, co24, eo24⟩ := Kd.R_slice HO335.out; subst eo24; have ⟨hcz25_0, hcz25_1, hcz25_2, hfz25_0, hfz25_1, hfz25_2⟩ := bc3 BK318) | ((with_reducible refine gate_callee (f := 21) rfl ?_); refine goesQ (some 26) Try.func21 #[.agg #[.int .i64 a0_0, .int .i64 a0_1, .slice A0_2 l0_2.length c0_2]] ?_; (with_reducible refine (laws_toBoard.calls k a0_0 a0_1 _ _ l0_2 t338 t339 t340 _ ?s1 ?s2 A9.out).mono ?_); (case s1 => exact Kd.C_below HR0_2.out bq); (case s2 => exact HC0_2.out); rintro e w26 ⟨v341, rfl, ho0, hb⟩; refine ⟨_, rfl, ?_⟩; replace HO332 := Aside0.mk (Kd.R_below (by (with_reducible repeat (first | apply Kd.R_alloc | apply Kd.R_drewN | apply Kd.R_drew)); exact (Kd.R_mono (Kd.R_far (p := ⟨gb337, 4, none⟩) (Kd.R_far (p := ⟨gb337, 3, none⟩) (Kd.R_far (p := ⟨gb337, 2, none⟩) (Kd.R_far (p := ⟨gb337, 1, none⟩) (Kd.R_far (p := ⟨gb337, 0, none⟩) (Kd.R_types HO332.out BK337.out (by decide)) (fun _ hk => hk.2) (.int .i64 t325)) (fun _ hk => hk.2) (.int .i64 t326)) (fun _ hk => hk.2) (.slice Ao22 t327.length co22)) (fun _ hk => hk.2) (.slice Ao23 t330.length co23)) (fun _ hk => hk.2) (.slice Ao24 t333.length co24)) (fun _ h_ => h_.1))) hb); replace HO335 := Aside0.mk (Kd.R_below (by (with_reducible repeat (first | apply Kd.R_alloc | apply Kd.R_drewN | apply Kd.R_drew)); exact (Kd.R_mono (Kd.R_far (p := ⟨gb337, 4, none⟩) (Kd.R_far (p := ⟨gb337, 3, none⟩) (Kd.R_far (p := ⟨gb337, 2, none⟩) (Kd.R_far (p := ⟨gb337, 1, none⟩) (Kd.R_far (p := ⟨gb337, 0, none⟩) (Kd.R_types HO335.out BK337.out (by decide)) (fun _ hk => hk.2) (.int .i64 t325)) (fun _ hk => hk.2) (.int .i64 t326)) (fun _ hk => hk.2) (.slice Ao22 t327.length co22)) (fun _ hk => hk.2) (.slice Ao23 t330.length co23)) (fun _ hk => hk.2) (.slice Ao24 t333.length co24)) (fun _ h_ => h_.1))) hb); have HO342 := Aside0.mk (Kd.R_lower (Kd.R_new' (Kd.R_new' ho0 (Kd.R_lt (by (with_reducible repeat (first | apply Kd.R_alloc | apply Kd.R_drewN | apply Kd.R_drew)); exact (Kd.R_mono (Kd.R_far (p := ⟨gb337, 4, none⟩) (Kd.R_far (p := ⟨gb337, 3, none⟩) (Kd.R_far (p := ⟨gb337, 2, none⟩) (Kd.R_far (p := ⟨gb337, 1, none⟩) (Kd.R_far (p := ⟨gb337, 0, none⟩) (Kd.R_types HO324.out BK337.out (by decide)) (fun _ hk => hk.2) (.int .i64 t325)) (fun _ hk => hk.2) (.int .i64 t326)) (fun _ hk => hk.2) (.slice Ao22 t327.length co22)) (fun _ hk => hk.2) (.slice Ao23 t330.length co23)) (fun _ hk => hk.2) (.slice Ao24 t333.length co24)) (fun _ h_ => h_.1))))) (Kd.R_lt (by (with_reducible repeat (first | apply Kd.R_alloc | apply Kd.R_drewN | apply Kd.R_drew)); exact (Kd.R_mono (Kd.R_far (p := ⟨gb337, 4, none⟩) (Kd.R_far (p := ⟨gb337, 3, none⟩) (Kd.R_far (p := ⟨gb337, 2, none⟩) (Kd.R_far (p := ⟨gb337, 1, none⟩) (Kd.R_far (p := ⟨gb337, 0, none⟩) (Kd.R_types HO329.out BK337.out (by decide)) (fun _ hk => hk.2) (.int .i64 t325)) (fun _ hk => hk.2) (.int .i64 t326)) (fun _ hk => hk.2) (.slice Ao22 t327.length co22)) (fun _ hk => hk.2) (.slice Ao23 t330.length co23)) (fun _ hk => hk.2) (.slice Ao24 t333.length co24)) (fun _ h_ => h_.1))))) (below_size bq)); replace HO324 := Aside0.mk (Kd.R_elder' (by (with_reducible repeat (first | apply Kd.R_alloc | apply Kd.R_drewN | apply Kd.R_drew)); exact (Kd.R_mono (Kd.R_far (p := ⟨gb337, 4, none⟩) (Kd.R_far (p := ⟨gb337, 3, none⟩) (Kd.R_far (p := ⟨gb337, 2, none⟩) (Kd.R_far (p := ⟨gb337, 1, none⟩) (Kd.R_far (p := ⟨gb337, 0, none⟩) (Kd.R_types HO324.out BK337.out (by decide)) (fun _ hk => hk.2) (.int .i64 t325)) (fun _ hk => hk.2) (.int .i64 t326)) (fun _ hk => hk.2) (.slice Ao22 t327.length co22)) (fun _ hk => hk.2) (.slice Ao23 t330.length co23)) (fun _ hk => hk.2) (.slice Ao24 t333.length co24)) (fun _ h_ => h_.1))) (Kd.R_base ho0) hb); replace HO329 := Aside0.mk (Kd.R_elder' (by (with_reducible repeat (first | apply Kd.R_alloc | apply Kd.R_drewN | apply Kd.R_drew)); exact (Kd.R_mono (Kd.R_far (p := ⟨gb337, 4, none⟩) (Kd.R_far (p := ⟨gb337, 3, none⟩) (Kd.R_far (p := ⟨gb337, 2, none⟩) (Kd.R_far (p := ⟨gb337, 1, none⟩) (Kd.R_far (p := ⟨gb337, 0, none⟩) (Kd.R_types HO329.out BK337.out (by decide)) (fun _ hk => hk.2) (.int .i64 t325)) (fun _ hk => hk.2) (.int .i64 t326)) (fun _ hk => hk.2) (.slice Ao22 t327.length co22)) (fun _ hk => hk.2) (.slice Ao23 t330.length co23)) (fun _ hk => hk.2) (.slice Ao24 t333.length co24)) (fun _ h_ => h_.1))) (Kd.R_base ho0) hb); replace BK318 := Aside0.mk (blk_below (g := gb318) (o := .cells #[.int .i64 a0_0, .int .i64 a0_1, .slice A0_2 l0_2.length c0_2] 24 (0, 0)) (by (with_reducible repeat (first | refine blk_drewN ?_ _ | refine blk_drew ?_ | refine blk_alloc ?_ _)); refine blk_far ?_ NB318_337.out _; (with_reducible repeat (first | refine blk_drewN ?_ _ | refine blk_drew ?_ | refine blk_alloc ?_ _)); refine blk_far ?_ NB318_337.out _; (with_reducible repeat (first | refine blk_drewN ?_ _ | refine blk_drew ?_ | refine blk_alloc ?_ _)); refine blk_far ?_ NB318_337.out _; (with_reducible repeat (first | refine blk_drewN ?_ _ | refine blk_drew ?_ | refine blk_alloc ?_ _)); refine blk_far ?_ NB318_337.out _; (with_reducible repeat (first | refine blk_drewN ?_ _ | refine blk_drew ?_ | refine blk_alloc ?_ _)); refine blk_far ?_ NB318_337.out _; (with_reducible repeat (first | refine blk_drewN ?_ _ | refine blk_drew ?_ | refine blk_alloc ?_ _)); exact BK318.out) hb); replace BK337 := Aside0.mk (blk_below (g := gb337) (o := .cells #[.int .i64 t325, .int .i64 t326, .slice Ao22 t327.length co22, .slice Ao23 t330.length co23, .slice Ao24 t333.length co24] 35 (0, 0)) (by (with_reducible repeat (first | refine blk_drewN ?_ _ | refine blk_drew ?_ | refine blk_alloc ?_ _)); refine blk_put (cs := #[.int .i64 t325, .int .i64 t326, .slice Ao22 t327.length co22, .slice Ao23 t330.length co23, .slice none 0 0]) ?_ 4 _ rfl; (with_reducible repeat (first | refine blk_drewN ?_ _ | refine blk_drew ?_ | refine blk_alloc ?_ _)); refine blk_put (cs := #[.int .i64 t325, .int .i64 t326, .slice Ao22 t327.length co22, .slice none 0 0, .slice none 0 0]) ?_ 3 _ rfl; (with_reducible repeat (first | refine blk_drewN ?_ _ | refine blk_drew ?_ | refine blk_alloc ?_ _)); refine blk_put (cs := #[.int .i64 t325, .int .i64 t326, .slice none 0 0, .slice none 0 0, .slice none 0 0]) ?_ 2 _ rfl; (with_reducible repeat (first | refine blk_drewN ?_ _ | refine blk_drew ?_ | refine blk_alloc ?_ _)); refine blk_put (cs := #[.int .i64 t325, .int .i64 0, .slice none 0 0, .slice none 0 0, .slice none 0 0]) ?_ 1 _ rfl; (with_reducible repeat (first | refine blk_drewN ?_ _ | refine blk_drew ?_ | refine blk_alloc ?_ _)); refine blk_put (cs := #[.int .i64 0, .int .i64 0, .slice none 0 0, .slice none 0 0, .slice none 0 0]) ?_ 0 _ rfl; (with_reducible repeat (first | refine blk_drewN ?_ _ | refine blk_drew ?_ | refine blk_alloc ?_ _)); exact BK337.out) hb); replace HB := sb hb; (try clear hb hb2 hk hi ho0)) | ((with_reducible refine gate_dst (N := 6) rfl ?_); refine box_event ?hg (N := 6) ?hd (cs := #[.int .i64 0, .int .i64 0, .slice none 0 0]) (t := 32) ?hr ?_; (case hd => rfl); (case hg => rfl); (case hr => first | (go_simp; done) | (go_simp; rfl)); intro gb343 hg w27 hbox hb; replace HO324 := rb HO324 hb; replace HO329 := rb HO329 hb; replace HO332 := rb HO332 hb; replace HO335 := rb HO335 hb; replace HO342 := rb HO342 hb; have BK343 := Aside0.mk (hbox); have GE343 := Aside0.mk (gq hg); replace HB := sb hb; have NB318_343 := nl hg BK318; have NB343_318 := ng hg BK318; replace BK318 := zb BK318 hb; have NB337_343 := nl hg BK337; have NB343_337 := ng hg BK337; replace BK337 := zb BK337 hb; clear hb hbox hg; have hnb28 := NB343_318.out; have hnc28 := NB318_343.out; have hnb29 := NB343_337.out; have hnc29 := NB337_343.out; have ⟨hcz30_0, hcz30_1, hcz30_2, hfz30_0, hfz30_1, hfz30_2⟩ := bc3 BK343; obtain ⟨Ao31, co31, eo31⟩ := Kd.R_slice HO342.out; subst eo31) | ((with_reducible refine gate_callee (f := 22) rfl ?_); refine goesQ (some 29) Try.func22 #[.agg #[.int .i64 t338, .int .i64 t339, .slice Ao31 t340.length co31]] ?_; (with_reducible refine (impl_NewSession.calls k t338 t339 _ _ t340 t344 t345 t346 t349 t352 t355 _ ?s1 ?s2 A10.out).mono ?_); (case s1 => refine (Kd.R_reads' (e := 58) (base := w.heap.size) (ok := fun k_ => ((True ∧ some k_ ≠ (.slice Ao17 t322.length co17 : Value).ownBlock) ∧ some k_ ≠ (.slice Ao22 t327.length co22 : Value).ownBlock)) (n := t340.length) (c := co31) ?_).2.2; exact (by (with_reducible repeat (first | apply Kd.R_alloc | apply Kd.R_drewN | apply Kd.R_drew)); exact (Kd.R_mono (Kd.R_far (p := ⟨gb343, 2, none⟩) (Kd.R_far (p := ⟨gb343, 1, none⟩) (Kd.R_far (p := ⟨gb343, 0, none⟩) (Kd.R_types HO342.out BK343.out (by decide)) (fun _ hk => hk.2) (.int .i64 t338)) (fun _ hk => hk.2) (.int .i64 t339)) (fun _ hk => hk.2) (.slice Ao31 t340.length co31)) (fun _ h_ => h_.1)))); (case s2 => exact r1 HO342); rintro e w32 ⟨v347, v350, v353, rfl, ho0, ho1, ho2, hb⟩; refine ⟨_, rfl, ?_⟩; have HO348 := Aside0.mk (Kd.R_lower (Kd.R_new' (Kd.R_new' (Kd.R_new' ho0 (Kd.R_lt (by (with_reducible repeat (first | apply Kd.R_alloc | apply Kd.R_drewN | apply Kd.R_drew)); exact (Kd.R_mono (Kd.R_far (p := ⟨gb343, 2, none⟩) (Kd.R_far (p := ⟨gb343, 1, none⟩) (Kd.R_far (p := ⟨gb343, 0, none⟩) (Kd.R_types HO324.out BK343.out (by decide)) (fun _ hk => hk.2) (.int .i64 t338)) (fun _ hk => hk.2) (.int .i64 t339)) (fun _ hk => hk.2) (.slice Ao31 t340.length co31)) (fun _ h_ => h_.1))))) (Kd.R_lt (by (with_reducible repeat (first | apply Kd.R_alloc | apply Kd.R_drewN | apply Kd.R_drew)); exact (Kd.R_mono (Kd.R_far (p := ⟨gb343, 2, none⟩) (Kd.R_far (p := ⟨gb343, 1, none⟩) (Kd.R_far (p := ⟨gb343, 0, none⟩) (Kd.R_types HO329.out BK343.out (by decide)) (fun _ hk => hk.2) (.int .i64 t338)) (fun _ hk => hk.2) (.int .i64 t339)) (fun _ hk => hk.2) (.slice Ao31 t340.length co31)) (fun _ h_ => h_.1))))) (Kd.R_lt (by (with_reducible repeat (first | apply Kd.R_alloc | apply Kd.R_drewN | apply Kd.R_drew)); exact (Kd.R_mono (Kd.R_far (p := ⟨gb343, 2, none⟩) (Kd.R_far (p := ⟨gb343, 1, none⟩) (Kd.R_far (p := ⟨gb343, 0, none⟩) (Kd.R_types HO342.out BK343.out (by decide)) (fun _ hk => hk.2) (.int .i64 t338)) (fun _ hk => hk.2) (.int .i64 t339)) (fun _ hk => hk.2) (.slice Ao31 t340.length co31)) (fun _ h_ => h_.1))))) (below_size bq)); replace HO329 := Aside0.mk (Kd.R_elder' (by (with_reducible repeat (first | apply Kd.R_alloc | apply Kd.R_drewN | apply Kd.R_drew)); exact (Kd.R_mono (Kd.R_far (p := ⟨gb343, 2, none⟩) (Kd.R_far (p := ⟨gb343, 1, none⟩) (Kd.R_far (p := ⟨gb343, 0, none⟩) (Kd.R_types HO329.out BK343.out (by decide)) (fun _ hk => hk.2) (.int .i64 t338)) (fun _ hk => hk.2) (.int .i64 t339)) (fun _ hk => hk.2) (.slice Ao31 t340.length co31)) (fun _ h_ => h_.1))) (Kd.R_base ho0) hb); replace HO342 := Aside0.mk (Kd.R_elder' (by (with_reducible repeat (first | apply Kd.R_alloc | apply Kd.R_drewN | apply Kd.R_drew)); exact (Kd.R_mono (Kd.R_far (p := ⟨gb343, 2, none⟩) (Kd.R_far (p := ⟨gb343, 1, none⟩) (Kd.R_far (p := ⟨gb343, 0, none⟩) (Kd.R_types HO342.out BK343.out (by decide)) (fun _ hk => hk.2) (.int .i64 t338)) (fun _ hk => hk.2) (.int .i64 t339)) (fun _ hk => hk.2) (.slice Ao31 t340.length co31)) (fun _ h_ => h_.1))) (Kd.R_base ho0) hb); have HO351 := Aside0.mk (Kd.R_lower (Kd.R_new' (Kd.R_new' ho1 (Kd.R_lt (by (with_reducible repeat (first | apply Kd.R_alloc | apply Kd.R_drewN | apply Kd.R_drew)); exact (Kd.R_mono (Kd.R_far (p := ⟨gb343, 2, none⟩) (Kd.R_far (p := ⟨gb343, 1, none⟩) (Kd.R_far (p := ⟨gb343, 0, none⟩) (Kd.R_types HO332.out BK343.out (by decide)) (fun _ hk => hk.2) (.int .i64 t338)) (fun _ hk => hk.2) (.int .i64 t339)) (fun _ hk => hk.2) (.slice Ao31 t340.length co31)) (fun _ h_ => h_.1))))) (Kd.R_lt (by (with_reducible repeat (first | apply Kd.R_alloc | apply Kd.R_drewN | apply Kd.R_drew)); exact (Kd.R_mono (Kd.R_far (p := ⟨gb343, 2, none⟩) (Kd.R_far (p := ⟨gb343, 1, none⟩) (Kd.R_far (p := ⟨gb343, 0, none⟩) (Kd.R_types HO335.out BK343.out (by decide)) (fun _ hk => hk.2) (.int .i64 t338)) (fun _ hk => hk.2) (.int .i64 t339)) (fun _ hk => hk.2) (.slice Ao31 t340.length co31)) (fun _ h_ => h_.1))))) (below_size bq)); have HO354 := Aside0.mk (Kd.R_lower (Kd.R_new' (Kd.R_new' ho2 (Kd.R_lt (by (with_reducible repeat (first | apply Kd.R_alloc | apply Kd.R_drewN | apply Kd.R_drew)); exact (Kd.R_mono (Kd.R_far (p := ⟨gb343, 2, none⟩) (Kd.R_far (p := ⟨gb343, 1, none⟩) (Kd.R_far (p := ⟨gb343, 0, none⟩) (Kd.R_types HO332.out BK343.out (by decide)) (fun _ hk => hk.2) (.int .i64 t338)) (fun _ hk => hk.2) (.int .i64 t339)) (fun _ hk => hk.2) (.slice Ao31 t340.length co31)) (fun _ h_ => h_.1))))) (Kd.R_lt (by (with_reducible repeat (first | apply Kd.R_alloc | apply Kd.R_drewN | apply Kd.R_drew)); exact (Kd.R_mono (Kd.R_far (p := ⟨gb343, 2, none⟩) (Kd.R_far (p := ⟨gb343, 1, none⟩) (Kd.R_far (p := ⟨gb343, 0, none⟩) (Kd.R_types HO335.out BK343.out (by decide)) (fun _ hk => hk.2) (.int .i64 t338)) (fun _ hk => hk.2) (.int .i64 t339)) (fun _ hk => hk.2) (.slice Ao31 t340.length co31)) (fun _ h_ => h_.1))))) (below_size bq)); replace HO332 := Aside0.mk (Kd.R_mono (Kd.R_told (Kd.R_told (Kd.R_old (by (with_reducible repeat (first | apply Kd.R_alloc | apply Kd.R_drewN | apply Kd.R_drew)); exact (Kd.R_mono (Kd.R_far (p := ⟨gb343, 2, none⟩) (Kd.R_far (p := ⟨gb343, 1, none⟩) (Kd.R_far (p := ⟨gb343, 0, none⟩) (Kd.R_types HO332.out BK343.out (by decide)) (fun _ hk => hk.2) (.int .i64 t338)) (fun _ hk => hk.2) (.int .i64 t339)) (fun _ hk => hk.2) (.slice Ao31 t340.length co31)) (fun _ h_ => h_.1))) hb) (Kd.R_base ho1)) (Kd.R_base ho2)) (fun _ h_ => h_.1)); replace HO335 := Aside0.mk (Kd.R_mono (Kd.R_told (Kd.R_told (Kd.R_old (by (with_reducible repeat (first | apply Kd.R_alloc | apply Kd.R_drewN | apply Kd.R_drew)); exact (Kd.R_mono (Kd.R_far (p := ⟨gb343, 2, none⟩) (Kd.R_far (p := ⟨gb343, 1, none⟩) (Kd.R_far (p := ⟨gb343, 0, none⟩) (Kd.R_types HO335.out BK343.out (by decide)) (fun _ hk => hk.2) (.int .i64 t338)) (fun _ hk => hk.2) (.int .i64 t339)) (fun _ hk => hk.2) (.slice Ao31 t340.length co31)) (fun _ h_ => h_.1))) hb) (Kd.R_base ho1)) (Kd.R_base ho2)) (fun _ h_ => h_.1)); replace BK318 := Aside0.mk (blk_below (g := gb318) (o := .cells #[.int .i64 a0_0, .int .i64 a0_1, .slice A0_2 l0_2.length c0_2] 24 (0, 0)) (by (with_reducible repeat (first | refine blk_drewN ?_ _ | refine blk_drew ?_ | refine blk_alloc ?_ _)); refine blk_far ?_ NB318_343.out _; (with_reducible repeat (first | refine blk_drewN ?_ _ | refine blk_drew ?_ | refine blk_alloc ?_ _)); refine blk_far ?_ NB318_343.out _; (with_reducible repeat (first | refine blk_drewN ?_ _ | refine blk_drew ?_ | refine blk_alloc ?_ _)); refine blk_far ?_ NB318_343.out _; (with_reducible repeat (first | refine blk_drewN ?_ _ | refine blk_drew ?_ | refine blk_alloc ?_ _)); exact BK318.out) hb); replace BK337 := Aside0.mk (blk_below (g := gb337) (o := .cells #[.int .i64 t325, .int .i64 t326, .slice Ao22 t327.length co22, .slice Ao23 t330.length co23, .slice Ao24 t333.length co24] 35 (0, 0)) (by (with_reducible repeat (first | refine blk_drewN ?_ _ | refine blk_drew ?_ | refine blk_alloc ?_ _)); refine blk_far ?_ NB337_343.out _; (with_reducible repeat (first | refine blk_drewN ?_ _ | refine blk_drew ?_ | refine blk_alloc ?_ _)); refine blk_far ?_ NB337_343.out _; (with_reducible repeat (first | refine blk_drewN ?_ _ | refine blk_drew ?_ | refine blk_alloc ?_ _)); refine blk_far ?_ NB337_343.out _; (with_reducible repeat (first | refine blk_drewN ?_ _ | refine blk_drew ?_ | refine blk_alloc ?_ _)); exact BK337.out) hb); replace BK343 := Aside0.mk (blk_below (g := gb343) (o := .cells #[.int .i64 t338, .int .i64 t339, .slice Ao31 t340.length co31] 32 (0, 0)) (by (with_reducible repeat (first | refine blk_drewN ?_ _ | refine blk_drew ?_ | refine blk_alloc ?_ _)); refine blk_put (cs := #[.int .i64 t338, .int .i64 t339, .slice none 0 0]) ?_ 2 _ rfl; (with_reducible repeat (first | refine blk_drewN ?_ _ | refine blk_drew ?_ | refine blk_alloc ?_ _)); refine blk_put (cs := #[.int .i64 t338, .int .i64 0, .slice none 0 0]) ?_ 1 _ rfl; (with_reducible repeat (first | refine blk_drewN ?_ _ | refine blk_drew ?_ | refine blk_alloc ?_ _)); refine blk_put (cs := #[.int .i64 0, .int .i64 0, .slice none 0 0]) ?_ 0 _ rfl; (with_reducible repeat (first | refine blk_drewN ?_ _ | refine blk_drew ?_ | refine blk_alloc ?_ _)); exact BK343.out) hb); replace HB := sb hb; (try clear hb hb2 hk hi ho0 ho1 ho2)) | ((with_reducible refine gate_dst (N := 7) rfl ?_); refine box_event ?hg (N := 7) ?hd (cs := #[.int .i64 0, .int .i64 0, .slice none 0 0, .slice none 0 0, .slice none 0 0]) (t := 35) ?hr ?_; (case hd => rfl); (case hg => rfl); (case hr => first | (go_simp; done) | (go_simp; rfl)); intro gb356 hg w33 hbox hb; replace HO329 := rb HO329 hb; replace HO332 := rb HO332 hb; replace HO335 := rb HO335 hb; replace HO342 := rb HO342 hb; replace HO348 := rb HO348 hb; replace HO351 := rb HO351 hb; replace HO354 := rb HO354 hb; have BK356 := Aside0.mk (hbox); have GE356 := Aside0.mk (gq hg); replace HB := sb hb; have NB318_356 := nl hg BK318; have NB356_318 := ng hg BK318; replace BK318 := zb BK318 hb; have NB337_356 := nl hg BK337; have NB356_337 := ng hg BK337; replace BK337 := zb BK337 hb; have NB343_356 := nl hg BK343; have NB356_343 := ng hg BK343; replace BK343 := zb BK343 hb; clear hb hbox hg; have hnb34 := NB356_318.out; have hnc34 := NB318_356.out; have hnb35 := NB356_337.out; have hnc35 := NB337_356.out; have hnb36 := NB356_343.out; have hnc36 := NB343_356.out; have ⟨hcz37_0, hcz37_1, hcz37_2, hcz37_3, hcz37_4, hfz37_0, hfz37_1, hfz37_2, hfz37_3, hfz37_4⟩ := bc5 BK356; obtain ⟨Ao38, co38, eo38⟩ := Kd.R_slice HO348.out; subst eo38; obtain ⟨Ao39, co39, eo39⟩ := Kd.R_slice HO351.out; subst eo39; obtain ⟨Ao40, co40, eo40⟩ := Kd.R_slice HO354.out; subst eo40))
  (try simp only [Act.put, List.setIfInBounds_toArray, List.set_cons_zero, List.set_cons_succ])
  go_cut [40] (fun v40 wc => ∃ (kq : Nat) (x40_10 : Bool), v40 = .bool x40_10 ∧ Aside0 (laws_FnExactNewSession.j0 kq t336 t355 x40_10 a0_0 a0_1 l0_2 t325 t326 t327 t330 t333 t338 t339 t340 t344 t345 t346 t349 t352 = some r) ∧ Aside0 (kq ≤ k) ∧ Aside0 (Kd.R k58 58 wc w.heap.size (fun k_ => some k_ ≠ ((.slice Ao31 t340.length co31) : Value).ownBlock ∧ some k_ ≠ ((.slice Ao38 t346.length co38) : Value).ownBlock) (.slice Ao22 t327.length co22) t327) ∧ Aside0 (Kd.R k60 60 wc w.heap.size (fun k_ => some k_ ≠ ((.slice Ao24 t333.length co24) : Value).ownBlock ∧ some k_ ≠ ((.slice Ao39 t349.length co39) : Value).ownBlock ∧ some k_ ≠ ((.slice Ao40 t352.length co40) : Value).ownBlock) (.slice Ao23 t330.length co23) t330) ∧ Aside0 (Kd.R k60 60 wc w.heap.size (fun k_ => some k_ ≠ ((.slice Ao23 t330.length co23) : Value).ownBlock ∧ some k_ ≠ ((.slice Ao39 t349.length co39) : Value).ownBlock ∧ some k_ ≠ ((.slice Ao40 t352.length co40) : Value).ownBlock) (.slice Ao24 t333.length co24) t333) ∧ Aside0 (Kd.R k58 58 wc w.heap.size (fun k_ => some k_ ≠ ((.slice Ao22 t327.length co22) : Value).ownBlock ∧ some k_ ≠ ((.slice Ao38 t346.length co38) : Value).ownBlock) (.slice Ao31 t340.length co31) t340) ∧ Aside0 (Kd.R k58 58 wc w.heap.size (fun k_ => some k_ ≠ ((.slice Ao22 t327.length co22) : Value).ownBlock ∧ some k_ ≠ ((.slice Ao31 t340.length co31) : Value).ownBlock) (.slice Ao38 t346.length co38) t346) ∧ Aside0 (Kd.R k60 60 wc w.heap.size (fun k_ => some k_ ≠ ((.slice Ao23 t330.length co23) : Value).ownBlock ∧ some k_ ≠ ((.slice Ao24 t333.length co24) : Value).ownBlock ∧ some k_ ≠ ((.slice Ao40 t352.length co40) : Value).ownBlock) (.slice Ao39 t349.length co39) t349) ∧ Aside0 (Kd.R k60 60 wc w.heap.size (fun k_ => some k_ ≠ ((.slice Ao23 t330.length co23) : Value).ownBlock ∧ some k_ ≠ ((.slice Ao24 t333.length co24) : Value).ownBlock ∧ some k_ ≠ ((.slice Ao39 t349.length co39) : Value).ownBlock) (.slice Ao40 t352.length co40) t352) ∧ Aside0 (wc.heap[gb318]? = some (.cells #[.int .i64 a0_0, .int .i64 a0_1, (.slice A0_2 l0_2.length c0_2)] 24 (0, 0))) ∧ Aside0 (wc.heap[gb337]? = some (.cells #[.int .i64 t325, .int .i64 t326, (.slice Ao22 t327.length co22), (.slice Ao23 t330.length co23), (.slice Ao24 t333.length co24)] 35 (0, 0))) ∧ Aside0 (wc.heap[gb343]? = some (.cells #[.int .i64 t338, .int .i64 t339, (.slice Ao31 t340.length co31)] 32 (0, 0))) ∧ Aside0 (wc.heap[gb356]? = some (.cells #[.int .i64 t344, .int .i64 t345, (.slice Ao38 t346.length co38), (.slice Ao39 t349.length co39), (.slice Ao40 t352.length co40)] 35 (0, 0))) ∧ Aside0 (Below w.heap.size w wc))
  case first =>
   have H := HC11.out
   clear HC11
   obtain ⟨t357, A41, H⟩ := bindq H
   try dsimp only at H
   by_cases c42 : t357 = true
   ·subst c42
    rw [if_pos rfl] at H
    try dsimp only at H
    have H' := Aside0.mk H
    clear H
    have hnb43 := NB356_318.out
    have hnc43 := NB318_356.out
    have hnb44 := NB356_337.out
    have hnc44 := NB337_356.out
    have hnb45 := NB356_343.out
    have hnc45 := NB343_356.out
    have ⟨hcz46_0, hcz46_1, hcz46_2, hcz46_3, hcz46_4, hfz46_0, hfz46_1, hfz46_2, hfz46_3, hfz46_4⟩ := bc5 BK356
    have hnb47 := NB337_318.out
    have hnc47 := NB318_337.out
    have hnb48 := NB337_343.out
    have hnc48 := NB343_337.out
    have ⟨hcz49_0, hcz49_1, hcz49_2, hcz49_3, hcz49_4, hfz49_0, hfz49_1, hfz49_2, hfz49_3, hfz49_4⟩ := bc5 BK337
    go_wp2_with (first | ((with_reducible refine gate_callee (f := 18) rfl ?_); refine goesQ (some 34) Try.func18 #[.agg #[.int .i64 t344, .int .i64 t345, .slice Ao38 t346.length co38, .slice Ao39 t349.length co39, .slice Ao40 t352.length co40], .agg #[.int .i64 t325, .int .i64 t326, .slice Ao22 t327.length co22, .slice Ao23 t330.length co23, .slice Ao24 t333.length co24]] ?_; (with_reducible refine (laws_eqSession.calls k t344 t345 _ _ t346 _ _ t349 _ _ t352 t325 t326 _ _ t327 _ _ t330 _ _ t333 true _ ?s1 ?s2 ?s3 ?s4 ?s5 ?s6 ?s7 ?s8 ?s9 ?s10 ?s11 ?s12 A41.out).mono ?_); (case s1 => refine (Kd.R_reads' (e := 58) (base := w.heap.size) (ok := fun k_ => (((True ∧ some k_ ≠ (.slice Ao17 t322.length co17 : Value).ownBlock) ∧ some k_ ≠ (.slice Ao22 t327.length co22 : Value).ownBlock) ∧ some k_ ≠ (.slice Ao31 t340.length co31 : Value).ownBlock)) (n := t346.length) (c := co38) ?_).2.2; exact (by (with_reducible repeat (first | apply Kd.R_alloc | apply Kd.R_drewN | apply Kd.R_drew)); exact (Kd.R_mono (Kd.R_far (p := ⟨gb356, 4, none⟩) (Kd.R_far (p := ⟨gb356, 3, none⟩) (Kd.R_far (p := ⟨gb356, 2, none⟩) (Kd.R_far (p := ⟨gb356, 1, none⟩) (Kd.R_far (p := ⟨gb356, 0, none⟩) (Kd.R_types HO348.out BK356.out (by decide)) (fun _ hk => hk.2) (.int .i64 t344)) (fun _ hk => hk.2) (.int .i64 t345)) (fun _ hk => hk.2) (.slice Ao38 t346.length co38)) (fun _ hk => hk.2) (.slice Ao39 t349.length co39)) (fun _ hk => hk.2) (.slice Ao40 t352.length co40)) (fun _ h_ => h_.1)))); (case s2 => exact r1 HO348); (case s3 => refine (Kd.R_reads' (e := 60) (base := w.heap.size) (ok := fun k_ => ((some k_ ≠ (.slice Ao40 t352.length co40 : Value).ownBlock ∧ some k_ ≠ (.slice Ao23 t330.length co23 : Value).ownBlock) ∧ some k_ ≠ (.slice Ao24 t333.length co24 : Value).ownBlock)) (n := t349.length) (c := co39) ?_).2.2; exact (by (with_reducible repeat (first | apply Kd.R_alloc | apply Kd.R_drewN | apply Kd.R_drew)); exact (Kd.R_mono (Kd.R_far (p := ⟨gb356, 4, none⟩) (Kd.R_far (p := ⟨gb356, 3, none⟩) (Kd.R_far (p := ⟨gb356, 2, none⟩) (Kd.R_far (p := ⟨gb356, 1, none⟩) (Kd.R_far (p := ⟨gb356, 0, none⟩) (Kd.R_types HO351.out BK356.out (by decide)) (fun _ hk => hk.2) (.int .i64 t344)) (fun _ hk => hk.2) (.int .i64 t345)) (fun _ hk => hk.2) (.slice Ao38 t346.length co38)) (fun _ hk => hk.2) (.slice Ao39 t349.length co39)) (fun _ hk => hk.2) (.slice Ao40 t352.length co40)) (fun _ h_ => h_.1)))); (case s4 => exact r1 HO351); (case s5 => refine (Kd.R_reads' (e := 60) (base := w.heap.size) (ok := fun k_ => ((some k_ ≠ (.slice Ao39 t349.length co39 : Value).ownBlock ∧ some k_ ≠ (.slice Ao23 t330.length co23 : Value).ownBlock) ∧ some k_ ≠ (.slice Ao24 t333.length co24 : Value).ownBlock)) (n := t352.length) (c := co40) ?_).2.2; exact (by (with_reducible repeat (first | apply Kd.R_alloc | apply Kd.R_drewN | apply Kd.R_drew)); exact (Kd.R_mono (Kd.R_far (p := ⟨gb356, 4, none⟩) (Kd.R_far (p := ⟨gb356, 3, none⟩) (Kd.R_far (p := ⟨gb356, 2, none⟩) (Kd.R_far (p := ⟨gb356, 1, none⟩) (Kd.R_far (p := ⟨gb356, 0, none⟩) (Kd.R_types HO354.out BK356.out (by decide)) (fun _ hk => hk.2) (.int .i64 t344)) (fun _ hk => hk.2) (.int .i64 t345)) (fun _ hk => hk.2) (.slice Ao38 t346.length co38)) (fun _ hk => hk.2) (.slice Ao39 t349.length co39)) (fun _ hk => hk.2) (.slice Ao40 t352.length co40)) (fun _ h_ => h_.1)))); (case s6 => exact r1 HO354); (case s7 => refine (Kd.R_reads' (e := 58) (base := w.heap.size) (ok := fun k_ => (((True ∧ some k_ ≠ (.slice Ao17 t322.length co17 : Value).ownBlock) ∧ some k_ ≠ (.slice Ao31 t340.length co31 : Value).ownBlock) ∧ some k_ ≠ (.slice Ao38 t346.length co38 : Value).ownBlock)) (n := t327.length) (c := co22) ?_).2.2; exact (by (with_reducible repeat (first | apply Kd.R_alloc | apply Kd.R_drewN | apply Kd.R_drew)); exact (Kd.R_mono (Kd.R_far (p := ⟨gb356, 4, none⟩) (Kd.R_far (p := ⟨gb356, 3, none⟩) (Kd.R_far (p := ⟨gb356, 2, none⟩) (Kd.R_far (p := ⟨gb356, 1, none⟩) (Kd.R_far (p := ⟨gb356, 0, none⟩) (Kd.R_types HO329.out BK356.out (by decide)) (fun _ hk => hk.2) (.int .i64 t344)) (fun _ hk => hk.2) (.int .i64 t345)) (fun _ hk => hk.2) (.slice Ao38 t346.length co38)) (fun _ hk => hk.2) (.slice Ao39 t349.length co39)) (fun _ hk => hk.2) (.slice Ao40 t352.length co40)) (fun _ h_ => h_.1)))); (case s8 => exact r1 HO329); (case s9 => refine (Kd.R_reads' (e := 60) (base := w.heap.size) (ok := fun k_ => ((some k_ ≠ (.slice Ao24 t333.length co24 : Value).ownBlock ∧ some k_ ≠ (.slice Ao39 t349.length co39 : Value).ownBlock) ∧ some k_ ≠ (.slice Ao40 t352.length co40 : Value).ownBlock)) (n := t330.length) (c := co23) ?_).2.2; exact (by (with_reducible repeat (first | apply Kd.R_alloc | apply Kd.R_drewN | apply Kd.R_drew)); exact (Kd.R_mono (Kd.R_far (p := ⟨gb356, 4, none⟩) (Kd.R_far (p := ⟨gb356, 3, none⟩) (Kd.R_far (p := ⟨gb356, 2, none⟩) (Kd.R_far (p := ⟨gb356, 1, none⟩) (Kd.R_far (p := ⟨gb356, 0, none⟩) (Kd.R_types HO332.out BK356.out (by decide)) (fun _ hk => hk.2) (.int .i64 t344)) (fun _ hk => hk.2) (.int .i64 t345)) (fun _ hk => hk.2) (.slice Ao38 t346.length co38)) (fun _ hk => hk.2) (.slice Ao39 t349.length co39)) (fun _ hk => hk.2) (.slice Ao40 t352.length co40)) (fun _ h_ => h_.1)))); (case s10 => exact r1 HO332); (case s11 => refine (Kd.R_reads' (e := 60) (base := w.heap.size) (ok := fun k_ => ((some k_ ≠ (.slice Ao23 t330.length co23 : Value).ownBlock ∧ some k_ ≠ (.slice Ao39 t349.length co39 : Value).ownBlock) ∧ some k_ ≠ (.slice Ao40 t352.length co40 : Value).ownBlock)) (n := t333.length) (c := co24) ?_).2.2; exact (by (with_reducible repeat (first | apply Kd.R_alloc | apply Kd.R_drewN | apply Kd.R_drew)); exact (Kd.R_mono (Kd.R_far (p := ⟨gb356, 4, none⟩) (Kd.R_far (p := ⟨gb356, 3, none⟩) (Kd.R_far (p := ⟨gb356, 2, none⟩) (Kd.R_far (p := ⟨gb356, 1, none⟩) (Kd.R_far (p := ⟨gb356, 0, none⟩) (Kd.R_types HO335.out BK356.out (by decide)) (fun _ hk => hk.2) (.int .i64 t344)) (fun _ hk => hk.2) (.int .i64 t345)) (fun _ hk => hk.2) (.slice Ao38 t346.length co38)) (fun _ hk => hk.2) (.slice Ao39 t349.length co39)) (fun _ hk => hk.2) (.slice Ao40 t352.length co40)) (fun _ h_ => h_.1)))); (case s12 => exact r1 HO335); rintro e w50 ⟨rfl, hb⟩; refine ⟨_, rfl, ?_⟩; replace HO329 := Aside0.mk (Kd.R_below (by (with_reducible repeat (first | apply Kd.R_alloc | apply Kd.R_drewN | apply Kd.R_drew)); exact (Kd.R_mono (Kd.R_far (p := ⟨gb356, 4, none⟩) (Kd.R_far (p := ⟨gb356, 3, none⟩) (Kd.R_far (p := ⟨gb356, 2, none⟩) (Kd.R_far (p := ⟨gb356, 1, none⟩) (Kd.R_far (p := ⟨gb356, 0, none⟩) (Kd.R_types HO329.out BK356.out (by decide)) (fun _ hk => hk.2) (.int .i64 t344)) (fun _ hk => hk.2) (.int .i64 t345)) (fun _ hk => hk.2) (.slice Ao38 t346.length co38)) (fun _ hk => hk.2) (.slice Ao39 t349.length co39)) (fun _ hk => hk.2) (.slice Ao40 t352.length co40)) (fun _ h_ => h_.1))) hb); replace HO332 := Aside0.mk (Kd.R_below (by (with_reducible repeat (first | apply Kd.R_alloc | apply Kd.R_drewN | apply Kd.R_drew)); exact (Kd.R_mono (Kd.R_far (p := ⟨gb356, 4, none⟩) (Kd.R_far (p := ⟨gb356, 3, none⟩) (Kd.R_far (p := ⟨gb356, 2, none⟩) (Kd.R_far (p := ⟨gb356, 1, none⟩) (Kd.R_far (p := ⟨gb356, 0, none⟩) (Kd.R_types HO332.out BK356.out (by decide)) (fun _ hk => hk.2) (.int .i64 t344)) (fun _ hk => hk.2) (.int .i64 t345)) (fun _ hk => hk.2) (.slice Ao38 t346.length co38)) (fun _ hk => hk.2) (.slice Ao39 t349.length co39)) (fun _ hk => hk.2) (.slice Ao40 t352.length co40)) (fun _ h_ => h_.1))) hb); replace HO335 := Aside0.mk (Kd.R_below (by (with_reducible repeat (first | apply Kd.R_alloc | apply Kd.R_drewN | apply Kd.R_drew)); exact (Kd.R_mono (Kd.R_far (p := ⟨gb356, 4, none⟩) (Kd.R_far (p := ⟨gb356, 3, none⟩) (Kd.R_far (p := ⟨gb356, 2, none⟩) (Kd.R_far (p := ⟨gb356, 1, none⟩) (Kd.R_far (p := ⟨gb356, 0, none⟩) (Kd.R_types HO335.out BK356.out (by decide)) (fun _ hk => hk.2) (.int .i64 t344)) (fun _ hk => hk.2) (.int .i64 t345)) (fun _ hk => hk.2) (.slice Ao38 t346.length co38)) (fun _ hk => hk.2) (.slice Ao39 t349.length co39)) (fun _ hk => hk.2) (.slice Ao40 t352.length co40)) (fun _ h_ => h_.1))) hb); replace HO342 := Aside0.mk (Kd.R_below (by (with_reducible repeat (first | apply Kd.R_alloc | apply Kd.R_drewN | apply Kd.R_drew)); exact (Kd.R_mono (Kd.R_far (p := ⟨gb356, 4, none⟩) (Kd.R_far (p := ⟨gb356, 3, none⟩) (Kd.R_far (p := ⟨gb356, 2, none⟩) (Kd.R_far (p := ⟨gb356, 1, none⟩) (Kd.R_far (p := ⟨gb356, 0, none⟩) (Kd.R_types HO342.out BK356.out (by decide)) (fun _ hk => hk.2) (.int .i64 t344)) (fun _ hk => hk.2) (.int .i64 t345)) (fun _ hk => hk.2) (.slice Ao38 t346.length co38)) (fun _ hk => hk.2) (.slice Ao39 t349.length co39)) (fun _ hk => hk.2) (.slice Ao40 t352.length co40)) (fun _ h_ => h_.1))) hb); replace HO348 := Aside0.mk (Kd.R_below (by (with_reducible repeat (first | apply Kd.R_alloc | apply Kd.R_drewN | apply Kd.R_drew)); exact (Kd.R_mono (Kd.R_far (p := ⟨gb356, 4, none⟩) (Kd.R_far (p := ⟨gb356, 3, none⟩) (Kd.R_far (p := ⟨gb356, 2, none⟩) (Kd.R_far (p := ⟨gb356, 1, none⟩) (Kd.R_far (p := ⟨gb356, 0, none⟩) (Kd.R_types HO348.out BK356.out (by decide)) (fun _ hk => hk.2) (.int .i64 t344)) (fun _ hk => hk.2) (.int .i64 t345)) (fun _ hk => hk.2) (.slice Ao38 t346.length co38)) (fun _ hk => hk.2) (.slice Ao39 t349.length co39)) (fun _ hk => hk.2) (.slice Ao40 t352.length co40)) (fun _ h_ => h_.1))) hb); replace HO351 := Aside0.mk (Kd.R_below (by (with_reducible repeat (first | apply Kd.R_alloc | apply Kd.R_drewN | apply Kd.R_drew)); exact (Kd.R_mono (Kd.R_far (p := ⟨gb356, 4, none⟩) (Kd.R_far (p := ⟨gb356, 3, none⟩) (Kd.R_far (p := ⟨gb356, 2, none⟩) (Kd.R_far (p := ⟨gb356, 1, none⟩) (Kd.R_far (p := ⟨gb356, 0, none⟩) (Kd.R_types HO351.out BK356.out (by decide)) (fun _ hk => hk.2) (.int .i64 t344)) (fun _ hk => hk.2) (.int .i64 t345)) (fun _ hk => hk.2) (.slice Ao38 t346.length co38)) (fun _ hk => hk.2) (.slice Ao39 t349.length co39)) (fun _ hk => hk.2) (.slice Ao40 t352.length co40)) (fun _ h_ => h_.1))) hb); replace HO354 := Aside0.mk (Kd.R_below (by (with_reducible repeat (first | apply Kd.R_alloc | apply Kd.R_drewN | apply Kd.R_drew)); exact (Kd.R_mono (Kd.R_far (p := ⟨gb356, 4, none⟩) (Kd.R_far (p := ⟨gb356, 3, none⟩) (Kd.R_far (p := ⟨gb356, 2, none⟩) (Kd.R_far (p := ⟨gb356, 1, none⟩) (Kd.R_far (p := ⟨gb356, 0, none⟩) (Kd.R_types HO354.out BK356.out (by decide)) (fun _ hk => hk.2) (.int .i64 t344)) (fun _ hk => hk.2) (.int .i64 t345)) (fun _ hk => hk.2) (.slice Ao38 t346.length co38)) (fun _ hk => hk.2) (.slice Ao39 t349.length co39)) (fun _ hk => hk.2) (.slice Ao40 t352.length co40)) (fun _ h_ => h_.1))) hb); replace BK318 := Aside0.mk (blk_below (g := gb318) (o := .cells #[.int .i64 a0_0, .int .i64 a0_1, .slice A0_2 l0_2.length c0_2] 24 (0, 0)) (by (with_reducible repeat (first | refine blk_drewN ?_ _ | refine blk_drew ?_ | refine blk_alloc ?_ _)); refine blk_far ?_ NB318_356.out _; (with_reducible repeat (first | refine blk_drewN ?_ _ | refine blk_drew ?_ | refine blk_alloc ?_ _)); refine blk_far ?_ NB318_356.out _; (with_reducible repeat (first | refine blk_drewN ?_ _ | refine blk_drew ?_ | refine blk_alloc ?_ _)); refine blk_far ?_ NB318_356.out _; (with_reducible repeat (first | refine blk_drewN ?_ _ | refine blk_drew ?_ | refine blk_alloc ?_ _)); refine blk_far ?_ NB318_356.out _; (with_reducible repeat (first | refine blk_drewN ?_ _ | refine blk_drew ?_ | refine blk_alloc ?_ _)); refine blk_far ?_ NB318_356.out _; (with_reducible repeat (first | refine blk_drewN ?_ _ | refine blk_drew ?_ | refine blk_alloc ?_ _)); exact BK318.out) hb); replace BK337 := Aside0.mk (blk_below (g := gb337) (o := .cells #[.int .i64 t325, .int .i64 t326, .slice Ao22 t327.length co22, .slice Ao23 t330.length co23, .slice Ao24 t333.length co24] 35 (0, 0)) (by (with_reducible repeat (first | refine blk_drewN ?_ _ | refine blk_drew ?_ | refine blk_alloc ?_ _)); refine blk_far ?_ NB337_356.out _; (with_reducible repeat (first | refine blk_drewN ?_ _ | refine blk_drew ?_ | refine blk_alloc ?_ _)); refine blk_far ?_ NB337_356.out _; (with_reducible repeat (first | refine blk_drewN ?_ _ | refine blk_drew ?_ | refine blk_alloc ?_ _)); refine blk_far ?_ NB337_356.out _; (with_reducible repeat (first | refine blk_drewN ?_ _ | refine blk_drew ?_ | refine blk_alloc ?_ _)); refine blk_far ?_ NB337_356.out _; (with_reducible repeat (first | refine blk_drewN ?_ _ | refine blk_drew ?_ | refine blk_alloc ?_ _)); refine blk_far ?_ NB337_356.out _; (with_reducible repeat (first | refine blk_drewN ?_ _ | refine blk_drew ?_ | refine blk_alloc ?_ _)); exact BK337.out) hb); replace BK343 := Aside0.mk (blk_below (g := gb343) (o := .cells #[.int .i64 t338, .int .i64 t339, .slice Ao31 t340.length co31] 32 (0, 0)) (by (with_reducible repeat (first | refine blk_drewN ?_ _ | refine blk_drew ?_ | refine blk_alloc ?_ _)); refine blk_far ?_ NB343_356.out _; (with_reducible repeat (first | refine blk_drewN ?_ _ | refine blk_drew ?_ | refine blk_alloc ?_ _)); refine blk_far ?_ NB343_356.out _; (with_reducible repeat (first | refine blk_drewN ?_ _ | refine blk_drew ?_ | refine blk_alloc ?_ _)); refine blk_far ?_ NB343_356.out _; (with_reducible repeat (first | refine blk_drewN ?_ _ | refine blk_drew ?_ | refine blk_alloc ?_ _)); refine blk_far ?_ NB343_356.out _; (with_reducible repeat (first | refine blk_drewN ?_ _ | refine blk_drew ?_ | refine blk_alloc ?_ _)); refine blk_far ?_ NB343_356.out _; (with_reducible repeat (first | refine blk_drewN ?_ _ | refine blk_drew ?_ | refine blk_alloc ?_ _)); exact BK343.out) hb); replace BK356 := Aside0.mk (blk_below (g := gb356) (o := .cells #[.int .i64 t344, .int .i64 t345, .slice Ao38 t346.length co38, .slice Ao39 t349.length co39, .slice Ao40 t352.length co40] 35 (0, 0)) (by (with_reducible repeat (first | refine blk_drewN ?_ _ | refine blk_drew ?_ | refine blk_alloc ?_ _)); refine blk_put (cs := #[.int .i64 t344, .int .i64 t345, .slice Ao38 t346.length co38, .slice Ao39 t349.length co39, .slice none 0 0]) ?_ 4 _ rfl; (with_reducible repeat (first | refine blk_drewN ?_ _ | refine blk_drew ?_ | refine blk_alloc ?_ _)); refine blk_put (cs := #[.int .i64 t344, .int .i64 t345, .slice Ao38 t346.length co38, .slice none 0 0, .slice none 0 0]) ?_ 3 _ rfl; (with_reducible repeat (first | refine blk_drewN ?_ _ | refine blk_drew ?_ | refine blk_alloc ?_ _)); refine blk_put (cs := #[.int .i64 t344, .int .i64 t345, .slice none 0 0, .slice none 0 0, .slice none 0 0]) ?_ 2 _ rfl; (with_reducible repeat (first | refine blk_drewN ?_ _ | refine blk_drew ?_ | refine blk_alloc ?_ _)); refine blk_put (cs := #[.int .i64 t344, .int .i64 0, .slice none 0 0, .slice none 0 0, .slice none 0 0]) ?_ 1 _ rfl; (with_reducible repeat (first | refine blk_drewN ?_ _ | refine blk_drew ?_ | refine blk_alloc ?_ _)); refine blk_put (cs := #[.int .i64 0, .int .i64 0, .slice none 0 0, .slice none 0 0, .slice none 0 0]) ?_ 0 _ rfl; (with_reducible repeat (first | refine blk_drewN ?_ _ | refine blk_drew ?_ | refine blk_alloc ?_ _)); exact BK356.out) hb); replace HB := sb hb; (try clear hb hb2 hk hi)))
    go_meet
    case rel => exact ⟨_, ((t355 != t336)), sq, H', ⟨by first | omega | exact Nat.le_refl _⟩, ⟨by (with_reducible repeat (first | apply Kd.R_alloc | apply Kd.R_drewN | apply Kd.R_drew)); exact Kd.R_mono HO329.out (fun _ hk => ⟨hk.1.2, hk.2⟩)⟩, ⟨by (with_reducible repeat (first | apply Kd.R_alloc | apply Kd.R_drewN | apply Kd.R_drew)); exact Kd.R_mono HO332.out (fun _ hk => ⟨hk.1.1, ⟨hk.1.2, hk.2⟩⟩)⟩, ⟨by (with_reducible repeat (first | apply Kd.R_alloc | apply Kd.R_drewN | apply Kd.R_drew)); exact Kd.R_mono HO335.out (fun _ hk => ⟨hk.1.1, ⟨hk.1.2, hk.2⟩⟩)⟩, ⟨by (with_reducible repeat (first | apply Kd.R_alloc | apply Kd.R_drewN | apply Kd.R_drew)); exact Kd.R_mono HO342.out (fun _ hk => ⟨hk.1.2, hk.2⟩)⟩, ⟨by (with_reducible repeat (first | apply Kd.R_alloc | apply Kd.R_drewN | apply Kd.R_drew)); exact Kd.R_mono HO348.out (fun _ hk => ⟨hk.1.2, hk.2⟩)⟩, ⟨by (with_reducible repeat (first | apply Kd.R_alloc | apply Kd.R_drewN | apply Kd.R_drew)); exact Kd.R_mono HO351.out (fun _ hk => ⟨hk.1.2, ⟨hk.2, hk.1.1⟩⟩)⟩, ⟨by (with_reducible repeat (first | apply Kd.R_alloc | apply Kd.R_drewN | apply Kd.R_drew)); exact Kd.R_mono HO354.out (fun _ hk => ⟨hk.1.2, ⟨hk.2, hk.1.1⟩⟩)⟩, ⟨zq BK318⟩, ⟨zq BK337⟩, ⟨zq BK343⟩, ⟨zq BK356⟩, ⟨bq⟩⟩
   ·replace c42 := Bool.eq_false_iff.mpr c42
    subst c42
    rw [if_neg (show ¬ (false = true) by decide)] at H
    try dsimp only at H
    have H' := Aside0.mk H
    clear H
    have hnb51 := NB356_318.out
    have hnc51 := NB318_356.out
    have hnb52 := NB356_337.out
    have hnc52 := NB337_356.out
    have hnb53 := NB356_343.out
    have hnc53 := NB343_356.out
    have ⟨hcz54_0, hcz54_1, hcz54_2, hcz54_3, hcz54_4, hfz54_0, hfz54_1, hfz54_2, hfz54_3, hfz54_4⟩ := bc5 BK356
    have hnb55 := NB337_318.out
    have hnc55 := NB318_337.out
    have hnb56 := NB337_343.out
    have hnc56 := NB343_337.out
    have ⟨hcz57_0, hcz57_1, hcz57_2, hcz57_3, hcz57_4, hfz57_0, hfz57_1, hfz57_2, hfz57_3, hfz57_4⟩ := bc5 BK337
    go_wp2_with (first | ((with_reducible refine gate_callee (f := 18) rfl ?_); refine goesQ (some 34) Try.func18 #[.agg #[.int .i64 t344, .int .i64 t345, .slice Ao38 t346.length co38, .slice Ao39 t349.length co39, .slice Ao40 t352.length co40], .agg #[.int .i64 t325, .int .i64 t326, .slice Ao22 t327.length co22, .slice Ao23 t330.length co23, .slice Ao24 t333.length co24]] ?_; (with_reducible refine (laws_eqSession.calls k t344 t345 _ _ t346 _ _ t349 _ _ t352 t325 t326 _ _ t327 _ _ t330 _ _ t333 false _ ?s1 ?s2 ?s3 ?s4 ?s5 ?s6 ?s7 ?s8 ?s9 ?s10 ?s11 ?s12 A41.out).mono ?_); (case s1 => refine (Kd.R_reads' (e := 58) (base := w.heap.size) (ok := fun k_ => (((True ∧ some k_ ≠ (.slice Ao17 t322.length co17 : Value).ownBlock) ∧ some k_ ≠ (.slice Ao22 t327.length co22 : Value).ownBlock) ∧ some k_ ≠ (.slice Ao31 t340.length co31 : Value).ownBlock)) (n := t346.length) (c := co38) ?_).2.2; exact (by (with_reducible repeat (first | apply Kd.R_alloc | apply Kd.R_drewN | apply Kd.R_drew)); exact (Kd.R_mono (Kd.R_far (p := ⟨gb356, 4, none⟩) (Kd.R_far (p := ⟨gb356, 3, none⟩) (Kd.R_far (p := ⟨gb356, 2, none⟩) (Kd.R_far (p := ⟨gb356, 1, none⟩) (Kd.R_far (p := ⟨gb356, 0, none⟩) (Kd.R_types HO348.out BK356.out (by decide)) (fun _ hk => hk.2) (.int .i64 t344)) (fun _ hk => hk.2) (.int .i64 t345)) (fun _ hk => hk.2) (.slice Ao38 t346.length co38)) (fun _ hk => hk.2) (.slice Ao39 t349.length co39)) (fun _ hk => hk.2) (.slice Ao40 t352.length co40)) (fun _ h_ => h_.1)))); (case s2 => exact r1 HO348); (case s3 => refine (Kd.R_reads' (e := 60) (base := w.heap.size) (ok := fun k_ => ((some k_ ≠ (.slice Ao40 t352.length co40 : Value).ownBlock ∧ some k_ ≠ (.slice Ao23 t330.length co23 : Value).ownBlock) ∧ some k_ ≠ (.slice Ao24 t333.length co24 : Value).ownBlock)) (n := t349.length) (c := co39) ?_).2.2; exact (by (with_reducible repeat (first | apply Kd.R_alloc | apply Kd.R_drewN | apply Kd.R_drew)); exact (Kd.R_mono (Kd.R_far (p := ⟨gb356, 4, none⟩) (Kd.R_far (p := ⟨gb356, 3, none⟩) (Kd.R_far (p := ⟨gb356, 2, none⟩) (Kd.R_far (p := ⟨gb356, 1, none⟩) (Kd.R_far (p := ⟨gb356, 0, none⟩) (Kd.R_types HO351.out BK356.out (by decide)) (fun _ hk => hk.2) (.int .i64 t344)) (fun _ hk => hk.2) (.int .i64 t345)) (fun _ hk => hk.2) (.slice Ao38 t346.length co38)) (fun _ hk => hk.2) (.slice Ao39 t349.length co39)) (fun _ hk => hk.2) (.slice Ao40 t352.length co40)) (fun _ h_ => h_.1)))); (case s4 => exact r1 HO351); (case s5 => refine (Kd.R_reads' (e := 60) (base := w.heap.size) (ok := fun k_ => ((some k_ ≠ (.slice Ao39 t349.length co39 : Value).ownBlock ∧ some k_ ≠ (.slice Ao23 t330.length co23 : Value).ownBlock) ∧ some k_ ≠ (.slice Ao24 t333.length co24 : Value).ownBlock)) (n := t352.length) (c := co40) ?_).2.2; exact (by (with_reducible repeat (first | apply Kd.R_alloc | apply Kd.R_drewN | apply Kd.R_drew)); exact (Kd.R_mono (Kd.R_far (p := ⟨gb356, 4, none⟩) (Kd.R_far (p := ⟨gb356, 3, none⟩) (Kd.R_far (p := ⟨gb356, 2, none⟩) (Kd.R_far (p := ⟨gb356, 1, none⟩) (Kd.R_far (p := ⟨gb356, 0, none⟩) (Kd.R_types HO354.out BK356.out (by decide)) (fun _ hk => hk.2) (.int .i64 t344)) (fun _ hk => hk.2) (.int .i64 t345)) (fun _ hk => hk.2) (.slice Ao38 t346.length co38)) (fun _ hk => hk.2) (.slice Ao39 t349.length co39)) (fun _ hk => hk.2) (.slice Ao40 t352.length co40)) (fun _ h_ => h_.1)))); (case s6 => exact r1 HO354); (case s7 => refine (Kd.R_reads' (e := 58) (base := w.heap.size) (ok := fun k_ => (((True ∧ some k_ ≠ (.slice Ao17 t322.length co17 : Value).ownBlock) ∧ some k_ ≠ (.slice Ao31 t340.length co31 : Value).ownBlock) ∧ some k_ ≠ (.slice Ao38 t346.length co38 : Value).ownBlock)) (n := t327.length) (c := co22) ?_).2.2; exact (by (with_reducible repeat (first | apply Kd.R_alloc | apply Kd.R_drewN | apply Kd.R_drew)); exact (Kd.R_mono (Kd.R_far (p := ⟨gb356, 4, none⟩) (Kd.R_far (p := ⟨gb356, 3, none⟩) (Kd.R_far (p := ⟨gb356, 2, none⟩) (Kd.R_far (p := ⟨gb356, 1, none⟩) (Kd.R_far (p := ⟨gb356, 0, none⟩) (Kd.R_types HO329.out BK356.out (by decide)) (fun _ hk => hk.2) (.int .i64 t344)) (fun _ hk => hk.2) (.int .i64 t345)) (fun _ hk => hk.2) (.slice Ao38 t346.length co38)) (fun _ hk => hk.2) (.slice Ao39 t349.length co39)) (fun _ hk => hk.2) (.slice Ao40 t352.length co40)) (fun _ h_ => h_.1)))); (case s8 => exact r1 HO329); (case s9 => refine (Kd.R_reads' (e := 60) (base := w.heap.size) (ok := fun k_ => ((some k_ ≠ (.slice Ao24 t333.length co24 : Value).ownBlock ∧ some k_ ≠ (.slice Ao39 t349.length co39 : Value).ownBlock) ∧ some k_ ≠ (.slice Ao40 t352.length co40 : Value).ownBlock)) (n := t330.length) (c := co23) ?_).2.2; exact (by (with_reducible repeat (first | apply Kd.R_alloc | apply Kd.R_drewN | apply Kd.R_drew)); exact (Kd.R_mono (Kd.R_far (p := ⟨gb356, 4, none⟩) (Kd.R_far (p := ⟨gb356, 3, none⟩) (Kd.R_far (p := ⟨gb356, 2, none⟩) (Kd.R_far (p := ⟨gb356, 1, none⟩) (Kd.R_far (p := ⟨gb356, 0, none⟩) (Kd.R_types HO332.out BK356.out (by decide)) (fun _ hk => hk.2) (.int .i64 t344)) (fun _ hk => hk.2) (.int .i64 t345)) (fun _ hk => hk.2) (.slice Ao38 t346.length co38)) (fun _ hk => hk.2) (.slice Ao39 t349.length co39)) (fun _ hk => hk.2) (.slice Ao40 t352.length co40)) (fun _ h_ => h_.1)))); (case s10 => exact r1 HO332); (case s11 => refine (Kd.R_reads' (e := 60) (base := w.heap.size) (ok := fun k_ => ((some k_ ≠ (.slice Ao23 t330.length co23 : Value).ownBlock ∧ some k_ ≠ (.slice Ao39 t349.length co39 : Value).ownBlock) ∧ some k_ ≠ (.slice Ao40 t352.length co40 : Value).ownBlock)) (n := t333.length) (c := co24) ?_).2.2; exact (by (with_reducible repeat (first | apply Kd.R_alloc | apply Kd.R_drewN | apply Kd.R_drew)); exact (Kd.R_mono (Kd.R_far (p := ⟨gb356, 4, none⟩) (Kd.R_far (p := ⟨gb356, 3, none⟩) (Kd.R_far (p := ⟨gb356, 2, none⟩) (Kd.R_far (p := ⟨gb356, 1, none⟩) (Kd.R_far (p := ⟨gb356, 0, none⟩) (Kd.R_types HO335.out BK356.out (by decide)) (fun _ hk => hk.2) (.int .i64 t344)) (fun _ hk => hk.2) (.int .i64 t345)) (fun _ hk => hk.2) (.slice Ao38 t346.length co38)) (fun _ hk => hk.2) (.slice Ao39 t349.length co39)) (fun _ hk => hk.2) (.slice Ao40 t352.length co40)) (fun _ h_ => h_.1)))); (case s12 => exact r1 HO335); rintro e w58 ⟨rfl, hb⟩; refine ⟨_, rfl, ?_⟩; replace HO329 := Aside0.mk (Kd.R_below (by (with_reducible repeat (first | apply Kd.R_alloc | apply Kd.R_drewN | apply Kd.R_drew)); exact (Kd.R_mono (Kd.R_far (p := ⟨gb356, 4, none⟩) (Kd.R_far (p := ⟨gb356, 3, none⟩) (Kd.R_far (p := ⟨gb356, 2, none⟩) (Kd.R_far (p := ⟨gb356, 1, none⟩) (Kd.R_far (p := ⟨gb356, 0, none⟩) (Kd.R_types HO329.out BK356.out (by decide)) (fun _ hk => hk.2) (.int .i64 t344)) (fun _ hk => hk.2) (.int .i64 t345)) (fun _ hk => hk.2) (.slice Ao38 t346.length co38)) (fun _ hk => hk.2) (.slice Ao39 t349.length co39)) (fun _ hk => hk.2) (.slice Ao40 t352.length co40)) (fun _ h_ => h_.1))) hb); replace HO332 := Aside0.mk (Kd.R_below (by (with_reducible repeat (first | apply Kd.R_alloc | apply Kd.R_drewN | apply Kd.R_drew)); exact (Kd.R_mono (Kd.R_far (p := ⟨gb356, 4, none⟩) (Kd.R_far (p := ⟨gb356, 3, none⟩) (Kd.R_far (p := ⟨gb356, 2, none⟩) (Kd.R_far (p := ⟨gb356, 1, none⟩) (Kd.R_far (p := ⟨gb356, 0, none⟩) (Kd.R_types HO332.out BK356.out (by decide)) (fun _ hk => hk.2) (.int .i64 t344)) (fun _ hk => hk.2) (.int .i64 t345)) (fun _ hk => hk.2) (.slice Ao38 t346.length co38)) (fun _ hk => hk.2) (.slice Ao39 t349.length co39)) (fun _ hk => hk.2) (.slice Ao40 t352.length co40)) (fun _ h_ => h_.1))) hb); replace HO335 := Aside0.mk (Kd.R_below (by (with_reducible repeat (first | apply Kd.R_alloc | apply Kd.R_drewN | apply Kd.R_drew)); exact (Kd.R_mono (Kd.R_far (p := ⟨gb356, 4, none⟩) (Kd.R_far (p := ⟨gb356, 3, none⟩) (Kd.R_far (p := ⟨gb356, 2, none⟩) (Kd.R_far (p := ⟨gb356, 1, none⟩) (Kd.R_far (p := ⟨gb356, 0, none⟩) (Kd.R_types HO335.out BK356.out (by decide)) (fun _ hk => hk.2) (.int .i64 t344)) (fun _ hk => hk.2) (.int .i64 t345)) (fun _ hk => hk.2) (.slice Ao38 t346.length co38)) (fun _ hk => hk.2) (.slice Ao39 t349.length co39)) (fun _ hk => hk.2) (.slice Ao40 t352.length co40)) (fun _ h_ => h_.1))) hb); replace HO342 := Aside0.mk (Kd.R_below (by (with_reducible repeat (first | apply Kd.R_alloc | apply Kd.R_drewN | apply Kd.R_drew)); exact (Kd.R_mono (Kd.R_far (p := ⟨gb356, 4, none⟩) (Kd.R_far (p := ⟨gb356, 3, none⟩) (Kd.R_far (p := ⟨gb356, 2, none⟩) (Kd.R_far (p := ⟨gb356, 1, none⟩) (Kd.R_far (p := ⟨gb356, 0, none⟩) (Kd.R_types HO342.out BK356.out (by decide)) (fun _ hk => hk.2) (.int .i64 t344)) (fun _ hk => hk.2) (.int .i64 t345)) (fun _ hk => hk.2) (.slice Ao38 t346.length co38)) (fun _ hk => hk.2) (.slice Ao39 t349.length co39)) (fun _ hk => hk.2) (.slice Ao40 t352.length co40)) (fun _ h_ => h_.1))) hb); replace HO348 := Aside0.mk (Kd.R_below (by (with_reducible repeat (first | apply Kd.R_alloc | apply Kd.R_drewN | apply Kd.R_drew)); exact (Kd.R_mono (Kd.R_far (p := ⟨gb356, 4, none⟩) (Kd.R_far (p := ⟨gb356, 3, none⟩) (Kd.R_far (p := ⟨gb356, 2, none⟩) (Kd.R_far (p := ⟨gb356, 1, none⟩) (Kd.R_far (p := ⟨gb356, 0, none⟩) (Kd.R_types HO348.out BK356.out (by decide)) (fun _ hk => hk.2) (.int .i64 t344)) (fun _ hk => hk.2) (.int .i64 t345)) (fun _ hk => hk.2) (.slice Ao38 t346.length co38)) (fun _ hk => hk.2) (.slice Ao39 t349.length co39)) (fun _ hk => hk.2) (.slice Ao40 t352.length co40)) (fun _ h_ => h_.1))) hb); replace HO351 := Aside0.mk (Kd.R_below (by (with_reducible repeat (first | apply Kd.R_alloc | apply Kd.R_drewN | apply Kd.R_drew)); exact (Kd.R_mono (Kd.R_far (p := ⟨gb356, 4, none⟩) (Kd.R_far (p := ⟨gb356, 3, none⟩) (Kd.R_far (p := ⟨gb356, 2, none⟩) (Kd.R_far (p := ⟨gb356, 1, none⟩) (Kd.R_far (p := ⟨gb356, 0, none⟩) (Kd.R_types HO351.out BK356.out (by decide)) (fun _ hk => hk.2) (.int .i64 t344)) (fun _ hk => hk.2) (.int .i64 t345)) (fun _ hk => hk.2) (.slice Ao38 t346.length co38)) (fun _ hk => hk.2) (.slice Ao39 t349.length co39)) (fun _ hk => hk.2) (.slice Ao40 t352.length co40)) (fun _ h_ => h_.1))) hb); replace HO354 := Aside0.mk (Kd.R_below (by (with_reducible repeat (first | apply Kd.R_alloc | apply Kd.R_drewN | apply Kd.R_drew)); exact (Kd.R_mono (Kd.R_far (p := ⟨gb356, 4, none⟩) (Kd.R_far (p := ⟨gb356, 3, none⟩) (Kd.R_far (p := ⟨gb356, 2, none⟩) (Kd.R_far (p := ⟨gb356, 1, none⟩) (Kd.R_far (p := ⟨gb356, 0, none⟩) (Kd.R_types HO354.out BK356.out (by decide)) (fun _ hk => hk.2) (.int .i64 t344)) (fun _ hk => hk.2) (.int .i64 t345)) (fun _ hk => hk.2) (.slice Ao38 t346.length co38)) (fun _ hk => hk.2) (.slice Ao39 t349.length co39)) (fun _ hk => hk.2) (.slice Ao40 t352.length co40)) (fun _ h_ => h_.1))) hb); replace BK318 := Aside0.mk (blk_below (g := gb318) (o := .cells #[.int .i64 a0_0, .int .i64 a0_1, .slice A0_2 l0_2.length c0_2] 24 (0, 0)) (by (with_reducible repeat (first | refine blk_drewN ?_ _ | refine blk_drew ?_ | refine blk_alloc ?_ _)); refine blk_far ?_ NB318_356.out _; (with_reducible repeat (first | refine blk_drewN ?_ _ | refine blk_drew ?_ | refine blk_alloc ?_ _)); refine blk_far ?_ NB318_356.out _; (with_reducible repeat (first | refine blk_drewN ?_ _ | refine blk_drew ?_ | refine blk_alloc ?_ _)); refine blk_far ?_ NB318_356.out _; (with_reducible repeat (first | refine blk_drewN ?_ _ | refine blk_drew ?_ | refine blk_alloc ?_ _)); refine blk_far ?_ NB318_356.out _; (with_reducible repeat (first | refine blk_drewN ?_ _ | refine blk_drew ?_ | refine blk_alloc ?_ _)); refine blk_far ?_ NB318_356.out _; (with_reducible repeat (first | refine blk_drewN ?_ _ | refine blk_drew ?_ | refine blk_alloc ?_ _)); exact BK318.out) hb); replace BK337 := Aside0.mk (blk_below (g := gb337) (o := .cells #[.int .i64 t325, .int .i64 t326, .slice Ao22 t327.length co22, .slice Ao23 t330.length co23, .slice Ao24 t333.length co24] 35 (0, 0)) (by (with_reducible repeat (first | refine blk_drewN ?_ _ | refine blk_drew ?_ | refine blk_alloc ?_ _)); refine blk_far ?_ NB337_356.out _; (with_reducible repeat (first | refine blk_drewN ?_ _ | refine blk_drew ?_ | refine blk_alloc ?_ _)); refine blk_far ?_ NB337_356.out _; (with_reducible repeat (first | refine blk_drewN ?_ _ | refine blk_drew ?_ | refine blk_alloc ?_ _)); refine blk_far ?_ NB337_356.out _; (with_reducible repeat (first | refine blk_drewN ?_ _ | refine blk_drew ?_ | refine blk_alloc ?_ _)); refine blk_far ?_ NB337_356.out _; (with_reducible repeat (first | refine blk_drewN ?_ _ | refine blk_drew ?_ | refine blk_alloc ?_ _)); refine blk_far ?_ NB337_356.out _; (with_reducible repeat (first | refine blk_drewN ?_ _ | refine blk_drew ?_ | refine blk_alloc ?_ _)); exact BK337.out) hb); replace BK343 := Aside0.mk (blk_below (g := gb343) (o := .cells #[.int .i64 t338, .int .i64 t339, .slice Ao31 t340.length co31] 32 (0, 0)) (by (with_reducible repeat (first | refine blk_drewN ?_ _ | refine blk_drew ?_ | refine blk_alloc ?_ _)); refine blk_far ?_ NB343_356.out _; (with_reducible repeat (first | refine blk_drewN ?_ _ | refine blk_drew ?_ | refine blk_alloc ?_ _)); refine blk_far ?_ NB343_356.out _; (with_reducible repeat (first | refine blk_drewN ?_ _ | refine blk_drew ?_ | refine blk_alloc ?_ _)); refine blk_far ?_ NB343_356.out _; (with_reducible repeat (first | refine blk_drewN ?_ _ | refine blk_drew ?_ | refine blk_alloc ?_ _)); refine blk_far ?_ NB343_356.out _; (with_reducible repeat (first | refine blk_drewN ?_ _ | refine blk_drew ?_ | refine blk_alloc ?_ _)); refine blk_far ?_ NB343_356.out _; (with_reducible repeat (first | refine blk_drewN ?_ _ | refine blk_drew ?_ | refine blk_alloc ?_ _)); exact BK343.out) hb); replace BK356 := Aside0.mk (blk_below (g := gb356) (o := .cells #[.int .i64 t344, .int .i64 t345, .slice Ao38 t346.length co38, .slice Ao39 t349.length co39, .slice Ao40 t352.length co40] 35 (0, 0)) (by (with_reducible repeat (first | refine blk_drewN ?_ _ | refine blk_drew ?_ | refine blk_alloc ?_ _)); refine blk_put (cs := #[.int .i64 t344, .int .i64 t345, .slice Ao38 t346.length co38, .slice Ao39 t349.length co39, .slice none 0 0]) ?_ 4 _ rfl; (with_reducible repeat (first | refine blk_drewN ?_ _ | refine blk_drew ?_ | refine blk_alloc ?_ _)); refine blk_put (cs := #[.int .i64 t344, .int .i64 t345, .slice Ao38 t346.length co38, .slice none 0 0, .slice none 0 0]) ?_ 3 _ rfl; (with_reducible repeat (first | refine blk_drewN ?_ _ | refine blk_drew ?_ | refine blk_alloc ?_ _)); refine blk_put (cs := #[.int .i64 t344, .int .i64 t345, .slice none 0 0, .slice none 0 0, .slice none 0 0]) ?_ 2 _ rfl; (with_reducible repeat (first | refine blk_drewN ?_ _ | refine blk_drew ?_ | refine blk_alloc ?_ _)); refine blk_put (cs := #[.int .i64 t344, .int .i64 0, .slice none 0 0, .slice none 0 0, .slice none 0 0]) ?_ 1 _ rfl; (with_reducible repeat (first | refine blk_drewN ?_ _ | refine blk_drew ?_ | refine blk_alloc ?_ _)); refine blk_put (cs := #[.int .i64 0, .int .i64 0, .slice none 0 0, .slice none 0 0, .slice none 0 0]) ?_ 0 _ rfl; (with_reducible repeat (first | refine blk_drewN ?_ _ | refine blk_drew ?_ | refine blk_alloc ?_ _)); exact BK356.out) hb); replace HB := sb hb; (try clear hb hb2 hk hi)))
    go_meet
    case rel => exact ⟨_, (true), sq, H', ⟨by first | omega | exact Nat.le_refl _⟩, ⟨by (with_reducible repeat (first | apply Kd.R_alloc | apply Kd.R_drewN | apply Kd.R_drew)); exact Kd.R_mono HO329.out (fun _ hk => ⟨hk.1.2, hk.2⟩)⟩, ⟨by (with_reducible repeat (first | apply Kd.R_alloc | apply Kd.R_drewN | apply Kd.R_drew)); exact Kd.R_mono HO332.out (fun _ hk => ⟨hk.1.1, ⟨hk.1.2, hk.2⟩⟩)⟩, ⟨by (with_reducible repeat (first | apply Kd.R_alloc | apply Kd.R_drewN | apply Kd.R_drew)); exact Kd.R_mono HO335.out (fun _ hk => ⟨hk.1.1, ⟨hk.1.2, hk.2⟩⟩)⟩, ⟨by (with_reducible repeat (first | apply Kd.R_alloc | apply Kd.R_drewN | apply Kd.R_drew)); exact Kd.R_mono HO342.out (fun _ hk => ⟨hk.1.2, hk.2⟩)⟩, ⟨by (with_reducible repeat (first | apply Kd.R_alloc | apply Kd.R_drewN | apply Kd.R_drew)); exact Kd.R_mono HO348.out (fun _ hk => ⟨hk.1.2, hk.2⟩)⟩, ⟨by (with_reducible repeat (first | apply Kd.R_alloc | apply Kd.R_drewN | apply Kd.R_drew)); exact Kd.R_mono HO351.out (fun _ hk => ⟨hk.1.2, ⟨hk.2, hk.1.1⟩⟩)⟩, ⟨by (with_reducible repeat (first | apply Kd.R_alloc | apply Kd.R_drewN | apply Kd.R_drew)); exact Kd.R_mono HO354.out (fun _ hk => ⟨hk.1.2, ⟨hk.2, hk.1.1⟩⟩)⟩, ⟨zq BK318⟩, ⟨zq BK337⟩, ⟨zq BK343⟩, ⟨zq BK356⟩, ⟨bq⟩⟩
  case rest =>
   clear HC11
   try clear c1
   try clear c2
   try clear p2
   try clear c3
   try clear c3b0
   try clear c4
   try clear c5
   try clear c18
   try clear c19
   try clear c20
   try clear c21
   try clear c22
   try clear c28
   try clear c29
   try clear c34
   try clear c35
   try clear c36
   try clear c42
   try clear c43
   try clear c44
   try clear c45
   try clear c47
   try clear c48
   try clear c51
   try clear c52
   try clear c53
   try clear c55
   try clear c56
   try clear hcz13_0
   try clear hcz13_1
   try clear hcz13_2
   try clear hcz15_0
   try clear hcz15_1
   try clear hcz15_2
   try clear hcz21_0
   try clear hcz21_1
   try clear hcz21_2
   try clear hcz21_3
   try clear hcz21_4
   try clear hcz25_0
   try clear hcz25_1
   try clear hcz25_2
   try clear hcz30_0
   try clear hcz30_1
   try clear hcz30_2
   try clear hcz37_0
   try clear hcz37_1
   try clear hcz37_2
   try clear hcz37_3
   try clear hcz37_4
   try clear hcz46_0
   try clear hcz46_1
   try clear hcz46_2
   try clear hcz46_3
   try clear hcz46_4
   try clear hcz49_0
   try clear hcz49_1
   try clear hcz49_2
   try clear hcz49_3
   try clear hcz49_4
   try clear hcz54_0
   try clear hcz54_1
   try clear hcz54_2
   try clear hcz54_3
   try clear hcz54_4
   try clear hcz57_0
   try clear hcz57_1
   try clear hcz57_2
   try clear hcz57_3
   try clear hcz57_4
   try clear hcz5_0
   try clear hcz5_1
   try clear hcz5_2
   try clear hfz13_0
   try clear hfz13_1
   try clear hfz13_2
   try clear hfz15_0
   try clear hfz15_1
   try clear hfz15_2
   try clear hfz21_0
   try clear hfz21_1
   try clear hfz21_2
   try clear hfz21_3
   try clear hfz21_4
   try clear hfz25_0
   try clear hfz25_1
   try clear hfz25_2
   try clear hfz30_0
   try clear hfz30_1
   try clear hfz30_2
   try clear hfz37_0
   try clear hfz37_1
   try clear hfz37_2
   try clear hfz37_3
   try clear hfz37_4
   try clear hfz46_0
   try clear hfz46_1
   try clear hfz46_2
   try clear hfz46_3
   try clear hfz46_4
   try clear hfz49_0
   try clear hfz49_1
   try clear hfz49_2
   try clear hfz49_3
   try clear hfz49_4
   try clear hfz54_0
   try clear hfz54_1
   try clear hfz54_2
   try clear hfz54_3
   try clear hfz54_4
   try clear hfz57_0
   try clear hfz57_1
   try clear hfz57_2
   try clear hfz57_3
   try clear hfz57_4
   try clear hfz5_0
   try clear hfz5_1
   try clear hfz5_2
   obtain ⟨kq, x40_10, rfl, HA, HJ10, HO_338002, HO_338003, HO_338004, HO_344002, HO_357002, HO_357003, HO_357004, BK318, BK337, BK343, BK356, HB⟩ := hcut
   cases kq with
   | zero => exact absurd HA.out (by simp [laws_FnExactNewSession.j0])
   | succ kj10 =>
    have H := HA.out
    clear HA
    simp only [laws_FnExactNewSession.j0] at H
    by_cases c59 : x40_10 = true
    ·subst c59
     rw [if_pos rfl] at H
     try dsimp only at H
     obtain rfl := Option.some.inj H
     go_wp2
     go_ret
     exact ⟨eq_, bq⟩
    ·replace c59 := Bool.eq_false_iff.mpr c59
     subst c59
     rw [if_neg (show ¬ (false = true) by decide)] at H
     try dsimp only at H
     obtain ⟨⟨t358, t359, t360⟩, A60, H⟩ := bindq H
     try dsimp only at H
     obtain ⟨t363, A61, H⟩ := bindq H
     try dsimp only at H
     by_cases c62 : t363 = true
     ·subst c62
      rw [if_pos rfl] at H
      try dsimp only at H
      obtain ⟨⟨t364, t365⟩, A63, H⟩ := bindq H
      try dsimp only at H
      have HC64 := Aside0.mk H
      clear H
      try go_wp2
      replace HO_338002 := Aside0.mk (Kd.R_drew HO_338002.out)
      replace HO_338003 := Aside0.mk (Kd.R_drew HO_338003.out)
      replace HO_338004 := Aside0.mk (Kd.R_drew HO_338004.out)
      replace HO_344002 := Aside0.mk (Kd.R_drew HO_344002.out)
      replace HO_357002 := Aside0.mk (Kd.R_drew HO_357002.out)
      replace HO_357003 := Aside0.mk (Kd.R_drew HO_357003.out)
      replace HO_357004 := Aside0.mk (Kd.R_drew HO_357004.out)
      replace BK318 := Aside0.mk (blk_drew BK318.out)
      replace BK337 := Aside0.mk (blk_drew BK337.out)
      replace BK343 := Aside0.mk (blk_drew BK343.out)
      replace BK356 := Aside0.mk (blk_drew BK356.out)
      replace HB := Aside0.mk (below_drew1 HB.out)
      refine start_ (n := 5) (S := fun w' => w'.cell? ⟨gb343, 0, none⟩ = some (.int .i64 t338) ∧ w'.cell? ⟨gb343, 1, none⟩ = some (.int .i64 t339) ∧ w'.cell? ⟨gb343, 2, none⟩ = some (.slice Ao31 t340.length co31) ∧ w'.cell? ⟨gb318, 0, none⟩ = some (.int .i64 a0_0) ∧ w'.cell? ⟨gb318, 1, none⟩ = some (.int .i64 a0_1) ∧ w'.cell? ⟨gb318, 2, none⟩ = some (.slice A0_2 l0_2.length c0_2)) (ds := []) #[false, false, false, false, false] (by kernel_rfl) rfl rfl ⟨(blk_cell BK343.out 0).trans rfl, (blk_cell BK343.out 1).trans rfl, (blk_cell BK343.out 2).trans rfl, (blk_cell BK318.out 0).trans rfl, (blk_cell BK318.out 1).trans rfl, (blk_cell BK318.out 2).trans rfl⟩ (fun hHeld => ?_)
      generalize wc.drew = w65 at HO_338002 HO_338003 HO_338004 HO_344002 HO_357002 HO_357003 HO_357004 BK318 BK337 BK343 BK356 HB hHeld ⊢
      refine take_ (i := 0) (N := some 41) (v := ?_) (a' := ?_) #[true, false, false, false, false] rfl rfl (by kernel_rfl) (fun _ _ _ h => h) (Or.inl ⟨by rfl, ?_⟩) hHeld ?_ ?_
      rotate_left
      ·rintro w' ⟨s0, s1, s2, s3, s4, s5⟩
       go_simp
       with_reducible rfl
      rotate_left
      ·simp only [Act.put, List.setIfInBounds_toArray, List.set_cons_zero, List.set_cons_succ, i64_w, i32_w]
       rfl
      refine take_ (i := 1) (N := some 42) (v := ?_) (a' := ?_) #[true, true, false, false, false] rfl rfl (by kernel_rfl) (fun _ _ _ h => h) (Or.inl ⟨by rfl, ?_⟩) hHeld ?_ ?_
      rotate_left
      ·rintro w' ⟨s0, s1, s2, s3, s4, s5⟩
       go_simp
       with_reducible rfl
      rotate_left
      ·simp only [Act.put, List.setIfInBounds_toArray, List.set_cons_zero, List.set_cons_succ, i64_w, i32_w]
       rfl
      refine one_ (i := 2) (N := some 43) #[true, true, true, false, false] rfl rfl (by kernel_rfl) (by decide) (fun K hK => ?_)
      refine goes_ Try.func21 (by kernel_rfl) rfl #[.agg #[.int .i64 a0_0, .int .i64 a0_1, .slice A0_2 l0_2.length c0_2]] (by rfl) rfl rfl mq ?_
      with_reducible refine (laws_toBoard.calls kj10 a0_0 a0_1 _ _ l0_2 t358 t359 t360 _ ?s1 ?s2 A60.out).mono ?_
      (case s1 => exact cq (Kd.C_below HR0_2.out HB.out))
      (case s2 => exact HC0_2.out)
      rintro e w66 ⟨v361, rfl, ho0, hb⟩
      refine ⟨_, rfl, ?_⟩
      replace HO_338003 := rb HO_338003 hb
      replace HO_338004 := rb HO_338004 hb
      replace HO_357003 := rb HO_357003 hb
      replace HO_357004 := rb HO_357004 hb
      have HO362 := Aside0.mk (Kd.R_lower (Kd.R_new' (Kd.R_new' (Kd.R_new' ho0 (Kd.R_lt (rq HO_338002))) (Kd.R_lt (rq HO_344002))) (Kd.R_lt (rq HO_357002))) (below_size bq))
      replace HO_338002 := Aside0.mk (Kd.R_elder' (rq HO_338002) (Kd.R_base ho0) hb)
      replace HO_344002 := Aside0.mk (Kd.R_elder' (rq HO_344002) (Kd.R_base ho0) hb)
      replace HO_357002 := Aside0.mk (Kd.R_elder' (rq HO_357002) (Kd.R_base ho0) hb)
      replace BK318 := zb BK318 hb
      replace BK337 := zb BK337 hb
      replace BK343 := zb BK343 hb
      replace BK356 := zb BK356 hb
      replace HB := sb hb
      (try clear hb ho0)
      obtain ⟨Ao67, co67, eo67⟩ := Kd.R_slice HO362.out
      (first | subst eo67 | (injection eo67 with f1_ f2_ f3_; have f4_ := f1_.symm; have f5_ := f3_.symm; clear f1_ f2_ f3_; subst f4_; subst f5_))
      refine hK.out _ _ ⟨(blk_cell BK343.out 0).trans rfl, (blk_cell BK343.out 1).trans rfl, (blk_cell BK343.out 2).trans rfl, (blk_cell BK318.out 0).trans rfl, (blk_cell BK318.out 1).trans rfl, (blk_cell BK318.out 2).trans rfl⟩ (fun hHeld => ?_)
      clear hK K
      refine norm_ (a' := ?_) ?_ ?_
      rotate_left
      ·show Act.put _ (some 43) _ = _
       simp only [Act.put, List.setIfInBounds_toArray, List.set_cons_zero, List.set_cons_succ, i64_w, i32_w]
       rfl
      refine one_ (i := 3) (N := some 44) #[true, true, true, true, false] rfl rfl (by kernel_rfl) (by decide) (fun K hK => ?_)
      refine goes_ Try.func23 (by kernel_rfl) rfl #[.agg #[.int .i64 t338, .int .i64 t339, .slice Ao31 t340.length co31], .agg #[.int .i64 t358, .int .i64 t359, .slice Ao67 t360.length co67]] (by rfl) rfl rfl mq ?_
      with_reducible refine (laws_eqBoard.calls kj10 t338 t339 _ _ t340 t358 t359 _ _ t360 true _ ?s1 ?s2 ?s3 ?s4 A61.out).mono ?_
      (case s1 => exact cr HO_344002)
      (case s2 => exact r1 HO_344002)
      (case s3 => exact cr HO362)
      (case s4 => exact r1 HO362)
      rintro e w68 ⟨rfl, hb⟩
      refine ⟨_, rfl, ?_⟩
      replace HO_338002 := rb HO_338002 hb
      replace HO_338003 := rb HO_338003 hb
      replace HO_338004 := rb HO_338004 hb
      replace HO_344002 := rb HO_344002 hb
      replace HO_357002 := rb HO_357002 hb
      replace HO_357003 := rb HO_357003 hb
      replace HO_357004 := rb HO_357004 hb
      replace HO362 := rb HO362 hb
      replace BK318 := zb BK318 hb
      replace BK337 := zb BK337 hb
      replace BK343 := zb BK343 hb
      replace BK356 := zb BK356 hb
      replace HB := sb hb
      (try clear hb)
      refine hK.out _ _ ⟨(blk_cell BK343.out 0).trans rfl, (blk_cell BK343.out 1).trans rfl, (blk_cell BK343.out 2).trans rfl, (blk_cell BK318.out 0).trans rfl, (blk_cell BK318.out 1).trans rfl, (blk_cell BK318.out 2).trans rfl⟩ (fun hHeld => ?_)
      clear hK K
      refine norm_ (a' := ?_) ?_ ?_
      rotate_left
      ·show Act.put _ (some 44) _ = _
       simp only [Act.put, List.setIfInBounds_toArray, List.set_cons_zero, List.set_cons_succ, i64_w, i32_w]
       rfl
      refine pure_ (i := 4) (N := some 45) (v := ?_) (a' := ?_) #[true, true, true, true, true] rfl rfl (by kernel_rfl) (fun _ _ _ h => h) (Or.inl ⟨by rfl, ?_⟩) ?_ ?_
      rotate_left
      ·intro w'
       go_simp
       with_reducible rfl
      rotate_left
      ·simp only [Act.put, List.setIfInBounds_toArray, List.set_cons_zero, List.set_cons_succ, i64_w, i32_w]
       rfl
      refine done_ (by kernel_rfl) ?_
      have hnb69 := NB343_318.out
      have hnc69 := NB318_343.out
      have hnb70 := NB343_337.out
      have hnc70 := NB337_343.out
      have hnb71 := NB343_356.out
      have hnc71 := NB356_343.out
      have ⟨hcz72_0, hcz72_1, hcz72_2, hfz72_0, hfz72_1, hfz72_2⟩ := bc3 BK343
      go_upto_region 14 with (first | ((with_reducible refine gate_callee (f := 24) rfl ?_); refine goesQ (some 48) Try.func24 #[.agg #[.int .i64 t338, .int .i64 t339, .slice Ao31 t340.length co31], .int .i64 1] ?_; (with_reducible refine (laws_markBoard.calls kj10 t338 t339 (fun k_ => some k_ = (.slice Ao31 t340.length co31 : Value).ownBlock) (.slice Ao31 t340.length co31) t340 1 t364 t365 w _ ?s1 ?s2 A63.out).mono ?_); (case s1 => repeat (first | (with_reducible first | exact HB.out | apply below_alloc | apply pw_below_drewN | apply below_drew1 | refine below_set ?_ GE318.out | refine below_set ?_ GE337.out | refine below_set ?_ GE343.out | refine below_set ?_ GE356.out) | exact HB.out)); (case s2 => exact Kd.R_tight rfl HO_344002.out); rintro e w73 ⟨rfl, hy0, hb, hkp⟩; refine ⟨_, rfl, ?_⟩; replace HO_338002 := Aside0.mk (Kd.R_mono (ok' := fun k_ => some k_ ≠ (.slice Ao31 t340.length co31 : Value).ownBlock ∧ some k_ ≠ (.slice Ao38 t346.length co38 : Value).ownBlock ∧ some k_ ≠ (.slice Ao67 t360.length co67 : Value).ownBlock) (Kd.R_keptB (HO_338002.out) hkp (fun k_ hk_ hs_ => (hk_.1.1) hs_)) (fun k_ hk_ => ⟨hk_.1.1.1, hk_.1.1.2, hk_.1.2⟩)); replace HO_338003 := Aside0.mk (Kd.R_mono (ok' := fun k_ => some k_ ≠ (.slice Ao24 t333.length co24 : Value).ownBlock ∧ some k_ ≠ (.slice Ao39 t349.length co39 : Value).ownBlock ∧ some k_ ≠ (.slice Ao40 t352.length co40 : Value).ownBlock) (Kd.R_keptB ((Kd.R_apart' HO_338003.out (Kd.R_typed HO_344002.out) (by decide))) hkp (fun k_ hk_ hs_ => (hk_.2) hs_)) (fun k_ hk_ => ⟨hk_.1.1.1, hk_.1.1.2.1, hk_.1.1.2.2⟩)); replace HO_338004 := Aside0.mk (Kd.R_mono (ok' := fun k_ => some k_ ≠ (.slice Ao23 t330.length co23 : Value).ownBlock ∧ some k_ ≠ (.slice Ao39 t349.length co39 : Value).ownBlock ∧ some k_ ≠ (.slice Ao40 t352.length co40 : Value).ownBlock) (Kd.R_keptB ((Kd.R_apart' HO_338004.out (Kd.R_typed HO_344002.out) (by decide))) hkp (fun k_ hk_ hs_ => (hk_.2) hs_)) (fun k_ hk_ => ⟨hk_.1.1.1, hk_.1.1.2.1, hk_.1.1.2.2⟩)); replace HO_357002 := Aside0.mk (Kd.R_mono (ok' := fun k_ => some k_ ≠ (.slice Ao22 t327.length co22 : Value).ownBlock ∧ some k_ ≠ (.slice Ao31 t340.length co31 : Value).ownBlock ∧ some k_ ≠ (.slice Ao67 t360.length co67 : Value).ownBlock) (Kd.R_keptB (HO_357002.out) hkp (fun k_ hk_ hs_ => (hk_.1.2) hs_)) (fun k_ hk_ => ⟨hk_.1.1.1, hk_.1.1.2, hk_.1.2⟩)); replace HO_357003 := Aside0.mk (Kd.R_mono (ok' := fun k_ => some k_ ≠ (.slice Ao23 t330.length co23 : Value).ownBlock ∧ some k_ ≠ (.slice Ao24 t333.length co24 : Value).ownBlock ∧ some k_ ≠ (.slice Ao40 t352.length co40 : Value).ownBlock) (Kd.R_keptB ((Kd.R_apart' HO_357003.out (Kd.R_typed HO_344002.out) (by decide))) hkp (fun k_ hk_ hs_ => (hk_.2) hs_)) (fun k_ hk_ => ⟨hk_.1.1.1, hk_.1.1.2.1, hk_.1.1.2.2⟩)); replace HO_357004 := Aside0.mk (Kd.R_mono (ok' := fun k_ => some k_ ≠ (.slice Ao23 t330.length co23 : Value).ownBlock ∧ some k_ ≠ (.slice Ao24 t333.length co24 : Value).ownBlock ∧ some k_ ≠ (.slice Ao39 t349.length co39 : Value).ownBlock) (Kd.R_keptB ((Kd.R_apart' HO_357004.out (Kd.R_typed HO_344002.out) (by decide))) hkp (fun k_ hk_ hs_ => (hk_.2) hs_)) (fun k_ hk_ => ⟨hk_.1.1.1, hk_.1.1.2.1, hk_.1.1.2.2⟩)); replace BK318 := Aside0.mk (blk_kept (zq BK318) hkp (fun hs_ => (fun e_ => (Kd.R_ne HO_344002.out BK318.out (by decide)) e_) hs_)); replace BK337 := Aside0.mk (blk_kept (zq BK337) hkp (fun hs_ => (fun e_ => (Kd.R_ne HO_344002.out BK337.out (by decide)) e_) hs_)); replace BK343 := Aside0.mk (blk_kept (zq BK343) hkp (fun hs_ => (fun e_ => (Kd.R_ne HO_344002.out BK343.out (by decide)) e_) hs_)); replace BK356 := Aside0.mk (blk_kept (zq BK356) hkp (fun hs_ => (fun e_ => (Kd.R_ne HO_344002.out BK356.out (by decide)) e_) hs_)); replace HO_344002 := Aside0.mk (Kd.R_reok rfl hy0 (fun k_ e_ => HO_344002.out.1 k_ e_)); replace HO362 := Aside0.mk (Kd.R_mono (ok' := fun k_ => some k_ ≠ (.slice Ao22 t327.length co22 : Value).ownBlock ∧ some k_ ≠ (.slice Ao31 t340.length co31 : Value).ownBlock ∧ some k_ ≠ (.slice Ao38 t346.length co38 : Value).ownBlock) (Kd.R_keptB (HO362.out) hkp (fun k_ hk_ hs_ => (hk_.1.2) hs_)) (fun k_ hk_ => ⟨hk_.1.1.1.2, hk_.1.1.2, hk_.1.2⟩)); replace HB := Aside0.mk (hb); (try clear hb hkp hy0)))
      (try simp only [Act.put, List.setIfInBounds_toArray, List.set_cons_zero, List.set_cons_succ])
      go_cut [61] (fun v61 wc => ∃ (kq : Nat) (x61_63 : Bool), v61 = .bool x61_63 ∧ Aside0 (laws_FnExactNewSession.j1 kq t336 x61_63 a0_0 a0_1 l0_2 t325 t326 t327 t330 t333 t344 t345 t346 t349 t352 = some r) ∧ Aside0 (kq ≤ kj10) ∧ Aside0 (Kd.R k58 58 wc w.heap.size (fun k_ => some k_ ≠ ((.slice Ao31 t340.length co31) : Value).ownBlock ∧ some k_ ≠ ((.slice Ao38 t346.length co38) : Value).ownBlock) (.slice Ao22 t327.length co22) t327) ∧ Aside0 (Kd.R k60 60 wc w.heap.size (fun k_ => some k_ ≠ ((.slice Ao24 t333.length co24) : Value).ownBlock ∧ some k_ ≠ ((.slice Ao39 t349.length co39) : Value).ownBlock ∧ some k_ ≠ ((.slice Ao40 t352.length co40) : Value).ownBlock) (.slice Ao23 t330.length co23) t330) ∧ Aside0 (Kd.R k60 60 wc w.heap.size (fun k_ => some k_ ≠ ((.slice Ao23 t330.length co23) : Value).ownBlock ∧ some k_ ≠ ((.slice Ao39 t349.length co39) : Value).ownBlock ∧ some k_ ≠ ((.slice Ao40 t352.length co40) : Value).ownBlock) (.slice Ao24 t333.length co24) t333) ∧ Aside0 (Kd.R k58 58 wc w.heap.size (fun k_ => some k_ ≠ ((.slice Ao22 t327.length co22) : Value).ownBlock ∧ some k_ ≠ ((.slice Ao38 t346.length co38) : Value).ownBlock) (.slice Ao31 t340.length co31) t365) ∧ Aside0 (Kd.R k58 58 wc w.heap.size (fun k_ => some k_ ≠ ((.slice Ao22 t327.length co22) : Value).ownBlock ∧ some k_ ≠ ((.slice Ao31 t340.length co31) : Value).ownBlock) (.slice Ao38 t346.length co38) t346) ∧ Aside0 (Kd.R k60 60 wc w.heap.size (fun k_ => some k_ ≠ ((.slice Ao23 t330.length co23) : Value).ownBlock ∧ some k_ ≠ ((.slice Ao24 t333.length co24) : Value).ownBlock ∧ some k_ ≠ ((.slice Ao40 t352.length co40) : Value).ownBlock) (.slice Ao39 t349.length co39) t349) ∧ Aside0 (Kd.R k60 60 wc w.heap.size (fun k_ => some k_ ≠ ((.slice Ao23 t330.length co23) : Value).ownBlock ∧ some k_ ≠ ((.slice Ao24 t333.length co24) : Value).ownBlock ∧ some k_ ≠ ((.slice Ao39 t349.length co39) : Value).ownBlock) (.slice Ao40 t352.length co40) t352) ∧ Aside0 (wc.heap[gb318]? = some (.cells #[.int .i64 a0_0, .int .i64 a0_1, (.slice A0_2 l0_2.length c0_2)] 24 (0, 0))) ∧ Aside0 (wc.heap[gb337]? = some (.cells #[.int .i64 t325, .int .i64 t326, (.slice Ao22 t327.length co22), (.slice Ao23 t330.length co23), (.slice Ao24 t333.length co24)] 35 (0, 0))) ∧ Aside0 (wc.heap[gb343]? = some (.cells #[.int .i64 t338, .int .i64 t339, (.slice Ao31 t340.length co31)] 32 (0, 0))) ∧ Aside0 (wc.heap[gb356]? = some (.cells #[.int .i64 t344, .int .i64 t345, (.slice Ao38 t346.length co38), (.slice Ao39 t349.length co39), (.slice Ao40 t352.length co40)] 35 (0, 0))) ∧ Aside0 (Below w.heap.size w wc))
      case first =>
       have H := HC64.out
       clear HC64
       by_cases c74 : t364 < 0
       ·rw [if_pos c74] at H
        have c74b0 : decide (t364 < 0) = true := decide_eq_true c74
        clear c74
        (first | rw [c74b0] | (simp only [i64_w, i32_w]; rw [c74b0]) | skip)
        have H' := Aside0.mk H
        clear H
        go_wp2
        go_meet
        case rel => exact ⟨_, (true), sq, H', ⟨by have := HJ10.out; first | omega | exact Nat.le_refl _⟩, ⟨by (with_reducible repeat (first | apply Kd.R_alloc | apply Kd.R_drewN | apply Kd.R_drew)); exact Kd.R_mono HO_338002.out (fun _ hk => ⟨hk.1, hk.2.1⟩)⟩, ⟨rq HO_338003⟩, ⟨rq HO_338004⟩, ⟨by (with_reducible repeat (first | apply Kd.R_alloc | apply Kd.R_drewN | apply Kd.R_drew)); exact Kd.R_mono HO_344002.out (fun _ hk => ⟨hk.1.1, hk.1.2⟩)⟩, ⟨by (with_reducible repeat (first | apply Kd.R_alloc | apply Kd.R_drewN | apply Kd.R_drew)); exact Kd.R_mono HO_357002.out (fun _ hk => ⟨hk.1, hk.2.1⟩)⟩, ⟨rq HO_357003⟩, ⟨rq HO_357004⟩, ⟨zq BK318⟩, ⟨zq BK337⟩, ⟨zq BK343⟩, ⟨zq BK356⟩, ⟨bq⟩⟩
       ·rw [if_neg c74] at H
        have c74b0 : decide (t364 < 0) = false := decide_eq_false c74
        clear c74
        (first | rw [c74b0] | (simp only [i64_w, i32_w]; rw [c74b0]) | skip)
        obtain ⟨t366, A75, H⟩ := bindq H
        try dsimp only at H
        by_cases c76 : t366 = true
        ·subst c76
         rw [if_pos rfl] at H
         try dsimp only at H
         have H' := Aside0.mk H
         clear H
         have hnb77 := NB356_318.out
         have hnc77 := NB318_356.out
         have hnb78 := NB356_337.out
         have hnc78 := NB337_356.out
         have hnb79 := NB356_343.out
         have hnc79 := NB343_356.out
         have ⟨hcz80_0, hcz80_1, hcz80_2, hcz80_3, hcz80_4, hfz80_0, hfz80_1, hfz80_2, hfz80_3, hfz80_4⟩ := bc5 BK356
         have hnb81 := NB337_318.out
         have hnc81 := NB318_337.out
         have hnb82 := NB337_343.out
         have hnc82 := NB343_337.out
         have ⟨hcz83_0, hcz83_1, hcz83_2, hcz83_3, hcz83_4, hfz83_0, hfz83_1, hfz83_2, hfz83_3, hfz83_4⟩ := bc5 BK337
         go_wp2_with (first | (go_at_call 18; (with_reducible refine (laws_eqSession.calls kj10 t344 t345 _ _ t346 _ _ t349 _ _ t352 t325 t326 _ _ t327 _ _ t330 _ _ t333 true _ ?s1 ?s2 ?s3 ?s4 ?s5 ?s6 ?s7 ?s8 ?s9 ?s10 ?s11 ?s12 A75.out).mono ?_); (case s1 => exact cr HO_357002); (case s2 => exact r1 HO_357002); (case s3 => exact cr HO_357003); (case s4 => exact r1 HO_357003); (case s5 => exact cr HO_357004); (case s6 => exact r1 HO_357004); (case s7 => exact cr HO_338002); (case s8 => exact r1 HO_338002); (case s9 => exact cr HO_338003); (case s10 => exact r1 HO_338003); (case s11 => exact cr HO_338004); (case s12 => exact r1 HO_338004); rintro e w84 ⟨rfl, hb⟩; replace HO_338002 := rb HO_338002 hb; replace HO_338003 := rb HO_338003 hb; replace HO_338004 := rb HO_338004 hb; replace HO_344002 := rb HO_344002 hb; replace HO_357002 := rb HO_357002 hb; replace HO_357003 := rb HO_357003 hb; replace HO_357004 := rb HO_357004 hb; replace HO362 := rb HO362 hb; replace BK318 := zb BK318 hb; replace BK337 := zb BK337 hb; replace BK343 := zb BK343 hb; replace BK356 := zb BK356 hb; replace HB := sb hb; (try clear hb)))
         go_meet
         case rel => exact ⟨_, ((t355 != t336)), sq, H', ⟨by have := HJ10.out; first | omega | exact Nat.le_refl _⟩, ⟨by (with_reducible repeat (first | apply Kd.R_alloc | apply Kd.R_drewN | apply Kd.R_drew)); exact Kd.R_mono HO_338002.out (fun _ hk => ⟨hk.1, hk.2.1⟩)⟩, ⟨rq HO_338003⟩, ⟨rq HO_338004⟩, ⟨by (with_reducible repeat (first | apply Kd.R_alloc | apply Kd.R_drewN | apply Kd.R_drew)); exact Kd.R_mono HO_344002.out (fun _ hk => ⟨hk.1.1, hk.1.2⟩)⟩, ⟨by (with_reducible repeat (first | apply Kd.R_alloc | apply Kd.R_drewN | apply Kd.R_drew)); exact Kd.R_mono HO_357002.out (fun _ hk => ⟨hk.1, hk.2.1⟩)⟩, ⟨rq HO_357003⟩, ⟨rq HO_357004⟩, ⟨zq BK318⟩, ⟨zq BK337⟩, ⟨zq BK343⟩, ⟨zq BK356⟩, ⟨bq⟩⟩
        ·replace c76 := Bool.eq_false_iff.mpr c76
         subst c76
         rw [if_neg (show ¬ (false = true) by decide)] at H
         try dsimp only at H
         have H' := Aside0.mk H
         clear H
         have hnb85 := NB356_318.out
         have hnc85 := NB318_356.out
         have hnb86 := NB356_337.out
         have hnc86 := NB337_356.out
         have hnb87 := NB356_343.out
         have hnc87 := NB343_356.out
         have ⟨hcz88_0, hcz88_1, hcz88_2, hcz88_3, hcz88_4, hfz88_0, hfz88_1, hfz88_2, hfz88_3, hfz88_4⟩ := bc5 BK356
         have hnb89 := NB337_318.out
         have hnc89 := NB318_337.out
         have hnb90 := NB337_343.out
         have hnc90 := NB343_337.out
         have ⟨hcz91_0, hcz91_1, hcz91_2, hcz91_3, hcz91_4, hfz91_0, hfz91_1, hfz91_2, hfz91_3, hfz91_4⟩ := bc5 BK337
         go_wp2_with (first | (go_at_call 18; (with_reducible refine (laws_eqSession.calls kj10 t344 t345 _ _ t346 _ _ t349 _ _ t352 t325 t326 _ _ t327 _ _ t330 _ _ t333 false _ ?s1 ?s2 ?s3 ?s4 ?s5 ?s6 ?s7 ?s8 ?s9 ?s10 ?s11 ?s12 A75.out).mono ?_); (case s1 => exact cr HO_357002); (case s2 => exact r1 HO_357002); (case s3 => exact cr HO_357003); (case s4 => exact r1 HO_357003); (case s5 => exact cr HO_357004); (case s6 => exact r1 HO_357004); (case s7 => exact cr HO_338002); (case s8 => exact r1 HO_338002); (case s9 => exact cr HO_338003); (case s10 => exact r1 HO_338003); (case s11 => exact cr HO_338004); (case s12 => exact r1 HO_338004); rintro e w92 ⟨rfl, hb⟩; replace HO_338002 := rb HO_338002 hb; replace HO_338003 := rb HO_338003 hb; replace HO_338004 := rb HO_338004 hb; replace HO_344002 := rb HO_344002 hb; replace HO_357002 := rb HO_357002 hb; replace HO_357003 := rb HO_357003 hb; replace HO_357004 := rb HO_357004 hb; replace HO362 := rb HO362 hb; replace BK318 := zb BK318 hb; replace BK337 := zb BK337 hb; replace BK343 := zb BK343 hb; replace BK356 := zb BK356 hb; replace HB := sb hb; (try clear hb)))
         go_meet
         case rel => exact ⟨_, (true), sq, H', ⟨by have := HJ10.out; first | omega | exact Nat.le_refl _⟩, ⟨by (with_reducible repeat (first | apply Kd.R_alloc | apply Kd.R_drewN | apply Kd.R_drew)); exact Kd.R_mono HO_338002.out (fun _ hk => ⟨hk.1, hk.2.1⟩)⟩, ⟨rq HO_338003⟩, ⟨rq HO_338004⟩, ⟨by (with_reducible repeat (first | apply Kd.R_alloc | apply Kd.R_drewN | apply Kd.R_drew)); exact Kd.R_mono HO_344002.out (fun _ hk => ⟨hk.1.1, hk.1.2⟩)⟩, ⟨by (with_reducible repeat (first | apply Kd.R_alloc | apply Kd.R_drewN | apply Kd.R_drew)); exact Kd.R_mono HO_357002.out (fun _ hk => ⟨hk.1, hk.2.1⟩)⟩, ⟨rq HO_357003⟩, ⟨rq HO_357004⟩, ⟨zq BK318⟩, ⟨zq BK337⟩, ⟨zq BK343⟩, ⟨zq BK356⟩, ⟨bq⟩⟩
      case rest =>
       clear HC64
       try clear c1
       try clear c2
       try clear p2
       try clear c3
       try clear c3b0
       try clear c4
       try clear c5
       try clear c6
       try clear c7
       try clear c8
       try clear c9
       try clear c18
       try clear c19
       try clear c20
       try clear c21
       try clear c22
       try clear c23
       try clear c24
       try clear c28
       try clear c29
       try clear c34
       try clear c35
       try clear c36
       try clear c42
       try clear c43
       try clear c44
       try clear c45
       try clear c47
       try clear c48
       try clear c51
       try clear c52
       try clear c53
       try clear c55
       try clear c56
       try clear c59
       try clear c62
       try clear c69
       try clear c70
       try clear c71
       try clear c74
       try clear c74b0
       try clear c76
       try clear c77
       try clear c78
       try clear c79
       try clear c81
       try clear c82
       try clear c85
       try clear c86
       try clear c87
       try clear c89
       try clear c90
       try clear hcz13_0
       try clear hcz13_1
       try clear hcz13_2
       try clear hcz15_0
       try clear hcz15_1
       try clear hcz15_2
       try clear hcz21_0
       try clear hcz21_1
       try clear hcz21_2
       try clear hcz21_3
       try clear hcz21_4
       try clear hcz25_0
       try clear hcz25_1
       try clear hcz25_2
       try clear hcz30_0
       try clear hcz30_1
       try clear hcz30_2
       try clear hcz37_0
       try clear hcz37_1
       try clear hcz37_2
       try clear hcz37_3
       try clear hcz37_4
       try clear hcz46_0
       try clear hcz46_1
       try clear hcz46_2
       try clear hcz46_3
       try clear hcz46_4
       try clear hcz49_0
       try clear hcz49_1
       try clear hcz49_2
       try clear hcz49_3
       try clear hcz49_4
       try clear hcz54_0
       try clear hcz54_1
       try clear hcz54_2
       try clear hcz54_3
       try clear hcz54_4
       try clear hcz57_0
       try clear hcz57_1
       try clear hcz57_2
       try clear hcz57_3
       try clear hcz57_4
       try clear hcz5_0
       try clear hcz5_1
       try clear hcz5_2
       try clear hcz72_0
       try clear hcz72_1
       try clear hcz72_2
       try clear hcz80_0
       try clear hcz80_1
       try clear hcz80_2
       try clear hcz80_3
       try clear hcz80_4
       try clear hcz83_0
       try clear hcz83_1
       try clear hcz83_2
       try clear hcz83_3
       try clear hcz83_4
       try clear hcz88_0
       try clear hcz88_1
       try clear hcz88_2
       try clear hcz88_3
       try clear hcz88_4
       try clear hcz91_0
       try clear hcz91_1
       try clear hcz91_2
       try clear hcz91_3
       try clear hcz91_4
       try clear hfz13_0
       try clear hfz13_1
       try clear hfz13_2
       try clear hfz15_0
       try clear hfz15_1
       try clear hfz15_2
       try clear hfz21_0
       try clear hfz21_1
       try clear hfz21_2
       try clear hfz21_3
       try clear hfz21_4
       try clear hfz25_0
       try clear hfz25_1
       try clear hfz25_2
       try clear hfz30_0
       try clear hfz30_1
       try clear hfz30_2
       try clear hfz37_0
       try clear hfz37_1
       try clear hfz37_2
       try clear hfz37_3
       try clear hfz37_4
       try clear hfz46_0
       try clear hfz46_1
       try clear hfz46_2
       try clear hfz46_3
       try clear hfz46_4
       try clear hfz49_0
       try clear hfz49_1
       try clear hfz49_2
       try clear hfz49_3
       try clear hfz49_4
       try clear hfz54_0
       try clear hfz54_1
       try clear hfz54_2
       try clear hfz54_3
       try clear hfz54_4
       try clear hfz57_0
       try clear hfz57_1
       try clear hfz57_2
       try clear hfz57_3
       try clear hfz57_4
       try clear hfz5_0
       try clear hfz5_1
       try clear hfz5_2
       try clear hfz72_0
       try clear hfz72_1
       try clear hfz72_2
       try clear hfz80_0
       try clear hfz80_1
       try clear hfz80_2
       try clear hfz80_3
       try clear hfz80_4
       try clear hfz83_0
       try clear hfz83_1
       try clear hfz83_2
       try clear hfz83_3
       try clear hfz83_4
       try clear hfz88_0
       try clear hfz88_1
       try clear hfz88_2
       try clear hfz88_3
       try clear hfz88_4
       try clear hfz91_0
       try clear hfz91_1
       try clear hfz91_2
       try clear hfz91_3
       try clear hfz91_4
       try clear p2
       obtain ⟨kq, x61_63, rfl, HA, HJ63, HO_338002, HO_338003, HO_338004, HO_344002, HO_357002, HO_357003, HO_357004, BK318, BK337, BK343, BK356, HB⟩ := hcut
       have hl344002_63 := (Kd.R_reads' HO_344002.out).1
       rw [hl344002_63] at HO_344002
       (try simp only [hl344002_63])
       (try simp only [hl344002_63] at BK318)
       (try simp only [hl344002_63] at BK337)
       (try simp only [hl344002_63] at BK343)
       (try simp only [hl344002_63] at BK356)
       (try simp only [hl344002_63] at HO_338002)
       (try simp only [hl344002_63] at HO_338003)
       (try simp only [hl344002_63] at HO_338004)
       (try simp only [hl344002_63] at HO_357002)
       (try simp only [hl344002_63] at HO_357003)
       (try simp only [hl344002_63] at HO_357004)
       cases kq with
       | zero => exact absurd HA.out (by simp [laws_FnExactNewSession.j1])
       | succ kj63 =>
        have H := HA.out
        clear HA
        simp only [laws_FnExactNewSession.j1] at H
        by_cases c93 : x61_63 = true
        ·subst c93
         rw [if_pos rfl] at H
         try dsimp only at H
         obtain rfl := Option.some.inj H
         go_wp2
         go_ret
         exact ⟨eq_, bq⟩
        ·replace c93 := Bool.eq_false_iff.mpr c93
         subst c93
         rw [if_neg (show ¬ (false = true) by decide)] at H
         try dsimp only at H
         obtain ⟨⟨t367, t368, t369, t370⟩, A94, H⟩ := bindq H
         try dsimp only at H
         obtain ⟨t371, A95, H⟩ := bindq H
         try dsimp only at H
         by_cases c96 : t371 < 0
         ·rw [if_pos c96] at H
          have c96b0 : decide (t371 < 0) = true := decide_eq_true c96
          clear c96
          obtain rfl := Option.some.inj H
          have hnb97 := NB356_318.out
          have hnc97 := NB318_356.out
          have hnb98 := NB356_337.out
          have hnc98 := NB337_356.out
          have hnb99 := NB356_343.out
          have hnc99 := NB343_356.out
          have ⟨hcz100_0, hcz100_1, hcz100_2, hcz100_3, hcz100_4, hfz100_0, hfz100_1, hfz100_2, hfz100_3, hfz100_4⟩ := bc5 BK356
          go_wp2_with (first | ((with_reducible refine gate_callee (f := 25) rfl ?_); refine goesQ (some 64) Try.func25 #[.agg #[.int .i64 t344, .int .i64 t345, .slice Ao38 t346.length co38, .slice Ao39 t349.length co39, .slice Ao40 t352.length co40], .int .i64 1] ?_; (with_reducible refine (laws_markSession.calls kj63 t344 t345 (fun k_ => some k_ = (.slice Ao38 t346.length co38 : Value).ownBlock) (.slice Ao38 t346.length co38) t346 (fun k_ => some k_ = (.slice Ao39 t349.length co39 : Value).ownBlock) (.slice Ao39 t349.length co39) t349 (fun k_ => some k_ = (.slice Ao40 t352.length co40 : Value).ownBlock) (.slice Ao40 t352.length co40) t352 1 t367 t368 t369 t370 w _ ?s1 ?s2 ?s3 ?s4 ?s5 ?s6 A94.out).mono ?_); (case s1 => repeat (first | (with_reducible first | exact HB.out | apply below_alloc | apply pw_below_drewN | apply below_drew1 | refine below_set ?_ GE318.out | refine below_set ?_ GE337.out | refine below_set ?_ GE343.out | refine below_set ?_ GE356.out) | exact HB.out)); (case s2 => exact Kd.R_tight rfl HO_357002.out); (case s3 => exact Kd.R_tight rfl HO_357003.out); (case s4 => exact fun k_ e_ => (HO_357003.out.1 k_ e_.symm).2.2); (case s5 => exact Kd.R_tight rfl HO_357004.out); (case s6 => exact fun k_ e_ => (HO_357004.out.1 k_ e_.symm).2.2); rintro e w101 ⟨rfl, hy0, hy1, hy2, hb, hkp⟩; refine ⟨_, rfl, ?_⟩; replace HO_338002 := Aside0.mk (Kd.R_mono (ok' := fun k_ => some k_ ≠ (.slice Ao31 t365.length co31 : Value).ownBlock ∧ some k_ ≠ (.slice Ao38 t346.length co38 : Value).ownBlock) (Kd.R_keptB ((Kd.R_apart' (Kd.R_apart' HO_338002.out (Kd.R_typed HO_357003.out) (by decide)) (Kd.R_typed HO_357004.out) (by decide))) hkp (fun k_ hk_ hs_ => Or.elim hs_ (fun e_ => (hk_.1.1.2) e_) (fun e_ => Or.elim e_ (fun e_ => (hk_.1.2) e_) (fun e_ => (hk_.2) e_)))) (fun k_ hk_ => ⟨hk_.1.1.1.1, hk_.1.1.1.2⟩)); replace HO_338003 := Aside0.mk (Kd.R_mono (ok' := fun k_ => some k_ ≠ (.slice Ao24 t333.length co24 : Value).ownBlock ∧ some k_ ≠ (.slice Ao39 t349.length co39 : Value).ownBlock ∧ some k_ ≠ (.slice Ao40 t352.length co40 : Value).ownBlock) (Kd.R_keptB ((Kd.R_apart' HO_338003.out (Kd.R_typed HO_357002.out) (by decide))) hkp (fun k_ hk_ hs_ => Or.elim hs_ (fun e_ => (hk_.2) e_) (fun e_ => Or.elim e_ (fun e_ => (hk_.1.2.1) e_) (fun e_ => (hk_.1.2.2) e_)))) (fun k_ hk_ => ⟨hk_.1.1.1, hk_.1.1.2.1, hk_.1.1.2.2⟩)); replace HO_338004 := Aside0.mk (Kd.R_mono (ok' := fun k_ => some k_ ≠ (.slice Ao23 t330.length co23 : Value).ownBlock ∧ some k_ ≠ (.slice Ao39 t349.length co39 : Value).ownBlock ∧ some k_ ≠ (.slice Ao40 t352.length co40 : Value).ownBlock) (Kd.R_keptB ((Kd.R_apart' HO_338004.out (Kd.R_typed HO_357002.out) (by decide))) hkp (fun k_ hk_ hs_ => Or.elim hs_ (fun e_ => (hk_.2) e_) (fun e_ => Or.elim e_ (fun e_ => (hk_.1.2.1) e_) (fun e_ => (hk_.1.2.2) e_)))) (fun k_ hk_ => ⟨hk_.1.1.1, hk_.1.1.2.1, hk_.1.1.2.2⟩)); replace HO_344002 := Aside0.mk (Kd.R_mono (ok' := fun k_ => some k_ ≠ (.slice Ao22 t327.length co22 : Value).ownBlock ∧ some k_ ≠ (.slice Ao38 t346.length co38 : Value).ownBlock) (Kd.R_keptB ((Kd.R_apart' (Kd.R_apart' HO_344002.out (Kd.R_typed HO_357003.out) (by decide)) (Kd.R_typed HO_357004.out) (by decide))) hkp (fun k_ hk_ hs_ => Or.elim hs_ (fun e_ => (hk_.1.1.2) e_) (fun e_ => Or.elim e_ (fun e_ => (hk_.1.2) e_) (fun e_ => (hk_.2) e_)))) (fun k_ hk_ => ⟨hk_.1.1.1.1, hk_.1.1.1.2⟩)); replace BK318 := Aside0.mk (blk_kept (zq BK318) hkp (fun hs_ => Or.elim hs_ (fun e_ => (fun e_ => (Kd.R_ne HO_357002.out BK318.out (by decide)) e_) e_) (fun e_ => Or.elim e_ (fun e_ => (fun e_ => (Kd.R_ne HO_357003.out BK318.out (by decide)) e_) e_) (fun e_ => (fun e_ => (Kd.R_ne HO_357004.out BK318.out (by decide)) e_) e_)))); replace BK337 := Aside0.mk (blk_kept (zq BK337) hkp (fun hs_ => Or.elim hs_ (fun e_ => (fun e_ => (Kd.R_ne HO_357002.out BK337.out (by decide)) e_) e_) (fun e_ => Or.elim e_ (fun e_ => (fun e_ => (Kd.R_ne HO_357003.out BK337.out (by decide)) e_) e_) (fun e_ => (fun e_ => (Kd.R_ne HO_357004.out BK337.out (by decide)) e_) e_)))); replace BK343 := Aside0.mk (blk_kept (zq BK343) hkp (fun hs_ => Or.elim hs_ (fun e_ => (fun e_ => (Kd.R_ne HO_357002.out BK343.out (by decide)) e_) e_) (fun e_ => Or.elim e_ (fun e_ => (fun e_ => (Kd.R_ne HO_357003.out BK343.out (by decide)) e_) e_) (fun e_ => (fun e_ => (Kd.R_ne HO_357004.out BK343.out (by decide)) e_) e_)))); replace BK356 := Aside0.mk (blk_kept (zq BK356) hkp (fun hs_ => Or.elim hs_ (fun e_ => (fun e_ => (Kd.R_ne HO_357002.out BK356.out (by decide)) e_) e_) (fun e_ => Or.elim e_ (fun e_ => (fun e_ => (Kd.R_ne HO_357003.out BK356.out (by decide)) e_) e_) (fun e_ => (fun e_ => (Kd.R_ne HO_357004.out BK356.out (by decide)) e_) e_)))); replace HO_357002 := Aside0.mk (Kd.R_reok rfl hy0 (fun k_ e_ => HO_357002.out.1 k_ e_)); replace HO_357003 := Aside0.mk (Kd.R_reok rfl hy1 (fun k_ e_ => HO_357003.out.1 k_ e_)); replace HO_357004 := Aside0.mk (Kd.R_reok rfl hy2 (fun k_ e_ => HO_357004.out.1 k_ e_)); replace HB := Aside0.mk (hb); (try clear hb hkp hy0 hy1 hy2); have ⟨hcz102_0, hcz102_1, hcz102_2, hcz102_3, hcz102_4, hfz102_0, hfz102_1, hfz102_2, hfz102_3, hfz102_4⟩ := bc5 BK356) | ((with_reducible refine gate_callee (f := 26) rfl ?_); refine goesL_ (some 67) rfl rfl Try.func26 (by kernel_rfl) rfl #[.agg #[.int .i64 t344, .int .i64 t345, .slice Ao38 t368.length co38, .slice Ao39 t369.length co39, .slice Ao40 t370.length co40], .int .i64 1] rfl (by (try simp only [List.map_toArray, List.map_cons, List.map_nil]); first | done | (rw [show t368.length = t346.length from (Kd.R_reads' HO_357002.out).1.symm, show t369.length = t349.length from (Kd.R_reads' HO_357003.out).1.symm, show t370.length = t352.length from (Kd.R_reads' HO_357004.out).1.symm] <;> rfl) | rfl | (simp only [List.length_drop, List.length_take]; rfl)) ?_; (with_reducible refine (laws_heldSession.calls kj63 t344 t345 _ _ t368 _ _ t369 _ _ t370 1 t371 _ ?s1 ?s2 ?s3 ?s4 ?s5 ?s6 A95.out).mono ?_); (case s1 => exact cr HO_357002); (case s2 => rw [show t368.length = t346.length from (Kd.R_reads' HO_357002.out).1.symm]; exact r1 HO_357002); (case s3 => exact cr HO_357003); (case s4 => rw [show t369.length = t349.length from (Kd.R_reads' HO_357003.out).1.symm]; exact r1 HO_357003); (case s5 => exact cr HO_357004); (case s6 => rw [show t370.length = t352.length from (Kd.R_reads' HO_357004.out).1.symm]; exact r1 HO_357004); rintro e w103 ⟨rfl, hb⟩; refine ⟨_, rfl, ?_⟩; replace HO_338002 := rb HO_338002 hb; replace HO_338003 := rb HO_338003 hb; replace HO_338004 := rb HO_338004 hb; replace HO_344002 := rb HO_344002 hb; replace HO_357002 := rb HO_357002 hb; replace HO_357003 := rb HO_357003 hb; replace HO_357004 := rb HO_357004 hb; replace BK318 := zb BK318 hb; replace BK337 := zb BK337 hb; replace BK343 := zb BK343 hb; replace BK356 := zb BK356 hb; replace HB := sb hb; (try clear hb)))
          go_ret
          exact ⟨eq_, bq⟩
         ·rw [if_neg c96] at H
          have c96b0 : decide (t371 < 0) = false := decide_eq_false c96
          clear c96
          by_cases c104 : t371 = t367
          ·rw [if_pos c104] at H
           have c104b0 : (t371 == t367) = true := beq_iff_eq.mpr c104
           have c104b1 : (t371 != t367) = false := bne_eq_false_iff_eq.mpr c104
           clear c104
           obtain ⟨⟨t372, t373, t374⟩, A105, H⟩ := bindq H
           try dsimp only at H
           obtain ⟨⟨t377, t378, t379, t382, t385, t388⟩, A106, H⟩ := bindq H
           try dsimp only at H
           have HC107 := Aside0.mk H
           clear H
           have hnb108 := NB356_318.out
           have hnc108 := NB318_356.out
           have hnb109 := NB356_337.out
           have hnc109 := NB337_356.out
           have hnb110 := NB356_343.out
           have hnc110 := NB343_356.out
           have ⟨hcz111_0, hcz111_1, hcz111_2, hcz111_3, hcz111_4, hfz111_0, hfz111_1, hfz111_2, hfz111_3, hfz111_4⟩ := bc5 BK356
           go_upto_region 25 with (first | ((with_reducible refine gate_callee (f := 25) rfl ?_); refine goesQ (some 64) Try.func25 #[.agg #[.int .i64 t344, .int .i64 t345, .slice Ao38 t346.length co38, .slice Ao39 t349.length co39, .slice Ao40 t352.length co40], .int .i64 1] ?_; (with_reducible refine (laws_markSession.calls kj63 t344 t345 (fun k_ => some k_ = (.slice Ao38 t346.length co38 : Value).ownBlock) (.slice Ao38 t346.length co38) t346 (fun k_ => some k_ = (.slice Ao39 t349.length co39 : Value).ownBlock) (.slice Ao39 t349.length co39) t349 (fun k_ => some k_ = (.slice Ao40 t352.length co40 : Value).ownBlock) (.slice Ao40 t352.length co40) t352 1 t367 t368 t369 t370 w _ ?s1 ?s2 ?s3 ?s4 ?s5 ?s6 A94.out).mono ?_); (case s1 => repeat (first | (with_reducible first | exact HB.out | apply below_alloc | apply pw_below_drewN | apply below_drew1 | refine below_set ?_ GE318.out | refine below_set ?_ GE337.out | refine below_set ?_ GE343.out | refine below_set ?_ GE356.out) | exact HB.out)); (case s2 => exact Kd.R_tight rfl HO_357002.out); (case s3 => exact Kd.R_tight rfl HO_357003.out); (case s4 => exact fun k_ e_ => (HO_357003.out.1 k_ e_.symm).2.2); (case s5 => exact Kd.R_tight rfl HO_357004.out); (case s6 => exact fun k_ e_ => (HO_357004.out.1 k_ e_.symm).2.2); rintro e w112 ⟨rfl, hy0, hy1, hy2, hb, hkp⟩; refine ⟨_, rfl, ?_⟩; replace HO_338002 := Aside0.mk (Kd.R_mono (ok' := fun k_ => some k_ ≠ (.slice Ao31 t365.length co31 : Value).ownBlock ∧ some k_ ≠ (.slice Ao38 t346.length co38 : Value).ownBlock) (Kd.R_keptB ((Kd.R_apart' (Kd.R_apart' HO_338002.out (Kd.R_typed HO_357003.out) (by decide)) (Kd.R_typed HO_357004.out) (by decide))) hkp (fun k_ hk_ hs_ => Or.elim hs_ (fun e_ => (hk_.1.1.2) e_) (fun e_ => Or.elim e_ (fun e_ => (hk_.1.2) e_) (fun e_ => (hk_.2) e_)))) (fun k_ hk_ => ⟨hk_.1.1.1.1, hk_.1.1.1.2⟩)); replace HO_338003 := Aside0.mk (Kd.R_mono (ok' := fun k_ => some k_ ≠ (.slice Ao24 t333.length co24 : Value).ownBlock ∧ some k_ ≠ (.slice Ao39 t349.length co39 : Value).ownBlock ∧ some k_ ≠ (.slice Ao40 t352.length co40 : Value).ownBlock) (Kd.R_keptB ((Kd.R_apart' HO_338003.out (Kd.R_typed HO_357002.out) (by decide))) hkp (fun k_ hk_ hs_ => Or.elim hs_ (fun e_ => (hk_.2) e_) (fun e_ => Or.elim e_ (fun e_ => (hk_.1.2.1) e_) (fun e_ => (hk_.1.2.2) e_)))) (fun k_ hk_ => ⟨hk_.1.1.1, hk_.1.1.2.1, hk_.1.1.2.2⟩)); replace HO_338004 := Aside0.mk (Kd.R_mono (ok' := fun k_ => some k_ ≠ (.slice Ao23 t330.length co23 : Value).ownBlock ∧ some k_ ≠ (.slice Ao39 t349.length co39 : Value).ownBlock ∧ some k_ ≠ (.slice Ao40 t352.length co40 : Value).ownBlock) (Kd.R_keptB ((Kd.R_apart' HO_338004.out (Kd.R_typed HO_357002.out) (by decide))) hkp (fun k_ hk_ hs_ => Or.elim hs_ (fun e_ => (hk_.2) e_) (fun e_ => Or.elim e_ (fun e_ => (hk_.1.2.1) e_) (fun e_ => (hk_.1.2.2) e_)))) (fun k_ hk_ => ⟨hk_.1.1.1, hk_.1.1.2.1, hk_.1.1.2.2⟩)); replace HO_344002 := Aside0.mk (Kd.R_mono (ok' := fun k_ => some k_ ≠ (.slice Ao22 t327.length co22 : Value).ownBlock ∧ some k_ ≠ (.slice Ao38 t346.length co38 : Value).ownBlock) (Kd.R_keptB ((Kd.R_apart' (Kd.R_apart' HO_344002.out (Kd.R_typed HO_357003.out) (by decide)) (Kd.R_typed HO_357004.out) (by decide))) hkp (fun k_ hk_ hs_ => Or.elim hs_ (fun e_ => (hk_.1.1.2) e_) (fun e_ => Or.elim e_ (fun e_ => (hk_.1.2) e_) (fun e_ => (hk_.2) e_)))) (fun k_ hk_ => ⟨hk_.1.1.1.1, hk_.1.1.1.2⟩)); replace BK318 := Aside0.mk (blk_kept (zq BK318) hkp (fun hs_ => Or.elim hs_ (fun e_ => (fun e_ => (Kd.R_ne HO_357002.out BK318.out (by decide)) e_) e_) (fun e_ => Or.elim e_ (fun e_ => (fun e_ => (Kd.R_ne HO_357003.out BK318.out (by decide)) e_) e_) (fun e_ => (fun e_ => (Kd.R_ne HO_357004.out BK318.out (by decide)) e_) e_)))); replace BK337 := Aside0.mk (blk_kept (zq BK337) hkp (fun hs_ => Or.elim hs_ (fun e_ => (fun e_ => (Kd.R_ne HO_357002.out BK337.out (by decide)) e_) e_) (fun e_ => Or.elim e_ (fun e_ => (fun e_ => (Kd.R_ne HO_357003.out BK337.out (by decide)) e_) e_) (fun e_ => (fun e_ => (Kd.R_ne HO_357004.out BK337.out (by decide)) e_) e_)))); replace BK343 := Aside0.mk (blk_kept (zq BK343) hkp (fun hs_ => Or.elim hs_ (fun e_ => (fun e_ => (Kd.R_ne HO_357002.out BK343.out (by decide)) e_) e_) (fun e_ => Or.elim e_ (fun e_ => (fun e_ => (Kd.R_ne HO_357003.out BK343.out (by decide)) e_) e_) (fun e_ => (fun e_ => (Kd.R_ne HO_357004.out BK343.out (by decide)) e_) e_)))); replace BK356 := Aside0.mk (blk_kept (zq BK356) hkp (fun hs_ => Or.elim hs_ (fun e_ => (fun e_ => (Kd.R_ne HO_357002.out BK356.out (by decide)) e_) e_) (fun e_ => Or.elim e_ (fun e_ => (fun e_ => (Kd.R_ne HO_357003.out BK356.out (by decide)) e_) e_) (fun e_ => (fun e_ => (Kd.R_ne HO_357004.out BK356.out (by decide)) e_) e_)))); replace HO_357002 := Aside0.mk (Kd.R_reok rfl hy0 (fun k_ e_ => HO_357002.out.1 k_ e_)); replace HO_357003 := Aside0.mk (Kd.R_reok rfl hy1 (fun k_ e_ => HO_357003.out.1 k_ e_)); replace HO_357004 := Aside0.mk (Kd.R_reok rfl hy2 (fun k_ e_ => HO_357004.out.1 k_ e_)); replace HB := Aside0.mk (hb); (try clear hb hkp hy0 hy1 hy2); have ⟨hcz113_0, hcz113_1, hcz113_2, hcz113_3, hcz113_4, hfz113_0, hfz113_1, hfz113_2, hfz113_3, hfz113_4⟩ := bc5 BK356) | ((with_reducible refine gate_callee (f := 26) rfl ?_); refine goesL_ (some 67) rfl rfl Try.func26 (by kernel_rfl) rfl #[.agg #[.int .i64 t344, .int .i64 t345, .slice Ao38 t368.length co38, .slice Ao39 t369.length co39, .slice Ao40 t370.length co40], .int .i64 1] rfl (by (try simp only [List.map_toArray, List.map_cons, List.map_nil]); first | done | (rw [show t368.length = t346.length from (Kd.R_reads' HO_357002.out).1.symm, show t369.length = t349.length from (Kd.R_reads' HO_357003.out).1.symm, show t370.length = t352.length from (Kd.R_reads' HO_357004.out).1.symm] <;> rfl) | rfl | (simp only [List.length_drop, List.length_take]; rfl)) ?_; (with_reducible refine (laws_heldSession.calls kj63 t344 t345 _ _ t368 _ _ t369 _ _ t370 1 t371 _ ?s1 ?s2 ?s3 ?s4 ?s5 ?s6 A95.out).mono ?_); (case s1 => exact cr HO_357002); (case s2 => rw [show t368.length = t346.length from (Kd.R_reads' HO_357002.out).1.symm]; exact r1 HO_357002); (case s3 => exact cr HO_357003); (case s4 => rw [show t369.length = t349.length from (Kd.R_reads' HO_357003.out).1.symm]; exact r1 HO_357003); (case s5 => exact cr HO_357004); (case s6 => rw [show t370.length = t352.length from (Kd.R_reads' HO_357004.out).1.symm]; exact r1 HO_357004); rintro e w114 ⟨rfl, hb⟩; refine ⟨_, rfl, ?_⟩; replace HO_338002 := rb HO_338002 hb; replace HO_338003 := rb HO_338003 hb; replace HO_338004 := rb HO_338004 hb; replace HO_344002 := rb HO_344002 hb; replace HO_357002 := rb HO_357002 hb; replace HO_357003 := rb HO_357003 hb; replace HO_357004 := rb HO_357004 hb; replace BK318 := zb BK318 hb; replace BK337 := zb BK337 hb; replace BK343 := zb BK343 hb; replace BK356 := zb BK356 hb; replace HB := sb hb; (try clear hb); have hnb115 := NB318_337.out; have hnc115 := NB337_318.out; have hnb116 := NB318_343.out; have hnc116 := NB343_318.out; have ⟨hcz117_0, hcz117_1, hcz117_2, hfz117_0, hfz117_1, hfz117_2⟩ := bc3 BK318) | ((with_reducible refine gate_callee (f := 21) rfl ?_); refine goesQ (some 75) Try.func21 #[.agg #[.int .i64 a0_0, .int .i64 a0_1, .slice A0_2 l0_2.length c0_2]] ?_; (with_reducible refine (laws_toBoard.calls kj63 a0_0 a0_1 _ _ l0_2 t372 t373 t374 _ ?s1 ?s2 A105.out).mono ?_); (case s1 => exact cq (Kd.C_below HR0_2.out HB.out)); (case s2 => exact HC0_2.out); rintro e w118 ⟨v375, rfl, ho0, hb⟩; refine ⟨_, rfl, ?_⟩; replace HO_338003 := rb HO_338003 hb; replace HO_338004 := rb HO_338004 hb; replace HO_357003 := rb HO_357003 hb; replace HO_357004 := rb HO_357004 hb; have HO376 := Aside0.mk (Kd.R_lower (Kd.R_new' (Kd.R_new' (Kd.R_new' ho0 (Kd.R_lt (rq HO_338002))) (Kd.R_lt (rq HO_344002))) (Kd.R_lt (rq HO_357002))) (below_size bq)); replace HO_338002 := Aside0.mk (Kd.R_elder' (rq HO_338002) (Kd.R_base ho0) hb); replace HO_344002 := Aside0.mk (Kd.R_elder' (rq HO_344002) (Kd.R_base ho0) hb); replace HO_357002 := Aside0.mk (Kd.R_elder' (rq HO_357002) (Kd.R_base ho0) hb); replace BK318 := zb BK318 hb; replace BK337 := zb BK337 hb; replace BK343 := zb BK343 hb; replace BK356 := zb BK356 hb; replace HB := sb hb; (try clear hb ho0); obtain ⟨Ao119, co119, eo119⟩ := Kd.R_slice HO376.out; subst eo119) | ((with_reducible refine gate_callee (f := 22) rfl ?_); refine goesQ (some 76) Try.func22 #[.agg #[.int .i64 t372, .int .i64 t373, .slice Ao119 t374.length co119]] ?_; (with_reducible refine (impl_NewSession.calls kj63 t372 t373 _ _ t374 t377 t378 t379 t382 t385 t388 _ ?s1 ?s2 A106.out).mono ?_); (case s1 => exact cr HO376); (case s2 => exact r1 HO376); rintro e w120 ⟨v380, v383, v386, rfl, ho0, ho1, ho2, hb⟩; refine ⟨_, rfl, ?_⟩; have HO381 := Aside0.mk (Kd.R_lower (Kd.R_new' (Kd.R_new' (Kd.R_new' (Kd.R_new' ho0 (Kd.R_lt (rq HO_338002))) (Kd.R_lt (rq HO_344002))) (Kd.R_lt (rq HO_357002))) (Kd.R_lt (rq HO376))) (below_size bq)); replace HO_338002 := Aside0.mk (Kd.R_elder' (rq HO_338002) (Kd.R_base ho0) hb); replace HO_344002 := Aside0.mk (Kd.R_elder' (rq HO_344002) (Kd.R_base ho0) hb); replace HO_357002 := Aside0.mk (Kd.R_elder' (rq HO_357002) (Kd.R_base ho0) hb); have HO384 := Aside0.mk (Kd.R_lower (Kd.R_new' (Kd.R_new' (Kd.R_new' (Kd.R_new' ho1 (Kd.R_lt (rq HO_338003))) (Kd.R_lt (rq HO_338004))) (Kd.R_lt (rq HO_357003))) (Kd.R_lt (rq HO_357004))) (below_size bq)); have HO387 := Aside0.mk (Kd.R_lower (Kd.R_new' (Kd.R_new' (Kd.R_new' (Kd.R_new' ho2 (Kd.R_lt (rq HO_338003))) (Kd.R_lt (rq HO_338004))) (Kd.R_lt (rq HO_357003))) (Kd.R_lt (rq HO_357004))) (below_size bq)); replace HO_338003 := Aside0.mk (Kd.R_mono (Kd.R_told (Kd.R_told (Kd.R_old (rq HO_338003) hb) (Kd.R_base ho1)) (Kd.R_base ho2)) (fun _ h_ => h_.1)); replace HO_338004 := Aside0.mk (Kd.R_mono (Kd.R_told (Kd.R_told (Kd.R_old (rq HO_338004) hb) (Kd.R_base ho1)) (Kd.R_base ho2)) (fun _ h_ => h_.1)); replace HO_357003 := Aside0.mk (Kd.R_mono (Kd.R_told (Kd.R_told (Kd.R_old (rq HO_357003) hb) (Kd.R_base ho1)) (Kd.R_base ho2)) (fun _ h_ => h_.1)); replace HO_357004 := Aside0.mk (Kd.R_mono (Kd.R_told (Kd.R_told (Kd.R_old (rq HO_357004) hb) (Kd.R_base ho1)) (Kd.R_base ho2)) (fun _ h_ => h_.1)); replace BK318 := zb BK318 hb; replace BK337 := zb BK337 hb; replace BK343 := zb BK343 hb; replace BK356 := zb BK356 hb; replace HB := sb hb; (try clear hb ho0 ho1 ho2)) | ((with_reducible refine gate_dst (N := 12) rfl ?_); refine box_event ?hg (N := 12) ?hd (cs := #[.int .i64 0, .int .i64 0, .slice none 0 0, .slice none 0 0, .slice none 0 0]) (t := 35) ?hr ?_; (case hd => rfl); (case hg => rfl); (case hr => first | (go_simp; done) | (go_simp; rfl)); intro gb389 hg w121 hbox hb; replace HO_338002 := rb HO_338002 hb; replace HO_338003 := rb HO_338003 hb; replace HO_338004 := rb HO_338004 hb; replace HO_344002 := rb HO_344002 hb; replace HO_357002 := rb HO_357002 hb; replace HO_357003 := rb HO_357003 hb; replace HO_357004 := rb HO_357004 hb; replace HO381 := rb HO381 hb; replace HO384 := rb HO384 hb; replace HO387 := rb HO387 hb; have BK389 := Aside0.mk (hbox); have GE389 := Aside0.mk (gq hg); replace HB := sb hb; have NB318_389 := nl hg BK318; have NB389_318 := ng hg BK318; replace BK318 := zb BK318 hb; have NB337_389 := nl hg BK337; have NB389_337 := ng hg BK337; replace BK337 := zb BK337 hb; have NB343_389 := nl hg BK343; have NB389_343 := ng hg BK343; replace BK343 := zb BK343 hb; have NB356_389 := nl hg BK356; have NB389_356 := ng hg BK356; replace BK356 := zb BK356 hb; clear hb hbox hg; have hnb122 := NB389_318.out; have hnc122 := NB318_389.out; have hnb123 := NB389_337.out; have hnc123 := NB337_389.out; have hnb124 := NB389_343.out; have hnc124 := NB343_389.out; have hnb125 := NB389_356.out; have hnc125 := NB356_389.out; have ⟨hcz126_0, hcz126_1, hcz126_2, hcz126_3, hcz126_4, hfz126_0, hfz126_1, hfz126_2, hfz126_3, hfz126_4⟩ := bc5 BK389; obtain ⟨Ao127, co127, eo127⟩ := Kd.R_slice HO381.out; subst eo127; obtain ⟨Ao128, co128, eo128⟩ := Kd.R_slice HO384.out; subst eo128; obtain ⟨Ao129, co129, eo129⟩ := Kd.R_slice HO387.out; subst eo129))
           (try simp only [Act.put, List.setIfInBounds_toArray, List.set_cons_zero, List.set_cons_succ])
           go_cut [87] (fun v87 wc => ∃ (kq : Nat) (x87_106 : Bool), v87 = .bool x87_106 ∧ Aside0 (laws_FnExactNewSession.j2 kq t367 x87_106 t344 t345 t368 t369 t370 = some r) ∧ Aside0 (kq ≤ kj63) ∧ Aside0 (Kd.R k58 58 wc w.heap.size (fun k_ => some k_ ≠ ((.slice Ao31 t365.length co31) : Value).ownBlock ∧ some k_ ≠ ((.slice Ao38 t346.length co38) : Value).ownBlock ∧ some k_ ≠ ((.slice Ao127 t379.length co127) : Value).ownBlock) (.slice Ao22 t327.length co22) t327) ∧ Aside0 (Kd.R k60 60 wc w.heap.size (fun k_ => some k_ ≠ ((.slice Ao24 t333.length co24) : Value).ownBlock ∧ some k_ ≠ ((.slice Ao39 t349.length co39) : Value).ownBlock ∧ some k_ ≠ ((.slice Ao40 t352.length co40) : Value).ownBlock ∧ some k_ ≠ ((.slice Ao128 t382.length co128) : Value).ownBlock ∧ some k_ ≠ ((.slice Ao129 t385.length co129) : Value).ownBlock) (.slice Ao23 t330.length co23) t330) ∧ Aside0 (Kd.R k60 60 wc w.heap.size (fun k_ => some k_ ≠ ((.slice Ao23 t330.length co23) : Value).ownBlock ∧ some k_ ≠ ((.slice Ao39 t349.length co39) : Value).ownBlock ∧ some k_ ≠ ((.slice Ao40 t352.length co40) : Value).ownBlock ∧ some k_ ≠ ((.slice Ao128 t382.length co128) : Value).ownBlock ∧ some k_ ≠ ((.slice Ao129 t385.length co129) : Value).ownBlock) (.slice Ao24 t333.length co24) t333) ∧ Aside0 (Kd.R k58 58 wc w.heap.size (fun k_ => some k_ ≠ ((.slice Ao22 t327.length co22) : Value).ownBlock ∧ some k_ ≠ ((.slice Ao38 t346.length co38) : Value).ownBlock ∧ some k_ ≠ ((.slice Ao127 t379.length co127) : Value).ownBlock) (.slice Ao31 t365.length co31) t365) ∧ Aside0 (Kd.R k58 58 wc w.heap.size (fun k_ => some k_ ≠ ((.slice Ao22 t327.length co22) : Value).ownBlock ∧ some k_ ≠ ((.slice Ao31 t365.length co31) : Value).ownBlock ∧ some k_ ≠ ((.slice Ao127 t379.length co127) : Value).ownBlock) (.slice Ao38 t346.length co38) t368) ∧ Aside0 (Kd.R k60 60 wc w.heap.size (fun k_ => some k_ ≠ ((.slice Ao23 t330.length co23) : Value).ownBlock ∧ some k_ ≠ ((.slice Ao24 t333.length co24) : Value).ownBlock ∧ some k_ ≠ ((.slice Ao40 t352.length co40) : Value).ownBlock ∧ some k_ ≠ ((.slice Ao128 t382.length co128) : Value).ownBlock ∧ some k_ ≠ ((.slice Ao129 t385.length co129) : Value).ownBlock) (.slice Ao39 t349.length co39) t369) ∧ Aside0 (Kd.R k60 60 wc w.heap.size (fun k_ => some k_ ≠ ((.slice Ao23 t330.length co23) : Value).ownBlock ∧ some k_ ≠ ((.slice Ao24 t333.length co24) : Value).ownBlock ∧ some k_ ≠ ((.slice Ao39 t349.length co39) : Value).ownBlock ∧ some k_ ≠ ((.slice Ao128 t382.length co128) : Value).ownBlock ∧ some k_ ≠ ((.slice Ao129 t385.length co129) : Value).ownBlock) (.slice Ao40 t352.length co40) t370) ∧ Aside0 (Kd.R k58 58 wc w.heap.size (fun k_ => some k_ ≠ ((.slice Ao22 t327.length co22) : Value).ownBlock ∧ some k_ ≠ ((.slice Ao31 t365.length co31) : Value).ownBlock ∧ some k_ ≠ ((.slice Ao38 t346.length co38) : Value).ownBlock) (.slice Ao127 t379.length co127) t379) ∧ Aside0 (Kd.R k60 60 wc w.heap.size (fun k_ => some k_ ≠ ((.slice Ao23 t330.length co23) : Value).ownBlock ∧ some k_ ≠ ((.slice Ao24 t333.length co24) : Value).ownBlock ∧ some k_ ≠ ((.slice Ao39 t349.length co39) : Value).ownBlock ∧ some k_ ≠ ((.slice Ao40 t352.length co40) : Value).ownBlock ∧ some k_ ≠ ((.slice Ao129 t385.length co129) : Value).ownBlock) (.slice Ao128 t382.length co128) t382) ∧ Aside0 (Kd.R k60 60 wc w.heap.size (fun k_ => some k_ ≠ ((.slice Ao23 t330.length co23) : Value).ownBlock ∧ some k_ ≠ ((.slice Ao24 t333.length co24) : Value).ownBlock ∧ some k_ ≠ ((.slice Ao39 t349.length co39) : Value).ownBlock ∧ some k_ ≠ ((.slice Ao40 t352.length co40) : Value).ownBlock ∧ some k_ ≠ ((.slice Ao128 t382.length co128) : Value).ownBlock) (.slice Ao129 t385.length co129) t385) ∧ Aside0 (wc.heap[gb318]? = some (.cells #[.int .i64 a0_0, .int .i64 a0_1, (.slice A0_2 l0_2.length c0_2)] 24 (0, 0))) ∧ Aside0 (wc.heap[gb337]? = some (.cells #[.int .i64 t325, .int .i64 t326, (.slice Ao22 t327.length co22), (.slice Ao23 t330.length co23), (.slice Ao24 t333.length co24)] 35 (0, 0))) ∧ Aside0 (wc.heap[gb343]? = some (.cells #[.int .i64 t338, .int .i64 t339, (.slice Ao31 t365.length co31)] 32 (0, 0))) ∧ Aside0 (wc.heap[gb356]? = some (.cells #[.int .i64 t344, .int .i64 t345, (.slice Ao38 t346.length co38), (.slice Ao39 t349.length co39), (.slice Ao40 t352.length co40)] 35 (0, 0))) ∧ Aside0 (wc.heap[gb389]? = some (.cells #[.int .i64 t377, .int .i64 t378, (.slice Ao127 t379.length co127), (.slice Ao128 t382.length co128), (.slice Ao129 t385.length co129)] 35 (0, 0))) ∧ Aside0 (Below w.heap.size w wc))
           case first =>
            have H := HC107.out
            clear HC107
            obtain ⟨t390, A130, H⟩ := bindq H
            try dsimp only at H
            by_cases c131 : t390 = true
            ·subst c131
             rw [if_pos rfl] at H
             try dsimp only at H
             have H' := Aside0.mk H
             clear H
             have hnb132 := NB389_318.out
             have hnc132 := NB318_389.out
             have hnb133 := NB389_337.out
             have hnc133 := NB337_389.out
             have hnb134 := NB389_343.out
             have hnc134 := NB343_389.out
             have hnb135 := NB389_356.out
             have hnc135 := NB356_389.out
             have ⟨hcz136_0, hcz136_1, hcz136_2, hcz136_3, hcz136_4, hfz136_0, hfz136_1, hfz136_2, hfz136_3, hfz136_4⟩ := bc5 BK389
             have hnb137 := NB337_318.out
             have hnc137 := NB318_337.out
             have hnb138 := NB337_343.out
             have hnc138 := NB343_337.out
             have hnb139 := NB337_356.out
             have hnc139 := NB356_337.out
             have ⟨hcz140_0, hcz140_1, hcz140_2, hcz140_3, hcz140_4, hfz140_0, hfz140_1, hfz140_2, hfz140_3, hfz140_4⟩ := bc5 BK337
             go_wp2_with (first | ((with_reducible refine gate_callee (f := 18) rfl ?_); refine goesQ (some 81) Try.func18 #[.agg #[.int .i64 t377, .int .i64 t378, .slice Ao127 t379.length co127, .slice Ao128 t382.length co128, .slice Ao129 t385.length co129], .agg #[.int .i64 t325, .int .i64 t326, .slice Ao22 t327.length co22, .slice Ao23 t330.length co23, .slice Ao24 t333.length co24]] ?_; (with_reducible refine (laws_eqSession.calls kj63 t377 t378 _ _ t379 _ _ t382 _ _ t385 t325 t326 _ _ t327 _ _ t330 _ _ t333 true _ ?s1 ?s2 ?s3 ?s4 ?s5 ?s6 ?s7 ?s8 ?s9 ?s10 ?s11 ?s12 A130.out).mono ?_); (case s1 => refine (Kd.R_reads' (e := 58) (base := w.heap.size) (ok := fun k_ => ((((True ∧ some k_ ≠ (.slice Ao22 t327.length co22 : Value).ownBlock) ∧ some k_ ≠ (.slice Ao31 t365.length co31 : Value).ownBlock) ∧ some k_ ≠ (.slice Ao38 t346.length co38 : Value).ownBlock) ∧ some k_ ≠ (.slice Ao119 t374.length co119 : Value).ownBlock)) (n := t379.length) (c := co127) ?_).2.2; exact (by (with_reducible repeat (first | apply Kd.R_alloc | apply Kd.R_drewN | apply Kd.R_drew)); exact (Kd.R_mono (Kd.R_far (p := ⟨gb389, 4, none⟩) (Kd.R_far (p := ⟨gb389, 3, none⟩) (Kd.R_far (p := ⟨gb389, 2, none⟩) (Kd.R_far (p := ⟨gb389, 1, none⟩) (Kd.R_far (p := ⟨gb389, 0, none⟩) (Kd.R_types HO381.out BK389.out (by decide)) (fun _ hk => hk.2) (.int .i64 t377)) (fun _ hk => hk.2) (.int .i64 t378)) (fun _ hk => hk.2) (.slice Ao127 t379.length co127)) (fun _ hk => hk.2) (.slice Ao128 t382.length co128)) (fun _ hk => hk.2) (.slice Ao129 t385.length co129)) (fun _ h_ => h_.1)))); (case s2 => exact r1 HO381); (case s3 => refine (Kd.R_reads' (e := 60) (base := w.heap.size) (ok := fun k_ => ((((some k_ ≠ (.slice Ao129 t385.length co129 : Value).ownBlock ∧ some k_ ≠ (.slice Ao23 t330.length co23 : Value).ownBlock) ∧ some k_ ≠ (.slice Ao24 t333.length co24 : Value).ownBlock) ∧ some k_ ≠ (.slice Ao39 t349.length co39 : Value).ownBlock) ∧ some k_ ≠ (.slice Ao40 t352.length co40 : Value).ownBlock)) (n := t382.length) (c := co128) ?_).2.2; exact (by (with_reducible repeat (first | apply Kd.R_alloc | apply Kd.R_drewN | apply Kd.R_drew)); exact (Kd.R_mono (Kd.R_far (p := ⟨gb389, 4, none⟩) (Kd.R_far (p := ⟨gb389, 3, none⟩) (Kd.R_far (p := ⟨gb389, 2, none⟩) (Kd.R_far (p := ⟨gb389, 1, none⟩) (Kd.R_far (p := ⟨gb389, 0, none⟩) (Kd.R_types HO384.out BK389.out (by decide)) (fun _ hk => hk.2) (.int .i64 t377)) (fun _ hk => hk.2) (.int .i64 t378)) (fun _ hk => hk.2) (.slice Ao127 t379.length co127)) (fun _ hk => hk.2) (.slice Ao128 t382.length co128)) (fun _ hk => hk.2) (.slice Ao129 t385.length co129)) (fun _ h_ => h_.1)))); (case s4 => exact r1 HO384); (case s5 => refine (Kd.R_reads' (e := 60) (base := w.heap.size) (ok := fun k_ => ((((some k_ ≠ (.slice Ao128 t382.length co128 : Value).ownBlock ∧ some k_ ≠ (.slice Ao23 t330.length co23 : Value).ownBlock) ∧ some k_ ≠ (.slice Ao24 t333.length co24 : Value).ownBlock) ∧ some k_ ≠ (.slice Ao39 t349.length co39 : Value).ownBlock) ∧ some k_ ≠ (.slice Ao40 t352.length co40 : Value).ownBlock)) (n := t385.length) (c := co129) ?_).2.2; exact (by (with_reducible repeat (first | apply Kd.R_alloc | apply Kd.R_drewN | apply Kd.R_drew)); exact (Kd.R_mono (Kd.R_far (p := ⟨gb389, 4, none⟩) (Kd.R_far (p := ⟨gb389, 3, none⟩) (Kd.R_far (p := ⟨gb389, 2, none⟩) (Kd.R_far (p := ⟨gb389, 1, none⟩) (Kd.R_far (p := ⟨gb389, 0, none⟩) (Kd.R_types HO387.out BK389.out (by decide)) (fun _ hk => hk.2) (.int .i64 t377)) (fun _ hk => hk.2) (.int .i64 t378)) (fun _ hk => hk.2) (.slice Ao127 t379.length co127)) (fun _ hk => hk.2) (.slice Ao128 t382.length co128)) (fun _ hk => hk.2) (.slice Ao129 t385.length co129)) (fun _ h_ => h_.1)))); (case s6 => exact r1 HO387); (case s7 => refine (Kd.R_reads' (e := 58) (base := w.heap.size) (ok := fun k_ => (((some k_ ≠ (.slice Ao31 t365.length co31 : Value).ownBlock ∧ some k_ ≠ (.slice Ao38 t346.length co38 : Value).ownBlock) ∧ some k_ ≠ (.slice Ao119 t374.length co119 : Value).ownBlock) ∧ some k_ ≠ (.slice Ao127 t379.length co127 : Value).ownBlock)) (n := t327.length) (c := co22) ?_).2.2; exact (by (with_reducible repeat (first | apply Kd.R_alloc | apply Kd.R_drewN | apply Kd.R_drew)); exact (Kd.R_mono (Kd.R_far (p := ⟨gb389, 4, none⟩) (Kd.R_far (p := ⟨gb389, 3, none⟩) (Kd.R_far (p := ⟨gb389, 2, none⟩) (Kd.R_far (p := ⟨gb389, 1, none⟩) (Kd.R_far (p := ⟨gb389, 0, none⟩) (Kd.R_types HO_338002.out BK389.out (by decide)) (fun _ hk => hk.2) (.int .i64 t377)) (fun _ hk => hk.2) (.int .i64 t378)) (fun _ hk => hk.2) (.slice Ao127 t379.length co127)) (fun _ hk => hk.2) (.slice Ao128 t382.length co128)) (fun _ hk => hk.2) (.slice Ao129 t385.length co129)) (fun _ h_ => h_.1)))); (case s8 => exact r1 HO_338002); (case s9 => refine (Kd.R_reads' (e := 60) (base := w.heap.size) (ok := fun k_ => (((some k_ ≠ (.slice Ao24 t333.length co24 : Value).ownBlock ∧ (some k_ ≠ (.slice Ao39 t349.length co39 : Value).ownBlock ∧ some k_ ≠ (.slice Ao40 t352.length co40 : Value).ownBlock)) ∧ some k_ ≠ (.slice Ao128 t382.length co128 : Value).ownBlock) ∧ some k_ ≠ (.slice Ao129 t385.length co129 : Value).ownBlock)) (n := t330.length) (c := co23) ?_).2.2; exact (by (with_reducible repeat (first | apply Kd.R_alloc | apply Kd.R_drewN | apply Kd.R_drew)); exact (Kd.R_mono (Kd.R_far (p := ⟨gb389, 4, none⟩) (Kd.R_far (p := ⟨gb389, 3, none⟩) (Kd.R_far (p := ⟨gb389, 2, none⟩) (Kd.R_far (p := ⟨gb389, 1, none⟩) (Kd.R_far (p := ⟨gb389, 0, none⟩) (Kd.R_types HO_338003.out BK389.out (by decide)) (fun _ hk => hk.2) (.int .i64 t377)) (fun _ hk => hk.2) (.int .i64 t378)) (fun _ hk => hk.2) (.slice Ao127 t379.length co127)) (fun _ hk => hk.2) (.slice Ao128 t382.length co128)) (fun _ hk => hk.2) (.slice Ao129 t385.length co129)) (fun _ h_ => h_.1)))); (case s10 => exact r1 HO_338003); (case s11 => refine (Kd.R_reads' (e := 60) (base := w.heap.size) (ok := fun k_ => (((some k_ ≠ (.slice Ao23 t330.length co23 : Value).ownBlock ∧ (some k_ ≠ (.slice Ao39 t349.length co39 : Value).ownBlock ∧ some k_ ≠ (.slice Ao40 t352.length co40 : Value).ownBlock)) ∧ some k_ ≠ (.slice Ao128 t382.length co128 : Value).ownBlock) ∧ some k_ ≠ (.slice Ao129 t385.length co129 : Value).ownBlock)) (n := t333.length) (c := co24) ?_).2.2; exact (by (with_reducible repeat (first | apply Kd.R_alloc | apply Kd.R_drewN | apply Kd.R_drew)); exact (Kd.R_mono (Kd.R_far (p := ⟨gb389, 4, none⟩) (Kd.R_far (p := ⟨gb389, 3, none⟩) (Kd.R_far (p := ⟨gb389, 2, none⟩) (Kd.R_far (p := ⟨gb389, 1, none⟩) (Kd.R_far (p := ⟨gb389, 0, none⟩) (Kd.R_types HO_338004.out BK389.out (by decide)) (fun _ hk => hk.2) (.int .i64 t377)) (fun _ hk => hk.2) (.int .i64 t378)) (fun _ hk => hk.2) (.slice Ao127 t379.length co127)) (fun _ hk => hk.2) (.slice Ao128 t382.length co128)) (fun _ hk => hk.2) (.slice Ao129 t385.length co129)) (fun _ h_ => h_.1)))); (case s12 => exact r1 HO_338004); rintro e w141 ⟨rfl, hb⟩; refine ⟨_, rfl, ?_⟩; replace HO_338002 := Aside0.mk (Kd.R_below (by (with_reducible repeat (first | apply Kd.R_alloc | apply Kd.R_drewN | apply Kd.R_drew)); exact (Kd.R_mono (Kd.R_far (p := ⟨gb389, 4, none⟩) (Kd.R_far (p := ⟨gb389, 3, none⟩) (Kd.R_far (p := ⟨gb389, 2, none⟩) (Kd.R_far (p := ⟨gb389, 1, none⟩) (Kd.R_far (p := ⟨gb389, 0, none⟩) (Kd.R_types HO_338002.out BK389.out (by decide)) (fun _ hk => hk.2) (.int .i64 t377)) (fun _ hk => hk.2) (.int .i64 t378)) (fun _ hk => hk.2) (.slice Ao127 t379.length co127)) (fun _ hk => hk.2) (.slice Ao128 t382.length co128)) (fun _ hk => hk.2) (.slice Ao129 t385.length co129)) (fun _ h_ => h_.1))) hb); replace HO_338003 := Aside0.mk (Kd.R_below (by (with_reducible repeat (first | apply Kd.R_alloc | apply Kd.R_drewN | apply Kd.R_drew)); exact (Kd.R_mono (Kd.R_far (p := ⟨gb389, 4, none⟩) (Kd.R_far (p := ⟨gb389, 3, none⟩) (Kd.R_far (p := ⟨gb389, 2, none⟩) (Kd.R_far (p := ⟨gb389, 1, none⟩) (Kd.R_far (p := ⟨gb389, 0, none⟩) (Kd.R_types HO_338003.out BK389.out (by decide)) (fun _ hk => hk.2) (.int .i64 t377)) (fun _ hk => hk.2) (.int .i64 t378)) (fun _ hk => hk.2) (.slice Ao127 t379.length co127)) (fun _ hk => hk.2) (.slice Ao128 t382.length co128)) (fun _ hk => hk.2) (.slice Ao129 t385.length co129)) (fun _ h_ => h_.1))) hb); replace HO_338004 := Aside0.mk (Kd.R_below (by (with_reducible repeat (first | apply Kd.R_alloc | apply Kd.R_drewN | apply Kd.R_drew)); exact (Kd.R_mono (Kd.R_far (p := ⟨gb389, 4, none⟩) (Kd.R_far (p := ⟨gb389, 3, none⟩) (Kd.R_far (p := ⟨gb389, 2, none⟩) (Kd.R_far (p := ⟨gb389, 1, none⟩) (Kd.R_far (p := ⟨gb389, 0, none⟩) (Kd.R_types HO_338004.out BK389.out (by decide)) (fun _ hk => hk.2) (.int .i64 t377)) (fun _ hk => hk.2) (.int .i64 t378)) (fun _ hk => hk.2) (.slice Ao127 t379.length co127)) (fun _ hk => hk.2) (.slice Ao128 t382.length co128)) (fun _ hk => hk.2) (.slice Ao129 t385.length co129)) (fun _ h_ => h_.1))) hb); replace HO_344002 := Aside0.mk (Kd.R_below (by (with_reducible repeat (first | apply Kd.R_alloc | apply Kd.R_drewN | apply Kd.R_drew)); exact (Kd.R_mono (Kd.R_far (p := ⟨gb389, 4, none⟩) (Kd.R_far (p := ⟨gb389, 3, none⟩) (Kd.R_far (p := ⟨gb389, 2, none⟩) (Kd.R_far (p := ⟨gb389, 1, none⟩) (Kd.R_far (p := ⟨gb389, 0, none⟩) (Kd.R_types HO_344002.out BK389.out (by decide)) (fun _ hk => hk.2) (.int .i64 t377)) (fun _ hk => hk.2) (.int .i64 t378)) (fun _ hk => hk.2) (.slice Ao127 t379.length co127)) (fun _ hk => hk.2) (.slice Ao128 t382.length co128)) (fun _ hk => hk.2) (.slice Ao129 t385.length co129)) (fun _ h_ => h_.1))) hb); replace HO_357002 := Aside0.mk (Kd.R_below (by (with_reducible repeat (first | apply Kd.R_alloc | apply Kd.R_drewN | apply Kd.R_drew)); exact (Kd.R_mono (Kd.R_far (p := ⟨gb389, 4, none⟩) (Kd.R_far (p := ⟨gb389, 3, none⟩) (Kd.R_far (p := ⟨gb389, 2, none⟩) (Kd.R_far (p := ⟨gb389, 1, none⟩) (Kd.R_far (p := ⟨gb389, 0, none⟩) (Kd.R_types HO_357002.out BK389.out (by decide)) (fun _ hk => hk.2) (.int .i64 t377)) (fun _ hk => hk.2) (.int .i64 t378)) (fun _ hk => hk.2) (.slice Ao127 t379.length co127)) (fun _ hk => hk.2) (.slice Ao128 t382.length co128)) (fun _ hk => hk.2) (.slice Ao129 t385.length co129)) (fun _ h_ => h_.1))) hb); replace HO_357003 := Aside0.mk (Kd.R_below (by (with_reducible repeat (first | apply Kd.R_alloc | apply Kd.R_drewN | apply Kd.R_drew)); exact (Kd.R_mono (Kd.R_far (p := ⟨gb389, 4, none⟩) (Kd.R_far (p := ⟨gb389, 3, none⟩) (Kd.R_far (p := ⟨gb389, 2, none⟩) (Kd.R_far (p := ⟨gb389, 1, none⟩) (Kd.R_far (p := ⟨gb389, 0, none⟩) (Kd.R_types HO_357003.out BK389.out (by decide)) (fun _ hk => hk.2) (.int .i64 t377)) (fun _ hk => hk.2) (.int .i64 t378)) (fun _ hk => hk.2) (.slice Ao127 t379.length co127)) (fun _ hk => hk.2) (.slice Ao128 t382.length co128)) (fun _ hk => hk.2) (.slice Ao129 t385.length co129)) (fun _ h_ => h_.1))) hb); replace HO_357004 := Aside0.mk (Kd.R_below (by (with_reducible repeat (first | apply Kd.R_alloc | apply Kd.R_drewN | apply Kd.R_drew)); exact (Kd.R_mono (Kd.R_far (p := ⟨gb389, 4, none⟩) (Kd.R_far (p := ⟨gb389, 3, none⟩) (Kd.R_far (p := ⟨gb389, 2, none⟩) (Kd.R_far (p := ⟨gb389, 1, none⟩) (Kd.R_far (p := ⟨gb389, 0, none⟩) (Kd.R_types HO_357004.out BK389.out (by decide)) (fun _ hk => hk.2) (.int .i64 t377)) (fun _ hk => hk.2) (.int .i64 t378)) (fun _ hk => hk.2) (.slice Ao127 t379.length co127)) (fun _ hk => hk.2) (.slice Ao128 t382.length co128)) (fun _ hk => hk.2) (.slice Ao129 t385.length co129)) (fun _ h_ => h_.1))) hb); replace HO381 := Aside0.mk (Kd.R_below (by (with_reducible repeat (first | apply Kd.R_alloc | apply Kd.R_drewN | apply Kd.R_drew)); exact (Kd.R_mono (Kd.R_far (p := ⟨gb389, 4, none⟩) (Kd.R_far (p := ⟨gb389, 3, none⟩) (Kd.R_far (p := ⟨gb389, 2, none⟩) (Kd.R_far (p := ⟨gb389, 1, none⟩) (Kd.R_far (p := ⟨gb389, 0, none⟩) (Kd.R_types HO381.out BK389.out (by decide)) (fun _ hk => hk.2) (.int .i64 t377)) (fun _ hk => hk.2) (.int .i64 t378)) (fun _ hk => hk.2) (.slice Ao127 t379.length co127)) (fun _ hk => hk.2) (.slice Ao128 t382.length co128)) (fun _ hk => hk.2) (.slice Ao129 t385.length co129)) (fun _ h_ => h_.1))) hb); replace HO384 := Aside0.mk (Kd.R_below (by (with_reducible repeat (first | apply Kd.R_alloc | apply Kd.R_drewN | apply Kd.R_drew)); exact (Kd.R_mono (Kd.R_far (p := ⟨gb389, 4, none⟩) (Kd.R_far (p := ⟨gb389, 3, none⟩) (Kd.R_far (p := ⟨gb389, 2, none⟩) (Kd.R_far (p := ⟨gb389, 1, none⟩) (Kd.R_far (p := ⟨gb389, 0, none⟩) (Kd.R_types HO384.out BK389.out (by decide)) (fun _ hk => hk.2) (.int .i64 t377)) (fun _ hk => hk.2) (.int .i64 t378)) (fun _ hk => hk.2) (.slice Ao127 t379.length co127)) (fun _ hk => hk.2) (.slice Ao128 t382.length co128)) (fun _ hk => hk.2) (.slice Ao129 t385.length co129)) (fun _ h_ => h_.1))) hb); replace HO387 := Aside0.mk (Kd.R_below (by (with_reducible repeat (first | apply Kd.R_alloc | apply Kd.R_drewN | apply Kd.R_drew)); exact (Kd.R_mono (Kd.R_far (p := ⟨gb389, 4, none⟩) (Kd.R_far (p := ⟨gb389, 3, none⟩) (Kd.R_far (p := ⟨gb389, 2, none⟩) (Kd.R_far (p := ⟨gb389, 1, none⟩) (Kd.R_far (p := ⟨gb389, 0, none⟩) (Kd.R_types HO387.out BK389.out (by decide)) (fun _ hk => hk.2) (.int .i64 t377)) (fun _ hk => hk.2) (.int .i64 t378)) (fun _ hk => hk.2) (.slice Ao127 t379.length co127)) (fun _ hk => hk.2) (.slice Ao128 t382.length co128)) (fun _ hk => hk.2) (.slice Ao129 t385.length co129)) (fun _ h_ => h_.1))) hb); replace BK318 := Aside0.mk (blk_below (g := gb318) (o := .cells #[.int .i64 a0_0, .int .i64 a0_1, .slice A0_2 l0_2.length c0_2] 24 (0, 0)) (by (with_reducible repeat (first | refine blk_drewN ?_ _ | refine blk_drew ?_ | refine blk_alloc ?_ _)); refine blk_far ?_ NB318_389.out _; (with_reducible repeat (first | refine blk_drewN ?_ _ | refine blk_drew ?_ | refine blk_alloc ?_ _)); refine blk_far ?_ NB318_389.out _; (with_reducible repeat (first | refine blk_drewN ?_ _ | refine blk_drew ?_ | refine blk_alloc ?_ _)); refine blk_far ?_ NB318_389.out _; (with_reducible repeat (first | refine blk_drewN ?_ _ | refine blk_drew ?_ | refine blk_alloc ?_ _)); refine blk_far ?_ NB318_389.out _; (with_reducible repeat (first | refine blk_drewN ?_ _ | refine blk_drew ?_ | refine blk_alloc ?_ _)); refine blk_far ?_ NB318_389.out _; (with_reducible repeat (first | refine blk_drewN ?_ _ | refine blk_drew ?_ | refine blk_alloc ?_ _)); exact BK318.out) hb); replace BK337 := Aside0.mk (blk_below (g := gb337) (o := .cells #[.int .i64 t325, .int .i64 t326, .slice Ao22 t327.length co22, .slice Ao23 t330.length co23, .slice Ao24 t333.length co24] 35 (0, 0)) (by (with_reducible repeat (first | refine blk_drewN ?_ _ | refine blk_drew ?_ | refine blk_alloc ?_ _)); refine blk_far ?_ NB337_389.out _; (with_reducible repeat (first | refine blk_drewN ?_ _ | refine blk_drew ?_ | refine blk_alloc ?_ _)); refine blk_far ?_ NB337_389.out _; (with_reducible repeat (first | refine blk_drewN ?_ _ | refine blk_drew ?_ | refine blk_alloc ?_ _)); refine blk_far ?_ NB337_389.out _; (with_reducible repeat (first | refine blk_drewN ?_ _ | refine blk_drew ?_ | refine blk_alloc ?_ _)); refine blk_far ?_ NB337_389.out _; (with_reducible repeat (first | refine blk_drewN ?_ _ | refine blk_drew ?_ | refine blk_alloc ?_ _)); refine blk_far ?_ NB337_389.out _; (with_reducible repeat (first | refine blk_drewN ?_ _ | refine blk_drew ?_ | refine blk_alloc ?_ _)); exact BK337.out) hb); replace BK343 := Aside0.mk (blk_below (g := gb343) (o := .cells #[.int .i64 t338, .int .i64 t339, .slice Ao31 t365.length co31] 32 (0, 0)) (by (with_reducible repeat (first | refine blk_drewN ?_ _ | refine blk_drew ?_ | refine blk_alloc ?_ _)); refine blk_far ?_ NB343_389.out _; (with_reducible repeat (first | refine blk_drewN ?_ _ | refine blk_drew ?_ | refine blk_alloc ?_ _)); refine blk_far ?_ NB343_389.out _; (with_reducible repeat (first | refine blk_drewN ?_ _ | refine blk_drew ?_ | refine blk_alloc ?_ _)); refine blk_far ?_ NB343_389.out _; (with_reducible repeat (first | refine blk_drewN ?_ _ | refine blk_drew ?_ | refine blk_alloc ?_ _)); refine blk_far ?_ NB343_389.out _; (with_reducible repeat (first | refine blk_drewN ?_ _ | refine blk_drew ?_ | refine blk_alloc ?_ _)); refine blk_far ?_ NB343_389.out _; (with_reducible repeat (first | refine blk_drewN ?_ _ | refine blk_drew ?_ | refine blk_alloc ?_ _)); exact BK343.out) hb); replace BK356 := Aside0.mk (blk_below (g := gb356) (o := .cells #[.int .i64 t344, .int .i64 t345, .slice Ao38 t346.length co38, .slice Ao39 t349.length co39, .slice Ao40 t352.length co40] 35 (0, 0)) (by (with_reducible repeat (first | refine blk_drewN ?_ _ | refine blk_drew ?_ | refine blk_alloc ?_ _)); refine blk_far ?_ NB356_389.out _; (with_reducible repeat (first | refine blk_drewN ?_ _ | refine blk_drew ?_ | refine blk_alloc ?_ _)); refine blk_far ?_ NB356_389.out _; (with_reducible repeat (first | refine blk_drewN ?_ _ | refine blk_drew ?_ | refine blk_alloc ?_ _)); refine blk_far ?_ NB356_389.out _; (with_reducible repeat (first | refine blk_drewN ?_ _ | refine blk_drew ?_ | refine blk_alloc ?_ _)); refine blk_far ?_ NB356_389.out _; (with_reducible repeat (first | refine blk_drewN ?_ _ | refine blk_drew ?_ | refine blk_alloc ?_ _)); refine blk_far ?_ NB356_389.out _; (with_reducible repeat (first | refine blk_drewN ?_ _ | refine blk_drew ?_ | refine blk_alloc ?_ _)); exact BK356.out) hb); replace BK389 := Aside0.mk (blk_below (g := gb389) (o := .cells #[.int .i64 t377, .int .i64 t378, .slice Ao127 t379.length co127, .slice Ao128 t382.length co128, .slice Ao129 t385.length co129] 35 (0, 0)) (by (with_reducible repeat (first | refine blk_drewN ?_ _ | refine blk_drew ?_ | refine blk_alloc ?_ _)); refine blk_put (cs := #[.int .i64 t377, .int .i64 t378, .slice Ao127 t379.length co127, .slice Ao128 t382.length co128, .slice none 0 0]) ?_ 4 _ rfl; (with_reducible repeat (first | refine blk_drewN ?_ _ | refine blk_drew ?_ | refine blk_alloc ?_ _)); refine blk_put (cs := #[.int .i64 t377, .int .i64 t378, .slice Ao127 t379.length co127, .slice none 0 0, .slice none 0 0]) ?_ 3 _ rfl; (with_reducible repeat (first | refine blk_drewN ?_ _ | refine blk_drew ?_ | refine blk_alloc ?_ _)); refine blk_put (cs := #[.int .i64 t377, .int .i64 t378, .slice none 0 0, .slice none 0 0, .slice none 0 0]) ?_ 2 _ rfl; (with_reducible repeat (first | refine blk_drewN ?_ _ | refine blk_drew ?_ | refine blk_alloc ?_ _)); refine blk_put (cs := #[.int .i64 t377, .int .i64 0, .slice none 0 0, .slice none 0 0, .slice none 0 0]) ?_ 1 _ rfl; (with_reducible repeat (first | refine blk_drewN ?_ _ | refine blk_drew ?_ | refine blk_alloc ?_ _)); refine blk_put (cs := #[.int .i64 0, .int .i64 0, .slice none 0 0, .slice none 0 0, .slice none 0 0]) ?_ 0 _ rfl; (with_reducible repeat (first | refine blk_drewN ?_ _ | refine blk_drew ?_ | refine blk_alloc ?_ _)); exact BK389.out) hb); replace HB := sb hb; (try clear hb hb2 hk hi)))
             go_meet
             case rel => exact ⟨_, ((t388 != t336)), sq, H', ⟨by have := HJ10.out; have := HJ63.out; first | omega | exact Nat.le_refl _⟩, ⟨by (try simp only [hl344002_63]); (with_reducible repeat (first | apply Kd.R_alloc | apply Kd.R_drewN | apply Kd.R_drew)); exact Kd.R_mono HO_338002.out (fun _ hk => ⟨hk.1.1.1, ⟨hk.1.1.2, hk.2⟩⟩)⟩, ⟨by (try simp only [hl344002_63]); (with_reducible repeat (first | apply Kd.R_alloc | apply Kd.R_drewN | apply Kd.R_drew)); exact Kd.R_mono HO_338003.out (fun _ hk => ⟨hk.1.1.1, ⟨hk.1.1.2.1, ⟨hk.1.1.2.2, ⟨hk.1.2, hk.2⟩⟩⟩⟩)⟩, ⟨by (try simp only [hl344002_63]); (with_reducible repeat (first | apply Kd.R_alloc | apply Kd.R_drewN | apply Kd.R_drew)); exact Kd.R_mono HO_338004.out (fun _ hk => ⟨hk.1.1.1, ⟨hk.1.1.2.1, ⟨hk.1.1.2.2, ⟨hk.1.2, hk.2⟩⟩⟩⟩)⟩, ⟨by (try simp only [hl344002_63]); (with_reducible repeat (first | apply Kd.R_alloc | apply Kd.R_drewN | apply Kd.R_drew)); exact Kd.R_mono HO_344002.out (fun _ hk => ⟨hk.1.1.1, ⟨hk.1.1.2, hk.2⟩⟩)⟩, ⟨by (try simp only [hl344002_63]); (with_reducible repeat (first | apply Kd.R_alloc | apply Kd.R_drewN | apply Kd.R_drew)); exact Kd.R_mono HO_357002.out (fun _ hk => ⟨hk.1.1.1, ⟨hk.1.1.2, hk.2⟩⟩)⟩, ⟨by (try simp only [hl344002_63]); (with_reducible repeat (first | apply Kd.R_alloc | apply Kd.R_drewN | apply Kd.R_drew)); exact Kd.R_mono HO_357003.out (fun _ hk => ⟨hk.1.1.1, ⟨hk.1.1.2.1, ⟨hk.1.1.2.2, ⟨hk.1.2, hk.2⟩⟩⟩⟩)⟩, ⟨by (try simp only [hl344002_63]); (with_reducible repeat (first | apply Kd.R_alloc | apply Kd.R_drewN | apply Kd.R_drew)); exact Kd.R_mono HO_357004.out (fun _ hk => ⟨hk.1.1.1, ⟨hk.1.1.2.1, ⟨hk.1.1.2.2, ⟨hk.1.2, hk.2⟩⟩⟩⟩)⟩, ⟨by (try simp only [hl344002_63]); (with_reducible repeat (first | apply Kd.R_alloc | apply Kd.R_drewN | apply Kd.R_drew)); exact Kd.R_mono HO381.out (fun _ hk => ⟨hk.1.1.1.2, ⟨hk.1.1.2, hk.1.2⟩⟩)⟩, ⟨by (try simp only [hl344002_63]); (with_reducible repeat (first | apply Kd.R_alloc | apply Kd.R_drewN | apply Kd.R_drew)); exact Kd.R_mono HO384.out (fun _ hk => ⟨hk.1.1.1.2, ⟨hk.1.1.2, ⟨hk.1.2, ⟨hk.2, hk.1.1.1.1⟩⟩⟩⟩)⟩, ⟨by (try simp only [hl344002_63]); (with_reducible repeat (first | apply Kd.R_alloc | apply Kd.R_drewN | apply Kd.R_drew)); exact Kd.R_mono HO387.out (fun _ hk => ⟨hk.1.1.1.2, ⟨hk.1.1.2, ⟨hk.1.2, ⟨hk.2, hk.1.1.1.1⟩⟩⟩⟩)⟩, ⟨by (try simp only [hl344002_63]); (with_reducible repeat (first | refine blk_drewN ?_ _ | refine blk_drew ?_ | refine blk_alloc ?_ _)); exact BK318.out⟩, ⟨by (try simp only [hl344002_63]); (with_reducible repeat (first | refine blk_drewN ?_ _ | refine blk_drew ?_ | refine blk_alloc ?_ _)); exact BK337.out⟩, ⟨by (try simp only [hl344002_63]); (with_reducible repeat (first | refine blk_drewN ?_ _ | refine blk_drew ?_ | refine blk_alloc ?_ _)); exact BK343.out⟩, ⟨by (try simp only [hl344002_63]); (with_reducible repeat (first | refine blk_drewN ?_ _ | refine blk_drew ?_ | refine blk_alloc ?_ _)); exact BK356.out⟩, ⟨by (try simp only [hl344002_63]); (with_reducible repeat (first | refine blk_drewN ?_ _ | refine blk_drew ?_ | refine blk_alloc ?_ _)); exact BK389.out⟩, ⟨bq⟩⟩
            ·replace c131 := Bool.eq_false_iff.mpr c131
             subst c131
             rw [if_neg (show ¬ (false = true) by decide)] at H
             try dsimp only at H
             have H' := Aside0.mk H
             clear H
             have hnb142 := NB389_318.out
             have hnc142 := NB318_389.out
             have hnb143 := NB389_337.out
             have hnc143 := NB337_389.out
             have hnb144 := NB389_343.out
             have hnc144 := NB343_389.out
             have hnb145 := NB389_356.out
             have hnc145 := NB356_389.out
             have ⟨hcz146_0, hcz146_1, hcz146_2, hcz146_3, hcz146_4, hfz146_0, hfz146_1, hfz146_2, hfz146_3, hfz146_4⟩ := bc5 BK389
             have hnb147 := NB337_318.out
             have hnc147 := NB318_337.out
             have hnb148 := NB337_343.out
             have hnc148 := NB343_337.out
             have hnb149 := NB337_356.out
             have hnc149 := NB356_337.out
             have ⟨hcz150_0, hcz150_1, hcz150_2, hcz150_3, hcz150_4, hfz150_0, hfz150_1, hfz150_2, hfz150_3, hfz150_4⟩ := bc5 BK337
             go_wp2_with (first | ((with_reducible refine gate_callee (f := 18) rfl ?_); refine goesQ (some 81) Try.func18 #[.agg #[.int .i64 t377, .int .i64 t378, .slice Ao127 t379.length co127, .slice Ao128 t382.length co128, .slice Ao129 t385.length co129], .agg #[.int .i64 t325, .int .i64 t326, .slice Ao22 t327.length co22, .slice Ao23 t330.length co23, .slice Ao24 t333.length co24]] ?_; (with_reducible refine (laws_eqSession.calls kj63 t377 t378 _ _ t379 _ _ t382 _ _ t385 t325 t326 _ _ t327 _ _ t330 _ _ t333 false _ ?s1 ?s2 ?s3 ?s4 ?s5 ?s6 ?s7 ?s8 ?s9 ?s10 ?s11 ?s12 A130.out).mono ?_); (case s1 => refine (Kd.R_reads' (e := 58) (base := w.heap.size) (ok := fun k_ => ((((True ∧ some k_ ≠ (.slice Ao22 t327.length co22 : Value).ownBlock) ∧ some k_ ≠ (.slice Ao31 t365.length co31 : Value).ownBlock) ∧ some k_ ≠ (.slice Ao38 t346.length co38 : Value).ownBlock) ∧ some k_ ≠ (.slice Ao119 t374.length co119 : Value).ownBlock)) (n := t379.length) (c := co127) ?_).2.2; exact (by (with_reducible repeat (first | apply Kd.R_alloc | apply Kd.R_drewN | apply Kd.R_drew)); exact (Kd.R_mono (Kd.R_far (p := ⟨gb389, 4, none⟩) (Kd.R_far (p := ⟨gb389, 3, none⟩) (Kd.R_far (p := ⟨gb389, 2, none⟩) (Kd.R_far (p := ⟨gb389, 1, none⟩) (Kd.R_far (p := ⟨gb389, 0, none⟩) (Kd.R_types HO381.out BK389.out (by decide)) (fun _ hk => hk.2) (.int .i64 t377)) (fun _ hk => hk.2) (.int .i64 t378)) (fun _ hk => hk.2) (.slice Ao127 t379.length co127)) (fun _ hk => hk.2) (.slice Ao128 t382.length co128)) (fun _ hk => hk.2) (.slice Ao129 t385.length co129)) (fun _ h_ => h_.1)))); (case s2 => exact r1 HO381); (case s3 => refine (Kd.R_reads' (e := 60) (base := w.heap.size) (ok := fun k_ => ((((some k_ ≠ (.slice Ao129 t385.length co129 : Value).ownBlock ∧ some k_ ≠ (.slice Ao23 t330.length co23 : Value).ownBlock) ∧ some k_ ≠ (.slice Ao24 t333.length co24 : Value).ownBlock) ∧ some k_ ≠ (.slice Ao39 t349.length co39 : Value).ownBlock) ∧ some k_ ≠ (.slice Ao40 t352.length co40 : Value).ownBlock)) (n := t382.length) (c := co128) ?_).2.2; exact (by (with_reducible repeat (first | apply Kd.R_alloc | apply Kd.R_drewN | apply Kd.R_drew)); exact (Kd.R_mono (Kd.R_far (p := ⟨gb389, 4, none⟩) (Kd.R_far (p := ⟨gb389, 3, none⟩) (Kd.R_far (p := ⟨gb389, 2, none⟩) (Kd.R_far (p := ⟨gb389, 1, none⟩) (Kd.R_far (p := ⟨gb389, 0, none⟩) (Kd.R_types HO384.out BK389.out (by decide)) (fun _ hk => hk.2) (.int .i64 t377)) (fun _ hk => hk.2) (.int .i64 t378)) (fun _ hk => hk.2) (.slice Ao127 t379.length co127)) (fun _ hk => hk.2) (.slice Ao128 t382.length co128)) (fun _ hk => hk.2) (.slice Ao129 t385.length co129)) (fun _ h_ => h_.1)))); (case s4 => exact r1 HO384); (case s5 => refine (Kd.R_reads' (e := 60) (base := w.heap.size) (ok := fun k_ => ((((some k_ ≠ (.slice Ao128 t382.length co128 : Value).ownBlock ∧ some k_ ≠ (.slice Ao23 t330.length co23 : Value).ownBlock) ∧ some k_ ≠ (.slice Ao24 t333.length co24 : Value).ownBlock) ∧ some k_ ≠ (.slice Ao39 t349.length co39 : Value).ownBlock) ∧ some k_ ≠ (.slice Ao40 t352.length co40 : Value).ownBlock)) (n := t385.length) (c := co129) ?_).2.2; exact (by (with_reducible repeat (first | apply Kd.R_alloc | apply Kd.R_drewN | apply Kd.R_drew)); exact (Kd.R_mono (Kd.R_far (p := ⟨gb389, 4, none⟩) (Kd.R_far (p := ⟨gb389, 3, none⟩) (Kd.R_far (p := ⟨gb389, 2, none⟩) (Kd.R_far (p := ⟨gb389, 1, none⟩) (Kd.R_far (p := ⟨gb389, 0, none⟩) (Kd.R_types HO387.out BK389.out (by decide)) (fun _ hk => hk.2) (.int .i64 t377)) (fun _ hk => hk.2) (.int .i64 t378)) (fun _ hk => hk.2) (.slice Ao127 t379.length co127)) (fun _ hk => hk.2) (.slice Ao128 t382.length co128)) (fun _ hk => hk.2) (.slice Ao129 t385.length co129)) (fun _ h_ => h_.1)))); (case s6 => exact r1 HO387); (case s7 => refine (Kd.R_reads' (e := 58) (base := w.heap.size) (ok := fun k_ => (((some k_ ≠ (.slice Ao31 t365.length co31 : Value).ownBlock ∧ some k_ ≠ (.slice Ao38 t346.length co38 : Value).ownBlock) ∧ some k_ ≠ (.slice Ao119 t374.length co119 : Value).ownBlock) ∧ some k_ ≠ (.slice Ao127 t379.length co127 : Value).ownBlock)) (n := t327.length) (c := co22) ?_).2.2; exact (by (with_reducible repeat (first | apply Kd.R_alloc | apply Kd.R_drewN | apply Kd.R_drew)); exact (Kd.R_mono (Kd.R_far (p := ⟨gb389, 4, none⟩) (Kd.R_far (p := ⟨gb389, 3, none⟩) (Kd.R_far (p := ⟨gb389, 2, none⟩) (Kd.R_far (p := ⟨gb389, 1, none⟩) (Kd.R_far (p := ⟨gb389, 0, none⟩) (Kd.R_types HO_338002.out BK389.out (by decide)) (fun _ hk => hk.2) (.int .i64 t377)) (fun _ hk => hk.2) (.int .i64 t378)) (fun _ hk => hk.2) (.slice Ao127 t379.length co127)) (fun _ hk => hk.2) (.slice Ao128 t382.length co128)) (fun _ hk => hk.2) (.slice Ao129 t385.length co129)) (fun _ h_ => h_.1)))); (case s8 => exact r1 HO_338002); (case s9 => refine (Kd.R_reads' (e := 60) (base := w.heap.size) (ok := fun k_ => (((some k_ ≠ (.slice Ao24 t333.length co24 : Value).ownBlock ∧ (some k_ ≠ (.slice Ao39 t349.length co39 : Value).ownBlock ∧ some k_ ≠ (.slice Ao40 t352.length co40 : Value).ownBlock)) ∧ some k_ ≠ (.slice Ao128 t382.length co128 : Value).ownBlock) ∧ some k_ ≠ (.slice Ao129 t385.length co129 : Value).ownBlock)) (n := t330.length) (c := co23) ?_).2.2; exact (by (with_reducible repeat (first | apply Kd.R_alloc | apply Kd.R_drewN | apply Kd.R_drew)); exact (Kd.R_mono (Kd.R_far (p := ⟨gb389, 4, none⟩) (Kd.R_far (p := ⟨gb389, 3, none⟩) (Kd.R_far (p := ⟨gb389, 2, none⟩) (Kd.R_far (p := ⟨gb389, 1, none⟩) (Kd.R_far (p := ⟨gb389, 0, none⟩) (Kd.R_types HO_338003.out BK389.out (by decide)) (fun _ hk => hk.2) (.int .i64 t377)) (fun _ hk => hk.2) (.int .i64 t378)) (fun _ hk => hk.2) (.slice Ao127 t379.length co127)) (fun _ hk => hk.2) (.slice Ao128 t382.length co128)) (fun _ hk => hk.2) (.slice Ao129 t385.length co129)) (fun _ h_ => h_.1)))); (case s10 => exact r1 HO_338003); (case s11 => refine (Kd.R_reads' (e := 60) (base := w.heap.size) (ok := fun k_ => (((some k_ ≠ (.slice Ao23 t330.length co23 : Value).ownBlock ∧ (some k_ ≠ (.slice Ao39 t349.length co39 : Value).ownBlock ∧ some k_ ≠ (.slice Ao40 t352.length co40 : Value).ownBlock)) ∧ some k_ ≠ (.slice Ao128 t382.length co128 : Value).ownBlock) ∧ some k_ ≠ (.slice Ao129 t385.length co129 : Value).ownBlock)) (n := t333.length) (c := co24) ?_).2.2; exact (by (with_reducible repeat (first | apply Kd.R_alloc | apply Kd.R_drewN | apply Kd.R_drew)); exact (Kd.R_mono (Kd.R_far (p := ⟨gb389, 4, none⟩) (Kd.R_far (p := ⟨gb389, 3, none⟩) (Kd.R_far (p := ⟨gb389, 2, none⟩) (Kd.R_far (p := ⟨gb389, 1, none⟩) (Kd.R_far (p := ⟨gb389, 0, none⟩) (Kd.R_types HO_338004.out BK389.out (by decide)) (fun _ hk => hk.2) (.int .i64 t377)) (fun _ hk => hk.2) (.int .i64 t378)) (fun _ hk => hk.2) (.slice Ao127 t379.length co127)) (fun _ hk => hk.2) (.slice Ao128 t382.length co128)) (fun _ hk => hk.2) (.slice Ao129 t385.length co129)) (fun _ h_ => h_.1)))); (case s12 => exact r1 HO_338004); rintro e w151 ⟨rfl, hb⟩; refine ⟨_, rfl, ?_⟩; replace HO_338002 := Aside0.mk (Kd.R_below (by (with_reducible repeat (first | apply Kd.R_alloc | apply Kd.R_drewN | apply Kd.R_drew)); exact (Kd.R_mono (Kd.R_far (p := ⟨gb389, 4, none⟩) (Kd.R_far (p := ⟨gb389, 3, none⟩) (Kd.R_far (p := ⟨gb389, 2, none⟩) (Kd.R_far (p := ⟨gb389, 1, none⟩) (Kd.R_far (p := ⟨gb389, 0, none⟩) (Kd.R_types HO_338002.out BK389.out (by decide)) (fun _ hk => hk.2) (.int .i64 t377)) (fun _ hk => hk.2) (.int .i64 t378)) (fun _ hk => hk.2) (.slice Ao127 t379.length co127)) (fun _ hk => hk.2) (.slice Ao128 t382.length co128)) (fun _ hk => hk.2) (.slice Ao129 t385.length co129)) (fun _ h_ => h_.1))) hb); replace HO_338003 := Aside0.mk (Kd.R_below (by (with_reducible repeat (first | apply Kd.R_alloc | apply Kd.R_drewN | apply Kd.R_drew)); exact (Kd.R_mono (Kd.R_far (p := ⟨gb389, 4, none⟩) (Kd.R_far (p := ⟨gb389, 3, none⟩) (Kd.R_far (p := ⟨gb389, 2, none⟩) (Kd.R_far (p := ⟨gb389, 1, none⟩) (Kd.R_far (p := ⟨gb389, 0, none⟩) (Kd.R_types HO_338003.out BK389.out (by decide)) (fun _ hk => hk.2) (.int .i64 t377)) (fun _ hk => hk.2) (.int .i64 t378)) (fun _ hk => hk.2) (.slice Ao127 t379.length co127)) (fun _ hk => hk.2) (.slice Ao128 t382.length co128)) (fun _ hk => hk.2) (.slice Ao129 t385.length co129)) (fun _ h_ => h_.1))) hb); replace HO_338004 := Aside0.mk (Kd.R_below (by (with_reducible repeat (first | apply Kd.R_alloc | apply Kd.R_drewN | apply Kd.R_drew)); exact (Kd.R_mono (Kd.R_far (p := ⟨gb389, 4, none⟩) (Kd.R_far (p := ⟨gb389, 3, none⟩) (Kd.R_far (p := ⟨gb389, 2, none⟩) (Kd.R_far (p := ⟨gb389, 1, none⟩) (Kd.R_far (p := ⟨gb389, 0, none⟩) (Kd.R_types HO_338004.out BK389.out (by decide)) (fun _ hk => hk.2) (.int .i64 t377)) (fun _ hk => hk.2) (.int .i64 t378)) (fun _ hk => hk.2) (.slice Ao127 t379.length co127)) (fun _ hk => hk.2) (.slice Ao128 t382.length co128)) (fun _ hk => hk.2) (.slice Ao129 t385.length co129)) (fun _ h_ => h_.1))) hb); replace HO_344002 := Aside0.mk (Kd.R_below (by (with_reducible repeat (first | apply Kd.R_alloc | apply Kd.R_drewN | apply Kd.R_drew)); exact (Kd.R_mono (Kd.R_far (p := ⟨gb389, 4, none⟩) (Kd.R_far (p := ⟨gb389, 3, none⟩) (Kd.R_far (p := ⟨gb389, 2, none⟩) (Kd.R_far (p := ⟨gb389, 1, none⟩) (Kd.R_far (p := ⟨gb389, 0, none⟩) (Kd.R_types HO_344002.out BK389.out (by decide)) (fun _ hk => hk.2) (.int .i64 t377)) (fun _ hk => hk.2) (.int .i64 t378)) (fun _ hk => hk.2) (.slice Ao127 t379.length co127)) (fun _ hk => hk.2) (.slice Ao128 t382.length co128)) (fun _ hk => hk.2) (.slice Ao129 t385.length co129)) (fun _ h_ => h_.1))) hb); replace HO_357002 := Aside0.mk (Kd.R_below (by (with_reducible repeat (first | apply Kd.R_alloc | apply Kd.R_drewN | apply Kd.R_drew)); exact (Kd.R_mono (Kd.R_far (p := ⟨gb389, 4, none⟩) (Kd.R_far (p := ⟨gb389, 3, none⟩) (Kd.R_far (p := ⟨gb389, 2, none⟩) (Kd.R_far (p := ⟨gb389, 1, none⟩) (Kd.R_far (p := ⟨gb389, 0, none⟩) (Kd.R_types HO_357002.out BK389.out (by decide)) (fun _ hk => hk.2) (.int .i64 t377)) (fun _ hk => hk.2) (.int .i64 t378)) (fun _ hk => hk.2) (.slice Ao127 t379.length co127)) (fun _ hk => hk.2) (.slice Ao128 t382.length co128)) (fun _ hk => hk.2) (.slice Ao129 t385.length co129)) (fun _ h_ => h_.1))) hb); replace HO_357003 := Aside0.mk (Kd.R_below (by (with_reducible repeat (first | apply Kd.R_alloc | apply Kd.R_drewN | apply Kd.R_drew)); exact (Kd.R_mono (Kd.R_far (p := ⟨gb389, 4, none⟩) (Kd.R_far (p := ⟨gb389, 3, none⟩) (Kd.R_far (p := ⟨gb389, 2, none⟩) (Kd.R_far (p := ⟨gb389, 1, none⟩) (Kd.R_far (p := ⟨gb389, 0, none⟩) (Kd.R_types HO_357003.out BK389.out (by decide)) (fun _ hk => hk.2) (.int .i64 t377)) (fun _ hk => hk.2) (.int .i64 t378)) (fun _ hk => hk.2) (.slice Ao127 t379.length co127)) (fun _ hk => hk.2) (.slice Ao128 t382.length co128)) (fun _ hk => hk.2) (.slice Ao129 t385.length co129)) (fun _ h_ => h_.1))) hb); replace HO_357004 := Aside0.mk (Kd.R_below (by (with_reducible repeat (first | apply Kd.R_alloc | apply Kd.R_drewN | apply Kd.R_drew)); exact (Kd.R_mono (Kd.R_far (p := ⟨gb389, 4, none⟩) (Kd.R_far (p := ⟨gb389, 3, none⟩) (Kd.R_far (p := ⟨gb389, 2, none⟩) (Kd.R_far (p := ⟨gb389, 1, none⟩) (Kd.R_far (p := ⟨gb389, 0, none⟩) (Kd.R_types HO_357004.out BK389.out (by decide)) (fun _ hk => hk.2) (.int .i64 t377)) (fun _ hk => hk.2) (.int .i64 t378)) (fun _ hk => hk.2) (.slice Ao127 t379.length co127)) (fun _ hk => hk.2) (.slice Ao128 t382.length co128)) (fun _ hk => hk.2) (.slice Ao129 t385.length co129)) (fun _ h_ => h_.1))) hb); replace HO381 := Aside0.mk (Kd.R_below (by (with_reducible repeat (first | apply Kd.R_alloc | apply Kd.R_drewN | apply Kd.R_drew)); exact (Kd.R_mono (Kd.R_far (p := ⟨gb389, 4, none⟩) (Kd.R_far (p := ⟨gb389, 3, none⟩) (Kd.R_far (p := ⟨gb389, 2, none⟩) (Kd.R_far (p := ⟨gb389, 1, none⟩) (Kd.R_far (p := ⟨gb389, 0, none⟩) (Kd.R_types HO381.out BK389.out (by decide)) (fun _ hk => hk.2) (.int .i64 t377)) (fun _ hk => hk.2) (.int .i64 t378)) (fun _ hk => hk.2) (.slice Ao127 t379.length co127)) (fun _ hk => hk.2) (.slice Ao128 t382.length co128)) (fun _ hk => hk.2) (.slice Ao129 t385.length co129)) (fun _ h_ => h_.1))) hb); replace HO384 := Aside0.mk (Kd.R_below (by (with_reducible repeat (first | apply Kd.R_alloc | apply Kd.R_drewN | apply Kd.R_drew)); exact (Kd.R_mono (Kd.R_far (p := ⟨gb389, 4, none⟩) (Kd.R_far (p := ⟨gb389, 3, none⟩) (Kd.R_far (p := ⟨gb389, 2, none⟩) (Kd.R_far (p := ⟨gb389, 1, none⟩) (Kd.R_far (p := ⟨gb389, 0, none⟩) (Kd.R_types HO384.out BK389.out (by decide)) (fun _ hk => hk.2) (.int .i64 t377)) (fun _ hk => hk.2) (.int .i64 t378)) (fun _ hk => hk.2) (.slice Ao127 t379.length co127)) (fun _ hk => hk.2) (.slice Ao128 t382.length co128)) (fun _ hk => hk.2) (.slice Ao129 t385.length co129)) (fun _ h_ => h_.1))) hb); replace HO387 := Aside0.mk (Kd.R_below (by (with_reducible repeat (first | apply Kd.R_alloc | apply Kd.R_drewN | apply Kd.R_drew)); exact (Kd.R_mono (Kd.R_far (p := ⟨gb389, 4, none⟩) (Kd.R_far (p := ⟨gb389, 3, none⟩) (Kd.R_far (p := ⟨gb389, 2, none⟩) (Kd.R_far (p := ⟨gb389, 1, none⟩) (Kd.R_far (p := ⟨gb389, 0, none⟩) (Kd.R_types HO387.out BK389.out (by decide)) (fun _ hk => hk.2) (.int .i64 t377)) (fun _ hk => hk.2) (.int .i64 t378)) (fun _ hk => hk.2) (.slice Ao127 t379.length co127)) (fun _ hk => hk.2) (.slice Ao128 t382.length co128)) (fun _ hk => hk.2) (.slice Ao129 t385.length co129)) (fun _ h_ => h_.1))) hb); replace BK318 := Aside0.mk (blk_below (g := gb318) (o := .cells #[.int .i64 a0_0, .int .i64 a0_1, .slice A0_2 l0_2.length c0_2] 24 (0, 0)) (by (with_reducible repeat (first | refine blk_drewN ?_ _ | refine blk_drew ?_ | refine blk_alloc ?_ _)); refine blk_far ?_ NB318_389.out _; (with_reducible repeat (first | refine blk_drewN ?_ _ | refine blk_drew ?_ | refine blk_alloc ?_ _)); refine blk_far ?_ NB318_389.out _; (with_reducible repeat (first | refine blk_drewN ?_ _ | refine blk_drew ?_ | refine blk_alloc ?_ _)); refine blk_far ?_ NB318_389.out _; (with_reducible repeat (first | refine blk_drewN ?_ _ | refine blk_drew ?_ | refine blk_alloc ?_ _)); refine blk_far ?_ NB318_389.out _; (with_reducible repeat (first | refine blk_drewN ?_ _ | refine blk_drew ?_ | refine blk_alloc ?_ _)); refine blk_far ?_ NB318_389.out _; (with_reducible repeat (first | refine blk_drewN ?_ _ | refine blk_drew ?_ | refine blk_alloc ?_ _)); exact BK318.out) hb); replace BK337 := Aside0.mk (blk_below (g := gb337) (o := .cells #[.int .i64 t325, .int .i64 t326, .slice Ao22 t327.length co22, .slice Ao23 t330.length co23, .slice Ao24 t333.length co24] 35 (0, 0)) (by (with_reducible repeat (first | refine blk_drewN ?_ _ | refine blk_drew ?_ | refine blk_alloc ?_ _)); refine blk_far ?_ NB337_389.out _; (with_reducible repeat (first | refine blk_drewN ?_ _ | refine blk_drew ?_ | refine blk_alloc ?_ _)); refine blk_far ?_ NB337_389.out _; (with_reducible repeat (first | refine blk_drewN ?_ _ | refine blk_drew ?_ | refine blk_alloc ?_ _)); refine blk_far ?_ NB337_389.out _; (with_reducible repeat (first | refine blk_drewN ?_ _ | refine blk_drew ?_ | refine blk_alloc ?_ _)); refine blk_far ?_ NB337_389.out _; (with_reducible repeat (first | refine blk_drewN ?_ _ | refine blk_drew ?_ | refine blk_alloc ?_ _)); refine blk_far ?_ NB337_389.out _; (with_reducible repeat (first | refine blk_drewN ?_ _ | refine blk_drew ?_ | refine blk_alloc ?_ _)); exact BK337.out) hb); replace BK343 := Aside0.mk (blk_below (g := gb343) (o := .cells #[.int .i64 t338, .int .i64 t339, .slice Ao31 t365.length co31] 32 (0, 0)) (by (with_reducible repeat (first | refine blk_drewN ?_ _ | refine blk_drew ?_ | refine blk_alloc ?_ _)); refine blk_far ?_ NB343_389.out _; (with_reducible repeat (first | refine blk_drewN ?_ _ | refine blk_drew ?_ | refine blk_alloc ?_ _)); refine blk_far ?_ NB343_389.out _; (with_reducible repeat (first | refine blk_drewN ?_ _ | refine blk_drew ?_ | refine blk_alloc ?_ _)); refine blk_far ?_ NB343_389.out _; (with_reducible repeat (first | refine blk_drewN ?_ _ | refine blk_drew ?_ | refine blk_alloc ?_ _)); refine blk_far ?_ NB343_389.out _; (with_reducible repeat (first | refine blk_drewN ?_ _ | refine blk_drew ?_ | refine blk_alloc ?_ _)); refine blk_far ?_ NB343_389.out _; (with_reducible repeat (first | refine blk_drewN ?_ _ | refine blk_drew ?_ | refine blk_alloc ?_ _)); exact BK343.out) hb); replace BK356 := Aside0.mk (blk_below (g := gb356) (o := .cells #[.int .i64 t344, .int .i64 t345, .slice Ao38 t346.length co38, .slice Ao39 t349.length co39, .slice Ao40 t352.length co40] 35 (0, 0)) (by (with_reducible repeat (first | refine blk_drewN ?_ _ | refine blk_drew ?_ | refine blk_alloc ?_ _)); refine blk_far ?_ NB356_389.out _; (with_reducible repeat (first | refine blk_drewN ?_ _ | refine blk_drew ?_ | refine blk_alloc ?_ _)); refine blk_far ?_ NB356_389.out _; (with_reducible repeat (first | refine blk_drewN ?_ _ | refine blk_drew ?_ | refine blk_alloc ?_ _)); refine blk_far ?_ NB356_389.out _; (with_reducible repeat (first | refine blk_drewN ?_ _ | refine blk_drew ?_ | refine blk_alloc ?_ _)); refine blk_far ?_ NB356_389.out _; (with_reducible repeat (first | refine blk_drewN ?_ _ | refine blk_drew ?_ | refine blk_alloc ?_ _)); refine blk_far ?_ NB356_389.out _; (with_reducible repeat (first | refine blk_drewN ?_ _ | refine blk_drew ?_ | refine blk_alloc ?_ _)); exact BK356.out) hb); replace BK389 := Aside0.mk (blk_below (g := gb389) (o := .cells #[.int .i64 t377, .int .i64 t378, .slice Ao127 t379.length co127, .slice Ao128 t382.length co128, .slice Ao129 t385.length co129] 35 (0, 0)) (by (with_reducible repeat (first | refine blk_drewN ?_ _ | refine blk_drew ?_ | refine blk_alloc ?_ _)); refine blk_put (cs := #[.int .i64 t377, .int .i64 t378, .slice Ao127 t379.length co127, .slice Ao128 t382.length co128, .slice none 0 0]) ?_ 4 _ rfl; (with_reducible repeat (first | refine blk_drewN ?_ _ | refine blk_drew ?_ | refine blk_alloc ?_ _)); refine blk_put (cs := #[.int .i64 t377, .int .i64 t378, .slice Ao127 t379.length co127, .slice none 0 0, .slice none 0 0]) ?_ 3 _ rfl; (with_reducible repeat (first | refine blk_drewN ?_ _ | refine blk_drew ?_ | refine blk_alloc ?_ _)); refine blk_put (cs := #[.int .i64 t377, .int .i64 t378, .slice none 0 0, .slice none 0 0, .slice none 0 0]) ?_ 2 _ rfl; (with_reducible repeat (first | refine blk_drewN ?_ _ | refine blk_drew ?_ | refine blk_alloc ?_ _)); refine blk_put (cs := #[.int .i64 t377, .int .i64 0, .slice none 0 0, .slice none 0 0, .slice none 0 0]) ?_ 1 _ rfl; (with_reducible repeat (first | refine blk_drewN ?_ _ | refine blk_drew ?_ | refine blk_alloc ?_ _)); refine blk_put (cs := #[.int .i64 0, .int .i64 0, .slice none 0 0, .slice none 0 0, .slice none 0 0]) ?_ 0 _ rfl; (with_reducible repeat (first | refine blk_drewN ?_ _ | refine blk_drew ?_ | refine blk_alloc ?_ _)); exact BK389.out) hb); replace HB := sb hb; (try clear hb hb2 hk hi)))
             go_meet
             case rel => exact ⟨_, (true), sq, H', ⟨by have := HJ10.out; have := HJ63.out; first | omega | exact Nat.le_refl _⟩, ⟨by (try simp only [hl344002_63]); (with_reducible repeat (first | apply Kd.R_alloc | apply Kd.R_drewN | apply Kd.R_drew)); exact Kd.R_mono HO_338002.out (fun _ hk => ⟨hk.1.1.1, ⟨hk.1.1.2, hk.2⟩⟩)⟩, ⟨by (try simp only [hl344002_63]); (with_reducible repeat (first | apply Kd.R_alloc | apply Kd.R_drewN | apply Kd.R_drew)); exact Kd.R_mono HO_338003.out (fun _ hk => ⟨hk.1.1.1, ⟨hk.1.1.2.1, ⟨hk.1.1.2.2, ⟨hk.1.2, hk.2⟩⟩⟩⟩)⟩, ⟨by (try simp only [hl344002_63]); (with_reducible repeat (first | apply Kd.R_alloc | apply Kd.R_drewN | apply Kd.R_drew)); exact Kd.R_mono HO_338004.out (fun _ hk => ⟨hk.1.1.1, ⟨hk.1.1.2.1, ⟨hk.1.1.2.2, ⟨hk.1.2, hk.2⟩⟩⟩⟩)⟩, ⟨by (try simp only [hl344002_63]); (with_reducible repeat (first | apply Kd.R_alloc | apply Kd.R_drewN | apply Kd.R_drew)); exact Kd.R_mono HO_344002.out (fun _ hk => ⟨hk.1.1.1, ⟨hk.1.1.2, hk.2⟩⟩)⟩, ⟨by (try simp only [hl344002_63]); (with_reducible repeat (first | apply Kd.R_alloc | apply Kd.R_drewN | apply Kd.R_drew)); exact Kd.R_mono HO_357002.out (fun _ hk => ⟨hk.1.1.1, ⟨hk.1.1.2, hk.2⟩⟩)⟩, ⟨by (try simp only [hl344002_63]); (with_reducible repeat (first | apply Kd.R_alloc | apply Kd.R_drewN | apply Kd.R_drew)); exact Kd.R_mono HO_357003.out (fun _ hk => ⟨hk.1.1.1, ⟨hk.1.1.2.1, ⟨hk.1.1.2.2, ⟨hk.1.2, hk.2⟩⟩⟩⟩)⟩, ⟨by (try simp only [hl344002_63]); (with_reducible repeat (first | apply Kd.R_alloc | apply Kd.R_drewN | apply Kd.R_drew)); exact Kd.R_mono HO_357004.out (fun _ hk => ⟨hk.1.1.1, ⟨hk.1.1.2.1, ⟨hk.1.1.2.2, ⟨hk.1.2, hk.2⟩⟩⟩⟩)⟩, ⟨by (try simp only [hl344002_63]); (with_reducible repeat (first | apply Kd.R_alloc | apply Kd.R_drewN | apply Kd.R_drew)); exact Kd.R_mono HO381.out (fun _ hk => ⟨hk.1.1.1.2, ⟨hk.1.1.2, hk.1.2⟩⟩)⟩, ⟨by (try simp only [hl344002_63]); (with_reducible repeat (first | apply Kd.R_alloc | apply Kd.R_drewN | apply Kd.R_drew)); exact Kd.R_mono HO384.out (fun _ hk => ⟨hk.1.1.1.2, ⟨hk.1.1.2, ⟨hk.1.2, ⟨hk.2, hk.1.1.1.1⟩⟩⟩⟩)⟩, ⟨by (try simp only [hl344002_63]); (with_reducible repeat (first | apply Kd.R_alloc | apply Kd.R_drewN | apply Kd.R_drew)); exact Kd.R_mono HO387.out (fun _ hk => ⟨hk.1.1.1.2, ⟨hk.1.1.2, ⟨hk.1.2, ⟨hk.2, hk.1.1.1.1⟩⟩⟩⟩)⟩, ⟨by (try simp only [hl344002_63]); (with_reducible repeat (first | refine blk_drewN ?_ _ | refine blk_drew ?_ | refine blk_alloc ?_ _)); exact BK318.out⟩, ⟨by (try simp only [hl344002_63]); (with_reducible repeat (first | refine blk_drewN ?_ _ | refine blk_drew ?_ | refine blk_alloc ?_ _)); exact BK337.out⟩, ⟨by (try simp only [hl344002_63]); (with_reducible repeat (first | refine blk_drewN ?_ _ | refine blk_drew ?_ | refine blk_alloc ?_ _)); exact BK343.out⟩, ⟨by (try simp only [hl344002_63]); (with_reducible repeat (first | refine blk_drewN ?_ _ | refine blk_drew ?_ | refine blk_alloc ?_ _)); exact BK356.out⟩, ⟨by (try simp only [hl344002_63]); (with_reducible repeat (first | refine blk_drewN ?_ _ | refine blk_drew ?_ | refine blk_alloc ?_ _)); exact BK389.out⟩, ⟨bq⟩⟩
           case rest =>
            clear HC107
            try clear c1
            try clear c2
            try clear p2
            try clear c3
            try clear c3b0
            try clear c4
            try clear c5
            try clear c6
            try clear c7
            try clear c8
            try clear c9
            try clear c10
            try clear c11
            try clear c12
            try clear c13
            try clear c14
            try clear c18
            try clear c19
            try clear c20
            try clear c21
            try clear c22
            try clear c23
            try clear c24
            try clear c25
            try clear c26
            try clear c28
            try clear c29
            try clear c34
            try clear c35
            try clear c36
            try clear c42
            try clear c43
            try clear c44
            try clear c45
            try clear c47
            try clear c48
            try clear c51
            try clear c52
            try clear c53
            try clear c55
            try clear c56
            try clear c59
            try clear c62
            try clear c69
            try clear c70
            try clear c71
            try clear c74
            try clear c74b0
            try clear c76
            try clear c77
            try clear c78
            try clear c79
            try clear c81
            try clear c82
            try clear c85
            try clear c86
            try clear c87
            try clear c89
            try clear c90
            try clear c93
            try clear c96
            try clear c96b0
            try clear c97
            try clear c98
            try clear c99
            try clear c104
            try clear c104b0
            try clear c104b1
            try clear c108
            try clear c109
            try clear c110
            try clear c115
            try clear c116
            try clear c122
            try clear c123
            try clear c124
            try clear c125
            try clear c131
            try clear c132
            try clear c133
            try clear c134
            try clear c135
            try clear c137
            try clear c138
            try clear c139
            try clear c142
            try clear c143
            try clear c144
            try clear c145
            try clear c147
            try clear c148
            try clear c149
            try clear hcz100_0
            try clear hcz100_1
            try clear hcz100_2
            try clear hcz100_3
            try clear hcz100_4
            try clear hcz102_0
            try clear hcz102_1
            try clear hcz102_2
            try clear hcz102_3
            try clear hcz102_4
            try clear hcz111_0
            try clear hcz111_1
            try clear hcz111_2
            try clear hcz111_3
            try clear hcz111_4
            try clear hcz113_0
            try clear hcz113_1
            try clear hcz113_2
            try clear hcz113_3
            try clear hcz113_4
            try clear hcz117_0
            try clear hcz117_1
            try clear hcz117_2
            try clear hcz126_0
            try clear hcz126_1
            try clear hcz126_2
            try clear hcz126_3
            try clear hcz126_4
            try clear hcz136_0
            try clear hcz136_1
            try clear hcz136_2
            try clear hcz136_3
            try clear hcz136_4
            try clear hcz13_0
            try clear hcz13_1
            try clear hcz13_2
            try clear hcz140_0
            try clear hcz140_1
            try clear hcz140_2
            try clear hcz140_3
            try clear hcz140_4
            try clear hcz146_0
            try clear hcz146_1
            try clear hcz146_2
            try clear hcz146_3
            try clear hcz146_4
            try clear hcz150_0
            try clear hcz150_1
            try clear hcz150_2
            try clear hcz150_3
            try clear hcz150_4
            try clear hcz15_0
            try clear hcz15_1
            try clear hcz15_2
            try clear hcz21_0
            try clear hcz21_1
            try clear hcz21_2
            try clear hcz21_3
            try clear hcz21_4
            try clear hcz25_0
            try clear hcz25_1
            try clear hcz25_2
            try clear hcz30_0
            try clear hcz30_1
            try clear hcz30_2
            try clear hcz37_0
            try clear hcz37_1
            try clear hcz37_2
            try clear hcz37_3
            try clear hcz37_4
            try clear hcz46_0
            try clear hcz46_1
            try clear hcz46_2
            try clear hcz46_3
            try clear hcz46_4
            try clear hcz49_0
            try clear hcz49_1
            try clear hcz49_2
            try clear hcz49_3
            try clear hcz49_4
            try clear hcz54_0
            try clear hcz54_1
            try clear hcz54_2
            try clear hcz54_3
            try clear hcz54_4
            try clear hcz57_0
            try clear hcz57_1
            try clear hcz57_2
            try clear hcz57_3
            try clear hcz57_4
            try clear hcz5_0
            try clear hcz5_1
            try clear hcz5_2
            try clear hcz72_0
            try clear hcz72_1
            try clear hcz72_2
            try clear hcz80_0
            try clear hcz80_1
            try clear hcz80_2
            try clear hcz80_3
            try clear hcz80_4
            try clear hcz83_0
            try clear hcz83_1
            try clear hcz83_2
            try clear hcz83_3
            try clear hcz83_4
            try clear hcz88_0
            try clear hcz88_1
            try clear hcz88_2
            try clear hcz88_3
            try clear hcz88_4
            try clear hcz91_0
            try clear hcz91_1
            try clear hcz91_2
            try clear hcz91_3
            try clear hcz91_4
            try clear hfz100_0
            try clear hfz100_1
            try clear hfz100_2
            try clear hfz100_3
            try clear hfz100_4
            try clear hfz102_0
            try clear hfz102_1
            try clear hfz102_2
            try clear hfz102_3
            try clear hfz102_4
            try clear hfz111_0
            try clear hfz111_1
            try clear hfz111_2
            try clear hfz111_3
            try clear hfz111_4
            try clear hfz113_0
            try clear hfz113_1
            try clear hfz113_2
            try clear hfz113_3
            try clear hfz113_4
            try clear hfz117_0
            try clear hfz117_1
            try clear hfz117_2
            try clear hfz126_0
            try clear hfz126_1
            try clear hfz126_2
            try clear hfz126_3
            try clear hfz126_4
            try clear hfz136_0
            try clear hfz136_1
            try clear hfz136_2
            try clear hfz136_3
            try clear hfz136_4
            try clear hfz13_0
            try clear hfz13_1
            try clear hfz13_2
            try clear hfz140_0
            try clear hfz140_1
            try clear hfz140_2
            try clear hfz140_3
            try clear hfz140_4
            try clear hfz146_0
            try clear hfz146_1
            try clear hfz146_2
            try clear hfz146_3
            try clear hfz146_4
            try clear hfz150_0
            try clear hfz150_1
            try clear hfz150_2
            try clear hfz150_3
            try clear hfz150_4
            try clear hfz15_0
            try clear hfz15_1
            try clear hfz15_2
            try clear hfz21_0
            try clear hfz21_1
            try clear hfz21_2
            try clear hfz21_3
            try clear hfz21_4
            try clear hfz25_0
            try clear hfz25_1
            try clear hfz25_2
            try clear hfz30_0
            try clear hfz30_1
            try clear hfz30_2
            try clear hfz37_0
            try clear hfz37_1
            try clear hfz37_2
            try clear hfz37_3
            try clear hfz37_4
            try clear hfz46_0
            try clear hfz46_1
            try clear hfz46_2
            try clear hfz46_3
            try clear hfz46_4
            try clear hfz49_0
            try clear hfz49_1
            try clear hfz49_2
            try clear hfz49_3
            try clear hfz49_4
            try clear hfz54_0
            try clear hfz54_1
            try clear hfz54_2
            try clear hfz54_3
            try clear hfz54_4
            try clear hfz57_0
            try clear hfz57_1
            try clear hfz57_2
            try clear hfz57_3
            try clear hfz57_4
            try clear hfz5_0
            try clear hfz5_1
            try clear hfz5_2
            try clear hfz72_0
            try clear hfz72_1
            try clear hfz72_2
            try clear hfz80_0
            try clear hfz80_1
            try clear hfz80_2
            try clear hfz80_3
            try clear hfz80_4
            try clear hfz83_0
            try clear hfz83_1
            try clear hfz83_2
            try clear hfz83_3
            try clear hfz83_4
            try clear hfz88_0
            try clear hfz88_1
            try clear hfz88_2
            try clear hfz88_3
            try clear hfz88_4
            try clear hfz91_0
            try clear hfz91_1
            try clear hfz91_2
            try clear hfz91_3
            try clear hfz91_4
            try clear p2
            obtain ⟨kq, x87_106, rfl, HA, HJ106, HO_338002, HO_338003, HO_338004, HO_344002, HO_357002, HO_357003, HO_357004, HO_390002, HO_390003, HO_390004, BK318, BK337, BK343, BK356, BK389, HB⟩ := hcut
            have hl357002_106 := (Kd.R_reads' HO_357002.out).1
            rw [hl357002_106] at HO_357002
            (try simp only [hl357002_106])
            (try simp only [hl357002_106] at BK318)
            (try simp only [hl357002_106] at BK337)
            (try simp only [hl357002_106] at BK343)
            (try simp only [hl357002_106] at BK356)
            (try simp only [hl357002_106] at BK389)
            (try simp only [hl357002_106] at HO_338002)
            (try simp only [hl357002_106] at HO_338003)
            (try simp only [hl357002_106] at HO_338004)
            (try simp only [hl357002_106] at HO_344002)
            (try simp only [hl357002_106] at HO_357003)
            (try simp only [hl357002_106] at HO_357004)
            (try simp only [hl357002_106] at HO_390002)
            (try simp only [hl357002_106] at HO_390003)
            (try simp only [hl357002_106] at HO_390004)
            have hl357003_106 := (Kd.R_reads' HO_357003.out).1
            rw [hl357003_106] at HO_357003
            (try simp only [hl357003_106])
            (try simp only [hl357003_106] at BK318)
            (try simp only [hl357003_106] at BK337)
            (try simp only [hl357003_106] at BK343)
            (try simp only [hl357003_106] at BK356)
            (try simp only [hl357003_106] at BK389)
            (try simp only [hl357003_106] at HO_338002)
            (try simp only [hl357003_106] at HO_338003)
            (try simp only [hl357003_106] at HO_338004)
            (try simp only [hl357003_106] at HO_344002)
            (try simp only [hl357003_106] at HO_357002)
            (try simp only [hl357003_106] at HO_357004)
            (try simp only [hl357003_106] at HO_390002)
            (try simp only [hl357003_106] at HO_390003)
            (try simp only [hl357003_106] at HO_390004)
            have hl357004_106 := (Kd.R_reads' HO_357004.out).1
            rw [hl357004_106] at HO_357004
            (try simp only [hl357004_106])
            (try simp only [hl357004_106] at BK318)
            (try simp only [hl357004_106] at BK337)
            (try simp only [hl357004_106] at BK343)
            (try simp only [hl357004_106] at BK356)
            (try simp only [hl357004_106] at BK389)
            (try simp only [hl357004_106] at HO_338002)
            (try simp only [hl357004_106] at HO_338003)
            (try simp only [hl357004_106] at HO_338004)
            (try simp only [hl357004_106] at HO_344002)
            (try simp only [hl357004_106] at HO_357002)
            (try simp only [hl357004_106] at HO_357003)
            (try simp only [hl357004_106] at HO_390002)
            (try simp only [hl357004_106] at HO_390003)
            (try simp only [hl357004_106] at HO_390004)
            cases kq with
            | zero => exact absurd HA.out (by simp [laws_FnExactNewSession.j2])
            | succ kj106 =>
             have H := HA.out
             clear HA
             simp only [laws_FnExactNewSession.j2] at H
             by_cases c152 : x87_106 = true
             ·subst c152
              rw [if_pos rfl] at H
              try dsimp only at H
              obtain rfl := Option.some.inj H
              go_wp2
              go_ret
              exact ⟨eq_, bq⟩
             ·replace c152 := Bool.eq_false_iff.mpr c152
              subst c152
              rw [if_neg (show ¬ (false = true) by decide)] at H
              try dsimp only at H
              obtain ⟨t391, A153, H⟩ := bindq H
              try dsimp only at H
              by_cases c154 : t391 < 0
              ·rw [if_pos c154] at H
               have c154b0 : decide (t391 < 0) = true := decide_eq_true c154
               clear c154
               obtain rfl := Option.some.inj H
               have hnb155 := NB356_318.out
               have hnc155 := NB318_356.out
               have hnb156 := NB356_337.out
               have hnc156 := NB337_356.out
               have hnb157 := NB356_343.out
               have hnc157 := NB343_356.out
               have hnb158 := NB356_389.out
               have hnc158 := NB389_356.out
               have ⟨hcz159_0, hcz159_1, hcz159_2, hcz159_3, hcz159_4, hfz159_0, hfz159_1, hfz159_2, hfz159_3, hfz159_4⟩ := bc5 BK356
               go_wp2_with (first | ((with_reducible refine gate_callee (f := 26) rfl ?_); refine goesQ (some 90) Try.func26 #[.agg #[.int .i64 t344, .int .i64 t345, .slice Ao38 t368.length co38, .slice Ao39 t369.length co39, .slice Ao40 t370.length co40], .int .i64 1] ?_; (with_reducible refine (laws_heldSession.calls kj106 t344 t345 _ _ t368 _ _ t369 _ _ t370 1 t391 _ ?s1 ?s2 ?s3 ?s4 ?s5 ?s6 A153.out).mono ?_); (case s1 => exact cr HO_357002); (case s2 => exact r1 HO_357002); (case s3 => exact cr HO_357003); (case s4 => exact r1 HO_357003); (case s5 => exact cr HO_357004); (case s6 => exact r1 HO_357004); rintro e w160 ⟨rfl, hb⟩; refine ⟨_, rfl, ?_⟩; replace HO_338002 := rb HO_338002 hb; replace HO_344002 := rb HO_344002 hb; replace HO_357002 := rb HO_357002 hb; replace HO_357003 := rb HO_357003 hb; replace HO_357004 := rb HO_357004 hb; replace BK318 := zb BK318 hb; replace BK343 := zb BK343 hb; replace BK356 := zb BK356 hb; replace HB := sb hb; (try clear hb)))
               go_ret
               exact ⟨eq_, bq⟩
              ·rw [if_neg c154] at H
               have c154b0 : decide (t391 < 0) = false := decide_eq_false c154
               clear c154
               by_cases c161 : t391 = t367
               ·rw [if_pos c161] at H
                have c161b0 : (t391 == t367) = true := beq_iff_eq.mpr c161
                have c161b1 : (t391 != t367) = false := bne_eq_false_iff_eq.mpr c161
                clear c161
                obtain rfl := Option.some.inj H
                have hnb162 := NB356_318.out
                have hnc162 := NB318_356.out
                have hnb163 := NB356_337.out
                have hnc163 := NB337_356.out
                have hnb164 := NB356_343.out
                have hnc164 := NB343_356.out
                have hnb165 := NB356_389.out
                have hnc165 := NB389_356.out
                have ⟨hcz166_0, hcz166_1, hcz166_2, hcz166_3, hcz166_4, hfz166_0, hfz166_1, hfz166_2, hfz166_3, hfz166_4⟩ := bc5 BK356
                go_wp2_with (first | ((with_reducible refine gate_callee (f := 26) rfl ?_); refine goesQ (some 90) Try.func26 #[.agg #[.int .i64 t344, .int .i64 t345, .slice Ao38 t368.length co38, .slice Ao39 t369.length co39, .slice Ao40 t370.length co40], .int .i64 1] ?_; (with_reducible refine (laws_heldSession.calls kj106 t344 t345 _ _ t368 _ _ t369 _ _ t370 1 t391 _ ?s1 ?s2 ?s3 ?s4 ?s5 ?s6 A153.out).mono ?_); (case s1 => exact cr HO_357002); (case s2 => exact r1 HO_357002); (case s3 => exact cr HO_357003); (case s4 => exact r1 HO_357003); (case s5 => exact cr HO_357004); (case s6 => exact r1 HO_357004); rintro e w167 ⟨rfl, hb⟩; refine ⟨_, rfl, ?_⟩; replace HO_338002 := rb HO_338002 hb; replace HO_344002 := rb HO_344002 hb; replace HO_357002 := rb HO_357002 hb; replace HO_357003 := rb HO_357003 hb; replace HO_357004 := rb HO_357004 hb; replace BK318 := zb BK318 hb; replace BK343 := zb BK343 hb; replace BK356 := zb BK356 hb; replace HB := sb hb; (try clear hb)))
                go_ret
                exact ⟨eq_, bq⟩
               ·rw [if_neg c161] at H
                have c161b0 : (t391 == t367) = false := beq_eq_false_iff_ne.mpr c161
                have c161b1 : (t391 != t367) = true := bne_iff_ne.mpr c161
                obtain rfl := Option.some.inj H
                have hnb168 := NB356_318.out
                have hnc168 := NB318_356.out
                have hnb169 := NB356_337.out
                have hnc169 := NB337_356.out
                have hnb170 := NB356_343.out
                have hnc170 := NB343_356.out
                have hnb171 := NB356_389.out
                have hnc171 := NB389_356.out
                have ⟨hcz172_0, hcz172_1, hcz172_2, hcz172_3, hcz172_4, hfz172_0, hfz172_1, hfz172_2, hfz172_3, hfz172_4⟩ := bc5 BK356
                go_wp2_with (first | ((with_reducible refine gate_callee (f := 26) rfl ?_); refine goesQ (some 90) Try.func26 #[.agg #[.int .i64 t344, .int .i64 t345, .slice Ao38 t368.length co38, .slice Ao39 t369.length co39, .slice Ao40 t370.length co40], .int .i64 1] ?_; (with_reducible refine (laws_heldSession.calls kj106 t344 t345 _ _ t368 _ _ t369 _ _ t370 1 t391 _ ?s1 ?s2 ?s3 ?s4 ?s5 ?s6 A153.out).mono ?_); (case s1 => exact cr HO_357002); (case s2 => exact r1 HO_357002); (case s3 => exact cr HO_357003); (case s4 => exact r1 HO_357003); (case s5 => exact cr HO_357004); (case s6 => exact r1 HO_357004); rintro e w173 ⟨rfl, hb⟩; refine ⟨_, rfl, ?_⟩; replace HO_338002 := rb HO_338002 hb; replace HO_344002 := rb HO_344002 hb; replace HO_357002 := rb HO_357002 hb; replace HO_357003 := rb HO_357003 hb; replace HO_357004 := rb HO_357004 hb; replace BK318 := zb BK318 hb; replace BK343 := zb BK343 hb; replace BK356 := zb BK356 hb; replace HB := sb hb; (try clear hb)))
                go_ret
                exact ⟨eq_, bq⟩
          ·rw [if_neg c104] at H
           have c104b0 : (t371 == t367) = false := beq_eq_false_iff_ne.mpr c104
           have c104b1 : (t371 != t367) = true := bne_iff_ne.mpr c104
           obtain rfl := Option.some.inj H
           have hnb174 := NB356_318.out
           have hnc174 := NB318_356.out
           have hnb175 := NB356_337.out
           have hnc175 := NB337_356.out
           have hnb176 := NB356_343.out
           have hnc176 := NB343_356.out
           have ⟨hcz177_0, hcz177_1, hcz177_2, hcz177_3, hcz177_4, hfz177_0, hfz177_1, hfz177_2, hfz177_3, hfz177_4⟩ := bc5 BK356
           go_wp2_with (first | ((with_reducible refine gate_callee (f := 25) rfl ?_); refine goesQ (some 64) Try.func25 #[.agg #[.int .i64 t344, .int .i64 t345, .slice Ao38 t346.length co38, .slice Ao39 t349.length co39, .slice Ao40 t352.length co40], .int .i64 1] ?_; (with_reducible refine (laws_markSession.calls kj63 t344 t345 (fun k_ => some k_ = (.slice Ao38 t346.length co38 : Value).ownBlock) (.slice Ao38 t346.length co38) t346 (fun k_ => some k_ = (.slice Ao39 t349.length co39 : Value).ownBlock) (.slice Ao39 t349.length co39) t349 (fun k_ => some k_ = (.slice Ao40 t352.length co40 : Value).ownBlock) (.slice Ao40 t352.length co40) t352 1 t367 t368 t369 t370 w _ ?s1 ?s2 ?s3 ?s4 ?s5 ?s6 A94.out).mono ?_); (case s1 => repeat (first | (with_reducible first | exact HB.out | apply below_alloc | apply pw_below_drewN | apply below_drew1 | refine below_set ?_ GE318.out | refine below_set ?_ GE337.out | refine below_set ?_ GE343.out | refine below_set ?_ GE356.out) | exact HB.out)); (case s2 => exact Kd.R_tight rfl HO_357002.out); (case s3 => exact Kd.R_tight rfl HO_357003.out); (case s4 => exact fun k_ e_ => (HO_357003.out.1 k_ e_.symm).2.2); (case s5 => exact Kd.R_tight rfl HO_357004.out); (case s6 => exact fun k_ e_ => (HO_357004.out.1 k_ e_.symm).2.2); rintro e w178 ⟨rfl, hy0, hy1, hy2, hb, hkp⟩; refine ⟨_, rfl, ?_⟩; replace HO_338002 := Aside0.mk (Kd.R_mono (ok' := fun k_ => some k_ ≠ (.slice Ao31 t365.length co31 : Value).ownBlock ∧ some k_ ≠ (.slice Ao38 t346.length co38 : Value).ownBlock) (Kd.R_keptB ((Kd.R_apart' (Kd.R_apart' HO_338002.out (Kd.R_typed HO_357003.out) (by decide)) (Kd.R_typed HO_357004.out) (by decide))) hkp (fun k_ hk_ hs_ => Or.elim hs_ (fun e_ => (hk_.1.1.2) e_) (fun e_ => Or.elim e_ (fun e_ => (hk_.1.2) e_) (fun e_ => (hk_.2) e_)))) (fun k_ hk_ => ⟨hk_.1.1.1.1, hk_.1.1.1.2⟩)); replace HO_344002 := Aside0.mk (Kd.R_mono (ok' := fun k_ => some k_ ≠ (.slice Ao22 t327.length co22 : Value).ownBlock ∧ some k_ ≠ (.slice Ao38 t346.length co38 : Value).ownBlock) (Kd.R_keptB ((Kd.R_apart' (Kd.R_apart' HO_344002.out (Kd.R_typed HO_357003.out) (by decide)) (Kd.R_typed HO_357004.out) (by decide))) hkp (fun k_ hk_ hs_ => Or.elim hs_ (fun e_ => (hk_.1.1.2) e_) (fun e_ => Or.elim e_ (fun e_ => (hk_.1.2) e_) (fun e_ => (hk_.2) e_)))) (fun k_ hk_ => ⟨hk_.1.1.1.1, hk_.1.1.1.2⟩)); replace BK318 := Aside0.mk (blk_kept (zq BK318) hkp (fun hs_ => Or.elim hs_ (fun e_ => (fun e_ => (Kd.R_ne HO_357002.out BK318.out (by decide)) e_) e_) (fun e_ => Or.elim e_ (fun e_ => (fun e_ => (Kd.R_ne HO_357003.out BK318.out (by decide)) e_) e_) (fun e_ => (fun e_ => (Kd.R_ne HO_357004.out BK318.out (by decide)) e_) e_)))); replace BK343 := Aside0.mk (blk_kept (zq BK343) hkp (fun hs_ => Or.elim hs_ (fun e_ => (fun e_ => (Kd.R_ne HO_357002.out BK343.out (by decide)) e_) e_) (fun e_ => Or.elim e_ (fun e_ => (fun e_ => (Kd.R_ne HO_357003.out BK343.out (by decide)) e_) e_) (fun e_ => (fun e_ => (Kd.R_ne HO_357004.out BK343.out (by decide)) e_) e_)))); replace BK356 := Aside0.mk (blk_kept (zq BK356) hkp (fun hs_ => Or.elim hs_ (fun e_ => (fun e_ => (Kd.R_ne HO_357002.out BK356.out (by decide)) e_) e_) (fun e_ => Or.elim e_ (fun e_ => (fun e_ => (Kd.R_ne HO_357003.out BK356.out (by decide)) e_) e_) (fun e_ => (fun e_ => (Kd.R_ne HO_357004.out BK356.out (by decide)) e_) e_)))); replace HO_357002 := Aside0.mk (Kd.R_reok rfl hy0 (fun k_ e_ => HO_357002.out.1 k_ e_)); replace HO_357003 := Aside0.mk (Kd.R_reok rfl hy1 (fun k_ e_ => HO_357003.out.1 k_ e_)); replace HO_357004 := Aside0.mk (Kd.R_reok rfl hy2 (fun k_ e_ => HO_357004.out.1 k_ e_)); replace HB := Aside0.mk (hb); (try clear hb hkp hy0 hy1 hy2); have ⟨hcz179_0, hcz179_1, hcz179_2, hcz179_3, hcz179_4, hfz179_0, hfz179_1, hfz179_2, hfz179_3, hfz179_4⟩ := bc5 BK356) | ((with_reducible refine gate_callee (f := 26) rfl ?_); refine goesL_ (some 67) rfl rfl Try.func26 (by kernel_rfl) rfl #[.agg #[.int .i64 t344, .int .i64 t345, .slice Ao38 t368.length co38, .slice Ao39 t369.length co39, .slice Ao40 t370.length co40], .int .i64 1] rfl (by (try simp only [List.map_toArray, List.map_cons, List.map_nil]); first | done | (rw [show t368.length = t346.length from (Kd.R_reads' HO_357002.out).1.symm, show t369.length = t349.length from (Kd.R_reads' HO_357003.out).1.symm, show t370.length = t352.length from (Kd.R_reads' HO_357004.out).1.symm] <;> rfl) | rfl | (simp only [List.length_drop, List.length_take]; rfl)) ?_; (with_reducible refine (laws_heldSession.calls kj63 t344 t345 _ _ t368 _ _ t369 _ _ t370 1 t371 _ ?s1 ?s2 ?s3 ?s4 ?s5 ?s6 A95.out).mono ?_); (case s1 => exact cr HO_357002); (case s2 => rw [show t368.length = t346.length from (Kd.R_reads' HO_357002.out).1.symm]; exact r1 HO_357002); (case s3 => exact cr HO_357003); (case s4 => rw [show t369.length = t349.length from (Kd.R_reads' HO_357003.out).1.symm]; exact r1 HO_357003); (case s5 => exact cr HO_357004); (case s6 => rw [show t370.length = t352.length from (Kd.R_reads' HO_357004.out).1.symm]; exact r1 HO_357004); rintro e w180 ⟨rfl, hb⟩; refine ⟨_, rfl, ?_⟩; replace HO_338002 := rb HO_338002 hb; replace HO_344002 := rb HO_344002 hb; replace HO_357002 := rb HO_357002 hb; replace BK318 := zb BK318 hb; replace BK343 := zb BK343 hb; replace HB := sb hb; (try clear hb)))
           go_ret
           exact ⟨eq_, bq⟩
     ·replace c62 := Bool.eq_false_iff.mpr c62
      subst c62
      rw [if_neg (show ¬ (false = true) by decide)] at H
      try dsimp only at H
      obtain rfl := Option.some.inj H
      try go_wp2
      replace HO_338002 := Aside0.mk (Kd.R_drew HO_338002.out)
      replace HO_344002 := Aside0.mk (Kd.R_drew HO_344002.out)
      replace HO_357002 := Aside0.mk (Kd.R_drew HO_357002.out)
      replace BK318 := Aside0.mk (blk_drew BK318.out)
      replace BK343 := Aside0.mk (blk_drew BK343.out)
      replace HB := Aside0.mk (below_drew1 HB.out)
      refine start_ (n := 5) (S := fun w' => w'.cell? ⟨gb343, 0, none⟩ = some (.int .i64 t338) ∧ w'.cell? ⟨gb343, 1, none⟩ = some (.int .i64 t339) ∧ w'.cell? ⟨gb343, 2, none⟩ = some (.slice Ao31 t340.length co31) ∧ w'.cell? ⟨gb318, 0, none⟩ = some (.int .i64 a0_0) ∧ w'.cell? ⟨gb318, 1, none⟩ = some (.int .i64 a0_1) ∧ w'.cell? ⟨gb318, 2, none⟩ = some (.slice A0_2 l0_2.length c0_2)) (ds := []) #[false, false, false, false, false] (by kernel_rfl) rfl rfl ⟨(blk_cell BK343.out 0).trans rfl, (blk_cell BK343.out 1).trans rfl, (blk_cell BK343.out 2).trans rfl, (blk_cell BK318.out 0).trans rfl, (blk_cell BK318.out 1).trans rfl, (blk_cell BK318.out 2).trans rfl⟩ (fun hHeld => ?_)
      generalize wc.drew = w181 at HO_338002 HO_344002 HO_357002 BK318 BK343 HB hHeld ⊢
      refine take_ (i := 0) (N := some 41) (v := ?_) (a' := ?_) #[true, false, false, false, false] rfl rfl (by kernel_rfl) (fun _ _ _ h => h) (Or.inl ⟨by rfl, ?_⟩) hHeld ?_ ?_
      rotate_left
      ·rintro w' ⟨s0, s1, s2, s3, s4, s5⟩
       go_simp
       with_reducible rfl
      rotate_left
      ·simp only [Act.put, List.setIfInBounds_toArray, List.set_cons_zero, List.set_cons_succ, i64_w, i32_w]
       rfl
      refine take_ (i := 1) (N := some 42) (v := ?_) (a' := ?_) #[true, true, false, false, false] rfl rfl (by kernel_rfl) (fun _ _ _ h => h) (Or.inl ⟨by rfl, ?_⟩) hHeld ?_ ?_
      rotate_left
      ·rintro w' ⟨s0, s1, s2, s3, s4, s5⟩
       go_simp
       with_reducible rfl
      rotate_left
      ·simp only [Act.put, List.setIfInBounds_toArray, List.set_cons_zero, List.set_cons_succ, i64_w, i32_w]
       rfl
      refine one_ (i := 2) (N := some 43) #[true, true, true, false, false] rfl rfl (by kernel_rfl) (by decide) (fun K hK => ?_)
      refine goes_ Try.func21 (by kernel_rfl) rfl #[.agg #[.int .i64 a0_0, .int .i64 a0_1, .slice A0_2 l0_2.length c0_2]] (by rfl) rfl rfl mq ?_
      with_reducible refine (laws_toBoard.calls kj10 a0_0 a0_1 _ _ l0_2 t358 t359 t360 _ ?s1 ?s2 A60.out).mono ?_
      (case s1 => exact cq (Kd.C_below HR0_2.out HB.out))
      (case s2 => exact HC0_2.out)
      rintro e w182 ⟨v361, rfl, ho0, hb⟩
      refine ⟨_, rfl, ?_⟩
      have HO362 := Aside0.mk (Kd.R_lower (Kd.R_new' (Kd.R_new' (Kd.R_new' ho0 (Kd.R_lt (rq HO_338002))) (Kd.R_lt (rq HO_344002))) (Kd.R_lt (rq HO_357002))) (below_size bq))
      replace HO_344002 := Aside0.mk (Kd.R_elder' (rq HO_344002) (Kd.R_base ho0) hb)
      replace BK318 := zb BK318 hb
      replace BK343 := zb BK343 hb
      replace HB := sb hb
      (try clear hb ho0)
      obtain ⟨Ao183, co183, eo183⟩ := Kd.R_slice HO362.out
      (first | subst eo183 | (injection eo183 with f1_ f2_ f3_; have f4_ := f1_.symm; have f5_ := f3_.symm; clear f1_ f2_ f3_; subst f4_; subst f5_))
      refine hK.out _ _ ⟨(blk_cell BK343.out 0).trans rfl, (blk_cell BK343.out 1).trans rfl, (blk_cell BK343.out 2).trans rfl, (blk_cell BK318.out 0).trans rfl, (blk_cell BK318.out 1).trans rfl, (blk_cell BK318.out 2).trans rfl⟩ (fun hHeld => ?_)
      clear hK K
      refine norm_ (a' := ?_) ?_ ?_
      rotate_left
      ·show Act.put _ (some 43) _ = _
       simp only [Act.put, List.setIfInBounds_toArray, List.set_cons_zero, List.set_cons_succ, i64_w, i32_w]
       rfl
      refine one_ (i := 3) (N := some 44) #[true, true, true, true, false] rfl rfl (by kernel_rfl) (by decide) (fun K hK => ?_)
      refine goes_ Try.func23 (by kernel_rfl) rfl #[.agg #[.int .i64 t338, .int .i64 t339, .slice Ao31 t340.length co31], .agg #[.int .i64 t358, .int .i64 t359, .slice Ao183 t360.length co183]] (by rfl) rfl rfl mq ?_
      with_reducible refine (laws_eqBoard.calls kj10 t338 t339 _ _ t340 t358 t359 _ _ t360 false _ ?s1 ?s2 ?s3 ?s4 A61.out).mono ?_
      (case s1 => exact cr HO_344002)
      (case s2 => exact r1 HO_344002)
      (case s3 => exact cr HO362)
      (case s4 => exact r1 HO362)
      rintro e w184 ⟨rfl, hb⟩
      refine ⟨_, rfl, ?_⟩
      replace BK318 := zb BK318 hb
      replace BK343 := zb BK343 hb
      replace HB := sb hb
      (try clear hb)
      refine hK.out _ _ ⟨(blk_cell BK343.out 0).trans rfl, (blk_cell BK343.out 1).trans rfl, (blk_cell BK343.out 2).trans rfl, (blk_cell BK318.out 0).trans rfl, (blk_cell BK318.out 1).trans rfl, (blk_cell BK318.out 2).trans rfl⟩ (fun hHeld => ?_)
      clear hK K
      refine norm_ (a' := ?_) ?_ ?_
      rotate_left
      ·show Act.put _ (some 44) _ = _
       simp only [Act.put, List.setIfInBounds_toArray, List.set_cons_zero, List.set_cons_succ, i64_w, i32_w]
       rfl
      refine pure_ (i := 4) (N := some 45) (v := ?_) (a' := ?_) #[true, true, true, true, true] rfl rfl (by kernel_rfl) (fun _ _ _ h => h) (Or.inl ⟨by rfl, ?_⟩) ?_ ?_
      rotate_left
      ·intro w'
       go_simp
       with_reducible rfl
      rotate_left
      ·simp only [Act.put, List.setIfInBounds_toArray, List.set_cons_zero, List.set_cons_succ, i64_w, i32_w]
       rfl
      refine done_ (by kernel_rfl) ?_
      try go_wp2
      go_ret
      exact ⟨eq_, bq⟩




end Go.Proofs.Ytkkgjljcgnegpaa.Pall
