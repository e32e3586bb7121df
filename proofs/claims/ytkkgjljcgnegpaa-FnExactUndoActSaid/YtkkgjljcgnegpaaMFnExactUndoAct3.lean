-- written by the kit's print program, put together by a program
import Derived.Test.YtkkgjljcgnegpaaMFnExactUndoAct2
namespace Go.Proofs.Ytkkgjljcgnegpaa.Pall
open Go.RowKit Go.Proofs.YtkkgjljcgnegpaaW.PrintWords Go.Proofs.YtkkgjljcgnegpaaW.PrintLast Go.Proofs.YtkkgjljcgnegpaaW.PrintMore
attribute [local go_sem] max2_int min2_int max_two min_two max_three min_three max_four min_four   -- for this text's walks alone
set_option linter.unusedVariables false
set_option linter.unusedSimpArgs false
/-! ### laws_FnExactUndoAct: function 7 -/
mutual
def laws_FnExactUndoAct.j0 : Nat → Bool → Bool → Bool → Int → Int → List (S54) → List (S56) → List (S56) → Int → Int → List (S58) → List (S60) → List (S60) → Int → Int → List (S58) → List (S60) → List (S60) → Int → Int → List (S58) → List (S60) → List (S60) → Option (Bool)
 | 0, _, _, _, _, _, _, _, _, _, _, _, _, _, _, _, _, _, _, _, _, _, _, _ => none
 | k + 1, x5, x8, x40, x569000, x569001, x569002, x569003, x569004, x594000, x594001, x594002, x594003, x594004, x606000, x606001, x606002, x606003, x606004, x619000, x619001, x619002, x619003, x619004 => if x40 = true then (some false) else ((laws_toSession.f k x569000 x569001 x569002 x569003 x569004).bind fun bt620 => ((laws_eqSession.f k x606000 x606001 x606002 x606003 x606004 bt620.1 bt620.2.1 bt620.2.2.1 bt620.2.2.2.1 bt620.2.2.2.2).bind fun t631 => (if t631 = true then ((laws_markSession.f k x606000 x606001 x606002 x606003 x606004 1).bind fun bt632 => (if bt632.1 < 0 then (laws_FnExactUndoAct.j1 k x5 true x569000 x569001 x569002 x569003 x569004 x594000 x594001 x594002 x594003 x594004 x619000 x619001 x619002 x619003 x619004) else ((laws_eqSession.f k x619000 x619001 x619002 x619003 x619004 x594000 x594001 x594002 x594003 x594004).bind fun t636 => (if t636 = true then (laws_FnExactUndoAct.j1 k x5 (x8 != x5) x569000 x569001 x569002 x569003 x569004 x594000 x594001 x594002 x594003 x594004 x619000 x619001 x619002 x619003 x619004) else (laws_FnExactUndoAct.j1 k x5 true x569000 x569001 x569002 x569003 x569004 x594000 x594001 x594002 x594003 x594004 x619000 x619001 x619002 x619003 x619004))))) else (some false))))
def laws_FnExactUndoAct.j1 : Nat → Bool → Bool → Int → Int → List (S54) → List (S56) → List (S56) → Int → Int → List (S58) → List (S60) → List (S60) → Int → Int → List (S58) → List (S60) → List (S60) → Option (Bool)
 | 0, _, _, _, _, _, _, _, _, _, _, _, _, _, _, _, _, _ => none
 | k + 1, x5, x61, x569000, x569001, x569002, x569003, x569004, x594000, x594001, x594002, x594003, x594004, x619000, x619001, x619002, x619003, x619004 => if x61 = true then (some false) else ((laws_markSession.f k x619000 x619001 x619002 x619003 x619004 1).bind fun bt637 => ((laws_heldSession.f k x619000 x619001 bt637.2.1 bt637.2.2.1 bt637.2.2.2 1).bind fun t641 => (if t641 < 0 then (some false) else (if t641 = bt637.1 then ((laws_toSession.f k x569000 x569001 x569002 x569003 x569004).bind fun bt642 => ((impl_UndoAct.f k bt642.1 bt642.2.1 bt642.2.2.1 bt642.2.2.2.1 bt642.2.2.2.2).bind fun bt653 => ((laws_eqSession.f k bt653.1 bt653.2.1 bt653.2.2.1 bt653.2.2.2.1 bt653.2.2.2.2.1 x594000 x594001 x594002 x594003 x594004).bind fun t666 => (if t666 = true then (laws_FnExactUndoAct.j2 k bt637.1 (bt653.2.2.2.2.2 != x5) x619000 x619001 bt637.2.1 bt637.2.2.1 bt637.2.2.2) else (laws_FnExactUndoAct.j2 k bt637.1 true x619000 x619001 bt637.2.1 bt637.2.2.1 bt637.2.2.2))))) else (some false)))))
def laws_FnExactUndoAct.j2 : Nat → Int → Bool → Int → Int → List (S58) → List (S60) → List (S60) → Option (Bool)
 | 0, _, _, _, _, _, _, _ => none
 | k + 1, x10, x87, x619000, x619001, x619002, x619003, x619004 => if x87 = true then (some false) else ((laws_heldSession.f k x619000 x619001 x619002 x619003 x619004 1).bind fun t667 => (if t667 < 0 then (some false) else (if t667 = x10 then (some true) else (some false))))
end
def laws_FnExactUndoAct.f (k : Nat) (a0_0 : Int) (a0_1 : Int) (l0_2 : List (S54)) (l0_3 : List (S56)) (l0_4 : List (S56)) : Option (Bool) := (laws_szSession.f a0_0 a0_1 l0_2 l0_3 l0_4 1048576).bind fun t569 => (if t569 < 0 then (some true) else ((laws_toSession.f k a0_0 a0_1 l0_2 l0_3 l0_4).bind fun bt570 => ((spec_UndoAct.f k bt570.1 bt570.2.1 bt570.2.2.1 bt570.2.2.2.1 bt570.2.2.2.2).bind fun bt581 => ((laws_toSession.f k a0_0 a0_1 l0_2 l0_3 l0_4).bind fun bt594 => ((impl_UndoAct.f k bt594.1 bt594.2.1 bt594.2.2.1 bt594.2.2.2.1 bt594.2.2.2.2).bind fun bt606 => ((laws_eqSession.f k bt606.1 bt606.2.1 bt606.2.2.1 bt606.2.2.2.1 bt606.2.2.2.2.1 bt581.1 bt581.2.1 bt581.2.2.1 bt581.2.2.2.1 bt581.2.2.2.2.1).bind fun t619 => (if t619 = true then (laws_FnExactUndoAct.j0 k bt581.2.2.2.2.2 bt606.2.2.2.2.2 (bt606.2.2.2.2.2 != bt581.2.2.2.2.2) a0_0 a0_1 l0_2 l0_3 l0_4 bt581.1 bt581.2.1 bt581.2.2.1 bt581.2.2.2.1 bt581.2.2.2.2.1 bt594.1 bt594.2.1 bt594.2.2.1 bt594.2.2.2.1 bt594.2.2.2.2 bt606.1 bt606.2.1 bt606.2.2.1 bt606.2.2.2.1 bt606.2.2.2.2.1) else (laws_FnExactUndoAct.j0 k bt581.2.2.2.2.2 bt606.2.2.2.2.2 true a0_0 a0_1 l0_2 l0_3 l0_4 bt581.1 bt581.2.1 bt581.2.2.1 bt581.2.2.2.1 bt581.2.2.2.2.1 bt594.1 bt594.2.1 bt594.2.2.1 bt594.2.2.2.1 bt594.2.2.2.2 bt606.1 bt606.2.1 bt606.2.2.1 bt606.2.2.2.1 bt606.2.2.2.2.1))))))))
theorem laws_FnExactUndoAct.mono_l : ∀ k, (∀ y0 y1 y2 y3 y4 y5 y6 y7 y8 y9 y10 y11 y12 y13 y14 y15 y16 y17 y18 y19 y20 y21 y22, LeO (laws_FnExactUndoAct.j0 k y0 y1 y2 y3 y4 y5 y6 y7 y8 y9 y10 y11 y12 y13 y14 y15 y16 y17 y18 y19 y20 y21 y22) (laws_FnExactUndoAct.j0 (k + 1) y0 y1 y2 y3 y4 y5 y6 y7 y8 y9 y10 y11 y12 y13 y14 y15 y16 y17 y18 y19 y20 y21 y22)) ∧ (∀ y0 y1 y2 y3 y4 y5 y6 y7 y8 y9 y10 y11 y12 y13 y14 y15 y16, LeO (laws_FnExactUndoAct.j1 k y0 y1 y2 y3 y4 y5 y6 y7 y8 y9 y10 y11 y12 y13 y14 y15 y16) (laws_FnExactUndoAct.j1 (k + 1) y0 y1 y2 y3 y4 y5 y6 y7 y8 y9 y10 y11 y12 y13 y14 y15 y16)) ∧ (∀ y0 y1 y2 y3 y4 y5 y6, LeO (laws_FnExactUndoAct.j2 k y0 y1 y2 y3 y4 y5 y6) (laws_FnExactUndoAct.j2 (k + 1) y0 y1 y2 y3 y4 y5 y6))
 | 0 => ⟨fun _ _ _ _ _ _ _ _ _ _ _ _ _ _ _ _ _ _ _ _ _ _ _ r h => by simp [laws_FnExactUndoAct.j0] at h, fun _ _ _ _ _ _ _ _ _ _ _ _ _ _ _ _ _ r h => by simp [laws_FnExactUndoAct.j1] at h, fun _ _ _ _ _ _ _ r h => by simp [laws_FnExactUndoAct.j2] at h⟩
 | k + 1 => by
  obtain ⟨ih0, ih1, ih2⟩ := laws_FnExactUndoAct.mono_l k
  refine ⟨?_, ?_, ?_⟩
  ·intro y0 y1 y2 y3 y4 y5 y6 y7 y8 y9 y10 y11 y12 y13 y14 y15 y16 y17 y18 y19 y20 y21 y22
   unfold laws_FnExactUndoAct.j0
   repeat' first
   | (with_reducible exact ih0 _ _ _ _ _ _ _ _ _ _ _ _ _ _ _ _ _ _ _ _ _ _ _)
   | (with_reducible exact ih1 _ _ _ _ _ _ _ _ _ _ _ _ _ _ _ _ _)
   | (with_reducible exact ih2 _ _ _ _ _ _ _)
   | (with_reducible exact impl_UndoAct.mono _ _ _ _ _ _)
   | (with_reducible exact laws_eqSession.mono _ _ _ _ _ _ _ _ _ _ _)
   | (with_reducible exact laws_heldSession.mono _ _ _ _ _ _ _)
   | (with_reducible exact laws_markSession.mono _ _ _ _ _ _ _)
   | (with_reducible exact laws_toSession.mono _ _ _ _ _ _)
   | (with_reducible exact spec_UndoAct.mono _ _ _ _ _ _)
   | (with_reducible exact LeO.refl _)
   | (with_reducible exact LeO.none _)
   | (with_reducible refine LeO.ite ?_ ?_)
   | (with_reducible refine LeO.bind ?_ (fun _ => ?_))
   | exact ih0 _ _ _ _ _ _ _ _ _ _ _ _ _ _ _ _ _ _ _ _ _ _ _
   | exact ih1 _ _ _ _ _ _ _ _ _ _ _ _ _ _ _ _ _
   | exact ih2 _ _ _ _ _ _ _
   | exact impl_UndoAct.mono _ _ _ _ _ _
   | exact laws_eqSession.mono _ _ _ _ _ _ _ _ _ _ _
   | exact laws_heldSession.mono _ _ _ _ _ _ _
   | exact laws_markSession.mono _ _ _ _ _ _ _
   | exact laws_toSession.mono _ _ _ _ _ _
   | exact spec_UndoAct.mono _ _ _ _ _ _
   | exact LeO.none _
   | refine LeO.ite ?_ ?_
   | refine LeO.bind ?_ (fun _ => ?_)
  ·intro y0 y1 y2 y3 y4 y5 y6 y7 y8 y9 y10 y11 y12 y13 y14 y15 y16
   unfold laws_FnExactUndoAct.j1
   repeat' first
   | (with_reducible exact ih0 _ _ _ _ _ _ _ _ _ _ _ _ _ _ _ _ _ _ _ _ _ _ _)
   | (with_reducible exact ih1 _ _ _ _ _ _ _ _ _ _ _ _ _ _ _ _ _)
   | (with_reducible exact ih2 _ _ _ _ _ _ _)
   | (with_reducible exact impl_UndoAct.mono _ _ _ _ _ _)
   | (with_reducible exact laws_eqSession.mono _ _ _ _ _ _ _ _ _ _ _)
   | (with_reducible exact laws_heldSession.mono _ _ _ _ _ _ _)
   | (with_reducible exact laws_markSession.mono _ _ _ _ _ _ _)
   | (with_reducible exact laws_toSession.mono _ _ _ _ _ _)
   | (with_reducible exact spec_UndoAct.mono _ _ _ _ _ _)
   | (with_reducible exact LeO.refl _)
   | (with_reducible exact LeO.none _)
   | (with_reducible refine LeO.ite ?_ ?_)
   | (with_reducible refine LeO.bind ?_ (fun _ => ?_))
   | exact ih0 _ _ _ _ _ _ _ _ _ _ _ _ _ _ _ _ _ _ _ _ _ _ _
   | exact ih1 _ _ _ _ _ _ _ _ _ _ _ _ _ _ _ _ _
   | exact ih2 _ _ _ _ _ _ _
   | exact impl_UndoAct.mono _ _ _ _ _ _
   | exact laws_eqSession.mono _ _ _ _ _ _ _ _ _ _ _
   | exact laws_heldSession.mono _ _ _ _ _ _ _
   | exact laws_markSession.mono _ _ _ _ _ _ _
   | exact laws_toSession.mono _ _ _ _ _ _
   | exact spec_UndoAct.mono _ _ _ _ _ _
   | exact LeO.none _
   | refine LeO.ite ?_ ?_
   | refine LeO.bind ?_ (fun _ => ?_)
  ·intro y0 y1 y2 y3 y4 y5 y6
   unfold laws_FnExactUndoAct.j2
   repeat' first
   | (with_reducible exact ih0 _ _ _ _ _ _ _ _ _ _ _ _ _ _ _ _ _ _ _ _ _ _ _)
   | (with_reducible exact ih1 _ _ _ _ _ _ _ _ _ _ _ _ _ _ _ _ _)
   | (with_reducible exact ih2 _ _ _ _ _ _ _)
   | (with_reducible exact impl_UndoAct.mono _ _ _ _ _ _)
   | (with_reducible exact laws_eqSession.mono _ _ _ _ _ _ _ _ _ _ _)
   | (with_reducible exact laws_heldSession.mono _ _ _ _ _ _ _)
   | (with_reducible exact laws_markSession.mono _ _ _ _ _ _ _)
   | (with_reducible exact laws_toSession.mono _ _ _ _ _ _)
   | (with_reducible exact spec_UndoAct.mono _ _ _ _ _ _)
   | (with_reducible exact LeO.refl _)
   | (with_reducible exact LeO.none _)
   | (with_reducible refine LeO.ite ?_ ?_)
   | (with_reducible refine LeO.bind ?_ (fun _ => ?_))
   | exact ih0 _ _ _ _ _ _ _ _ _ _ _ _ _ _ _ _ _ _ _ _ _ _ _
   | exact ih1 _ _ _ _ _ _ _ _ _ _ _ _ _ _ _ _ _
   | exact ih2 _ _ _ _ _ _ _
   | exact impl_UndoAct.mono _ _ _ _ _ _
   | exact laws_eqSession.mono _ _ _ _ _ _ _ _ _ _ _
   | exact laws_heldSession.mono _ _ _ _ _ _ _
   | exact laws_markSession.mono _ _ _ _ _ _ _
   | exact laws_toSession.mono _ _ _ _ _ _
   | exact spec_UndoAct.mono _ _ _ _ _ _
   | exact LeO.none _
   | refine LeO.ite ?_ ?_
   | refine LeO.bind ?_ (fun _ => ?_)
theorem laws_FnExactUndoAct.mono : ∀ a0 a1 a2 a3 a4 k, LeO (laws_FnExactUndoAct.f k a0 a1 a2 a3 a4) (laws_FnExactUndoAct.f (k + 1) a0 a1 a2 a3 a4) := by
 intro a0 a1 a2 a3 a4 k
 obtain ⟨ih0, ih1, ih2⟩ := laws_FnExactUndoAct.mono_l k
 unfold laws_FnExactUndoAct.f
 repeat' first
   | (with_reducible exact ih0 _ _ _ _ _ _ _ _ _ _ _ _ _ _ _ _ _ _ _ _ _ _ _)
   | (with_reducible exact ih1 _ _ _ _ _ _ _ _ _ _ _ _ _ _ _ _ _)
   | (with_reducible exact ih2 _ _ _ _ _ _ _)
   | (with_reducible exact impl_UndoAct.mono _ _ _ _ _ _)
   | (with_reducible exact laws_eqSession.mono _ _ _ _ _ _ _ _ _ _ _)
   | (with_reducible exact laws_heldSession.mono _ _ _ _ _ _ _)
   | (with_reducible exact laws_markSession.mono _ _ _ _ _ _ _)
   | (with_reducible exact laws_toSession.mono _ _ _ _ _ _)
   | (with_reducible exact spec_UndoAct.mono _ _ _ _ _ _)
   | (with_reducible exact LeO.refl _)
   | (with_reducible exact LeO.none _)
   | (with_reducible refine LeO.ite ?_ ?_)
   | (with_reducible refine LeO.bind ?_ (fun _ => ?_))
   | exact ih0 _ _ _ _ _ _ _ _ _ _ _ _ _ _ _ _ _ _ _ _ _ _ _
   | exact ih1 _ _ _ _ _ _ _ _ _ _ _ _ _ _ _ _ _
   | exact ih2 _ _ _ _ _ _ _
   | exact impl_UndoAct.mono _ _ _ _ _ _
   | exact laws_eqSession.mono _ _ _ _ _ _ _ _ _ _ _
   | exact laws_heldSession.mono _ _ _ _ _ _ _
   | exact laws_markSession.mono _ _ _ _ _ _ _
   | exact laws_toSession.mono _ _ _ _ _ _
   | exact spec_UndoAct.mono _ _ _ _ _ _
   | exact LeO.none _
   | refine LeO.ite ?_ ?_
   | refine LeO.bind ?_ (fun _ => ?_)
set_option maxHeartbeats 8000000 in
set_option maxRecDepth 100000 in
theorem laws_FnExactUndoAct.calls (k : Nat) (a0_0 : Int) (a0_1 : Int) (A0_2 : Option Addr) (c0_2 : Nat) (l0_2 : List (S54)) (A0_3 : Option Addr) (c0_3 : Nat) (l0_3 : List (S56)) (A0_4 : Option Addr) (c0_4 : Nat) (l0_4 : List (S56)) (r : Bool) (w : World) (hr0_2 : Kd.C k54 w A0_2 l0_2.length l0_2) (hc0_2 : l0_2.length ≤ c0_2) (hr0_3 : Kd.C k56 w A0_3 l0_3.length l0_3) (hc0_3 : l0_3.length ≤ c0_3) (hr0_4 : Kd.C k56 w A0_4 l0_4.length l0_4) (hc0_4 : l0_4.length ≤ c0_4) (h : laws_FnExactUndoAct.f k a0_0 a0_1 l0_2 l0_3 l0_4 = some r) :
  Calls Try.prog 7 #[.agg #[.int .i64 a0_0, .int .i64 a0_1, .slice A0_2 l0_2.length c0_2, .slice A0_3 l0_3.length c0_3, .slice A0_4 l0_4.length c0_4]] w fun e w' => e = .returned (.bool r) ∧ Below w.heap.size w w' := by
 have hu27 := Try.underlying27
 have hu35 := Try.underlying35
 have HR0_2 := Aside0.mk hr0_2
 have HC0_2 := Aside0.mk hc0_2
 clear hr0_2 hc0_2
 have HR0_3 := Aside0.mk hr0_3
 have HC0_3 := Aside0.mk hc0_3
 clear hr0_3 hc0_3
 have HR0_4 := Aside0.mk hr0_4
 have HC0_4 := Aside0.mk hc0_4
 clear hr0_4 hc0_4
 have HB := Aside0.mk (Below.refl w.heap.size w)
 have H : ((laws_szSession.f a0_0 a0_1 l0_2 l0_3 l0_4 1048576).bind fun t569 => (if t569 < 0 then (some true) else ((laws_toSession.f k a0_0 a0_1 l0_2 l0_3 l0_4).bind fun bt570 => ((spec_UndoAct.f k bt570.1 bt570.2.1 bt570.2.2.1 bt570.2.2.2.1 bt570.2.2.2.2).bind fun bt581 => ((laws_toSession.f k a0_0 a0_1 l0_2 l0_3 l0_4).bind fun bt594 => ((impl_UndoAct.f k bt594.1 bt594.2.1 bt594.2.2.1 bt594.2.2.2.1 bt594.2.2.2.2).bind fun bt606 => ((laws_eqSession.f k bt606.1 bt606.2.1 bt606.2.2.1 bt606.2.2.2.1 bt606.2.2.2.2.1 bt581.1 bt581.2.1 bt581.2.2.1 bt581.2.2.2.1 bt581.2.2.2.2.1).bind fun t619 => (if t619 = true then (laws_FnExactUndoAct.j0 k bt581.2.2.2.2.2 bt606.2.2.2.2.2 (bt606.2.2.2.2.2 != bt581.2.2.2.2.2) a0_0 a0_1 l0_2 l0_3 l0_4 bt581.1 bt581.2.1 bt581.2.2.1 bt581.2.2.2.1 bt581.2.2.2.2.1 bt594.1 bt594.2.1 bt594.2.2.1 bt594.2.2.2.1 bt594.2.2.2.2 bt606.1 bt606.2.1 bt606.2.2.1 bt606.2.2.2.1 bt606.2.2.2.2.1) else (laws_FnExactUndoAct.j0 k bt581.2.2.2.2.2 bt606.2.2.2.2.2 true a0_0 a0_1 l0_2 l0_3 l0_4 bt581.1 bt581.2.1 bt581.2.2.1 bt581.2.2.2.1 bt581.2.2.2.2.1 bt594.1 bt594.2.1 bt594.2.2.1 bt594.2.2.2.1 bt594.2.2.2.2 bt606.1 bt606.2.1 bt606.2.2.1 bt606.2.2.2.1 bt606.2.2.2.2.1))))))))) = some r := h
 clear h
 obtain ⟨t569, A2, H⟩ := bindq H
 try dsimp only at H
 by_cases c3 : t569 < 0
 ·rw [if_pos c3] at H
  have c3b0 : decide (t569 < 0) = true := decide_eq_true c3
  clear c3
  obtain rfl := Option.some.inj H
  go_enter Try.func7, Try.ntmps7
  go_wp2_with (first | ((with_reducible refine gate_dst (N := 1) rfl ?_); refine box_event ?hg (N := 1) ?hd (cs := #[.int .i64 a0_0, .int .i64 a0_1, .slice A0_2 l0_2.length c0_2, .slice A0_3 l0_3.length c0_3, .slice A0_4 l0_4.length c0_4]) (t := 27) ?hr ?_; (case hd => rfl); (case hg => rfl); (case hr => first | (go_simp; done) | (go_simp; rfl)); intro gb568 hg w4 hbox hb; have BK568 := Aside0.mk (hbox); have GE568 := Aside0.mk (gq hg); replace HB := sb hb; clear hb hbox hg; have ⟨hcz5_0, hcz5_1, hcz5_2, hcz5_3, hcz5_4, hfz5_0, hfz5_1, hfz5_2, hfz5_3, hfz5_4⟩ := bc5 BK568) | ((with_reducible refine gate_callee (f := 14) rfl ?_); refine goesQ (some 16) Try.func14 #[.agg #[.int .i64 a0_0, .int .i64 a0_1, .slice A0_2 l0_2.length c0_2, .slice A0_3 l0_3.length c0_3, .slice A0_4 l0_4.length c0_4], .int .i64 1048576] ?_; (with_reducible refine (laws_szSession.calls a0_0 a0_1 _ _ l0_2 _ _ l0_3 _ _ l0_4 1048576 t569 _ ?s1 ?s2 ?s3 ?s4 ?s5 ?s6 A2.out).mono ?_); (case s1 => exact cq (Kd.C_below HR0_2.out HB.out)); (case s2 => exact HC0_2.out); (case s3 => exact cq (Kd.C_below HR0_3.out HB.out)); (case s4 => exact HC0_3.out); (case s5 => exact cq (Kd.C_below HR0_4.out HB.out)); (case s6 => exact HC0_4.out); rintro e w6 ⟨rfl, hb⟩; refine ⟨_, rfl, ?_⟩; replace BK568 := zb BK568 hb; replace HB := sb hb; (try clear hb)))
  go_ret
  exact ⟨eq_, bq⟩
 ·rw [if_neg c3] at H
  have c3b0 : decide (t569 < 0) = false := decide_eq_false c3
  clear c3
  obtain ⟨⟨t570, t571, t572, t575, t578⟩, A7, H⟩ := bindq H
  try dsimp only at H
  obtain ⟨⟨t581, t582, t583, t586, t589, t592⟩, A8, H⟩ := bindq H
  try dsimp only at H
  obtain ⟨⟨t594, t595, t596, t599, t602⟩, A9, H⟩ := bindq H
  try dsimp only at H
  obtain ⟨⟨t606, t607, t608, t611, t614, t617⟩, A10, H⟩ := bindq H
  try dsimp only at H
  have HC11 := Aside0.mk H
  clear H
  go_enter Try.func7, Try.ntmps7
  go_upto_region 8 with (first | ((with_reducible refine gate_dst (N := 1) rfl ?_); refine box_event ?hg (N := 1) ?hd (cs := #[.int .i64 a0_0, .int .i64 a0_1, .slice A0_2 l0_2.length c0_2, .slice A0_3 l0_3.length c0_3, .slice A0_4 l0_4.length c0_4]) (t := 27) ?hr ?_; (case hd => rfl); (case hg => rfl); (case hr => first | (go_simp; done) | (go_simp; rfl)); intro gb568 hg w12 hbox hb; have BK568 := Aside0.mk (hbox); have GE568 := Aside0.mk (gq hg); replace HB := sb hb; clear hb hbox hg; have ⟨hcz13_0, hcz13_1, hcz13_2, hcz13_3, hcz13_4, hfz13_0, hfz13_1, hfz13_2, hfz13_3, hfz13_4⟩ := bc5 BK568) | ((with_reducible refine gate_callee (f := 14) rfl ?_); refine goesQ (some 16) Try.func14 #[.agg #[.int .i64 a0_0, .int .i64 a0_1, .slice A0_2 l0_2.length c0_2, .slice A0_3 l0_3.length c0_3, .slice A0_4 l0_4.length c0_4], .int .i64 1048576] ?_; (with_reducible refine (laws_szSession.calls a0_0 a0_1 _ _ l0_2 _ _ l0_3 _ _ l0_4 1048576 t569 _ ?s1 ?s2 ?s3 ?s4 ?s5 ?s6 A2.out).mono ?_); (case s1 => exact cq (Kd.C_below HR0_2.out HB.out)); (case s2 => exact HC0_2.out); (case s3 => exact cq (Kd.C_below HR0_3.out HB.out)); (case s4 => exact HC0_3.out); (case s5 => exact cq (Kd.C_below HR0_4.out HB.out)); (case s6 => exact HC0_4.out); rintro e w14 ⟨rfl, hb⟩; refine ⟨_, rfl, ?_⟩; replace BK568 := zb BK568 hb; replace HB := sb hb; (try clear hb); have ⟨hcz15_0, hcz15_1, hcz15_2, hcz15_3, hcz15_4, hfz15_0, hfz15_1, hfz15_2, hfz15_3, hfz15_4⟩ := bc5 BK568) | ((with_reducible refine gate_callee (f := 16) rfl ?_); refine goesQ (some 21) Try.func16 #[.agg #[.int .i64 a0_0, .int .i64 a0_1, .slice A0_2 l0_2.length c0_2, .slice A0_3 l0_3.length c0_3, .slice A0_4 l0_4.length c0_4]] ?_; (with_reducible refine (laws_toSession.calls k a0_0 a0_1 _ _ l0_2 _ _ l0_3 _ _ l0_4 t570 t571 t572 t575 t578 _ ?s1 ?s2 ?s3 ?s4 ?s5 ?s6 A7.out).mono ?_); (case s1 => exact cq (Kd.C_below HR0_2.out HB.out)); (case s2 => exact HC0_2.out); (case s3 => exact cq (Kd.C_below HR0_3.out HB.out)); (case s4 => exact HC0_3.out); (case s5 => exact cq (Kd.C_below HR0_4.out HB.out)); (case s6 => exact HC0_4.out); rintro e w16 ⟨v573, v576, v579, rfl, ho0, ho1, ho2, hb⟩; refine ⟨_, rfl, ?_⟩; have HO574 := rl ho0; have HO577 := rl ho1; have HO580 := rl ho2; replace BK568 := zb BK568 hb; replace HB := sb hb; (try clear hb ho0 ho1 ho2); obtain ⟨Ao17, co17, eo17⟩ := Kd.R_slice HO574.out; subst eo17; obtain ⟨Ao18, co18, eo18⟩ := Kd.R_slice HO577.out; subst eo18; obtain ⟨Ao19, co19, eo19⟩ := Kd.R_slice HO580.out; subst eo19) | ((with_reducible refine gate_callee (f := 34) rfl ?_); refine goesQ (some 22) Try.func34 #[.agg #[.int .i64 t570, .int .i64 t571, .slice Ao17 t572.length co17, .slice Ao18 t575.length co18, .slice Ao19 t578.length co19]] ?_; (with_reducible refine (spec_UndoAct.calls k t570 t571 _ _ t572 _ _ t575 _ _ t578 t581 t582 t583 t586 t589 t592 _ ?s1 ?s2 ?s3 ?s4 ?s5 ?s6 A8.out).mono ?_); (case s1 => exact cr HO574); (case s2 => exact r1 HO574); (case s3 => exact cr HO577); (case s4 => exact r1 HO577); (case s5 => exact cr HO580); (case s6 => exact r1 HO580); rintro e w20 ⟨v584, v587, v590, rfl, ho0, ho1, ho2, hb⟩; refine ⟨_, rfl, ?_⟩; have HO585 := Aside0.mk (Kd.R_lower (Kd.R_new' ho0 (Kd.R_lt (rq HO574))) (below_size bq)); replace HO574 := Aside0.mk (Kd.R_elder' (rq HO574) (Kd.R_base ho0) hb); have HO588 := Aside0.mk (Kd.R_lower (Kd.R_new' (Kd.R_new' ho1 (Kd.R_lt (rq HO577))) (Kd.R_lt (rq HO580))) (below_size bq)); have HO591 := Aside0.mk (Kd.R_lower (Kd.R_new' (Kd.R_new' ho2 (Kd.R_lt (rq HO577))) (Kd.R_lt (rq HO580))) (below_size bq)); replace HO577 := Aside0.mk (Kd.R_mono (Kd.R_told (Kd.R_told (Kd.R_old (rq HO577) hb) (Kd.R_base ho1)) (Kd.R_base ho2)) (fun _ h_ => h_.1)); replace HO580 := Aside0.mk (Kd.R_mono (Kd.R_told (Kd.R_told (Kd.R_old (rq HO580) hb) (Kd.R_base ho1)) (Kd.R_base ho2)) (fun _ h_ => h_.1)); replace BK568 := zb BK568 hb; replace HB := sb hb; (try clear hb ho0 ho1 ho2)) | ((with_reducible refine gate_dst (N := 4) rfl ?_); refine box_event ?hg (N := 4) ?hd (cs := #[.int .i64 0, .int .i64 0, .slice none 0 0, .slice none 0 0, .slice none 0 0]) (t := 35) ?hr ?_; (case hd => rfl); (case hg => rfl); (case hr => first | (go_simp; done) | (go_simp; rfl)); intro gb593 hg w21 hbox hb; replace HO574 := rb HO574 hb; replace HO577 := rb HO577 hb; replace HO580 := rb HO580 hb; replace HO585 := rb HO585 hb; replace HO588 := rb HO588 hb; replace HO591 := rb HO591 hb; have BK593 := Aside0.mk (hbox); have GE593 := Aside0.mk (gq hg); replace HB := sb hb; have NB568_593 := nl hg BK568; have NB593_568 := ng hg BK568; replace BK568 := zb BK568 hb; clear hb hbox hg; have hnb22 := NB593_568.out; have hnc22 := NB568_593.out; have ⟨hcz23_0, hcz23_1, hcz23_2, hcz23_3, hcz23_4, hfz23_0, hfz23_1, hfz23_2, hfz23_3, hfz23_4⟩ := bc5 BK593; obtain ⟨Ao24, co24, eo24⟩ := Kd.R_slice HO585.out; subst eo24; obtain ⟨Ao25, co25, eo25⟩ := Kd.R_slice HO588.out; subst eo25; obtain ⟨Ao26, co26, eo26⟩ := Kd.R_slice HO591.out; subst eo26; have ⟨hcz27_0, hcz27_1, hcz27_2, hcz27_3, hcz27_4, hfz27_0, hfz27_1, hfz27_2, hfz27_3, hfz27_4⟩ := bc5 BK568) | ((with_reducible refine gate_callee (f := 16) rfl ?_); refine goesQ (some 26) Try.func16 #[.agg #[.int .i64 a0_0, .int .i64 a0_1, .slice A0_2 l0_2.length c0_2, .slice A0_3 l0_3.length c0_3, .slice A0_4 l0_4.length c0_4]] ?_; (with_reducible refine (laws_toSession.calls k a0_0 a0_1 _ _ l0_2 _ _ l0_3 _ _ l0_4 t594 t595 t596 t599 t602 _ ?s1 ?s2 ?s3 ?s4 ?s5 ?s6 A9.out).mono ?_); (case s1 => exact Kd.C_below HR0_2.out bq); (case s2 => exact HC0_2.out); (case s3 => exact Kd.C_below HR0_3.out bq); (case s4 => exact HC0_3.out); (case s5 => exact Kd.C_below HR0_4.out bq); (case s6 => exact HC0_4.out); rintro e w28 ⟨v597, v600, v603, rfl, ho0, ho1, ho2, hb⟩; refine ⟨_, rfl, ?_⟩; have HO598 := Aside0.mk (Kd.R_lower (Kd.R_new' (Kd.R_new' ho0 (Kd.R_lt (by (with_reducible repeat (first | apply Kd.R_alloc | apply Kd.R_drewN | apply Kd.R_drew)); exact (Kd.R_mono (Kd.R_far (p := ⟨gb593, 4, none⟩) (Kd.R_far (p := ⟨gb593, 3, none⟩) (Kd.R_far (p := ⟨gb593, 2, none⟩) (Kd.R_far (p := ⟨gb593, 1, none⟩) (Kd.R_far (p := ⟨gb593, 0, none⟩) (Kd.R_types HO574.out BK593.out (by decide)) (fun _ hk => hk.2) (.int .i64 t581)) (fun _ hk => hk.2) (.int .i64 t582)) (fun _ hk => hk.2) (.slice Ao24 t583.length co24)) (fun _ hk => hk.2) (.slice Ao25 t586.length co25)) (fun _ hk => hk.2) (.slice Ao26 t589.length co26)) (fun _ h_ => h_.1))))) (Kd.R_lt (by (with_reducible repeat (first | apply Kd.R_alloc | apply Kd.R_drewN | apply Kd.R_drew)); exact (Kd.R_mono (Kd.R_far (p := ⟨gb593, 4, none⟩) (Kd.R_far (p := ⟨gb593, 3, none⟩) (Kd.R_far (p := ⟨gb593, 2, none⟩) (Kd.R_far (p := ⟨gb593, 1, none⟩) (Kd.R_far (p := ⟨gb593, 0, none⟩) (Kd.R_types HO585.out BK593.out (by decide)) (fun _ hk => hk.2) (.int .i64 t581)) (fun _ hk => hk.2) (.int .i64 t582)) (fun _ hk => hk.2) (.slice Ao24 t583.length co24)) (fun _ hk => hk.2) (.slice Ao25 t586.length co25)) (fun _ hk => hk.2) (.slice Ao26 t589.length co26)) (fun _ h_ => h_.1))))) (below_size bq)); replace HO574 := Aside0.mk (Kd.R_elder' (by (with_reducible repeat (first | apply Kd.R_alloc | apply Kd.R_drewN | apply Kd.R_drew)); exact (Kd.R_mono (Kd.R_far (p := ⟨gb593, 4, none⟩) (Kd.R_far (p := ⟨gb593, 3, none⟩) (Kd.R_far (p := ⟨gb593, 2, none⟩) (Kd.R_far (p := ⟨gb593, 1, none⟩) (Kd.R_far (p := ⟨gb593, 0, none⟩) (Kd.R_types HO574.out BK593.out (by decide)) (fun _ hk => hk.2) (.int .i64 t581)) (fun _ hk => hk.2) (.int .i64 t582)) (fun _ hk => hk.2) (.slice Ao24 t583.length co24)) (fun _ hk => hk.2) (.slice Ao25 t586.length co25)) (fun _ hk => hk.2) (.slice Ao26 t589.length co26)) (fun _ h_ => h_.1))) (Kd.R_base ho0) hb); replace HO585 := Aside0.mk (Kd.R_elder' (by (with_reducible repeat (first | apply Kd.R_alloc | apply Kd.R_drewN | apply Kd.R_drew)); exact (Kd.R_mono (Kd.R_far (p := ⟨gb593, 4, none⟩) (Kd.R_far (p := ⟨gb593, 3, none⟩) (Kd.R_far (p := ⟨gb593, 2, none⟩) (Kd.R_far (p := ⟨gb593, 1, none⟩) (Kd.R_far (p := ⟨gb593, 0, none⟩) (Kd.R_types HO585.out BK593.out (by decide)) (fun _ hk => hk.2) (.int .i64 t581)) (fun _ hk => hk.2) (.int .i64 t582)) (fun _ hk => hk.2) (.slice Ao24 t583.length co24)) (fun _ hk => hk.2) (.slice Ao25 t586.length co25)) (fun _ hk => hk.2) (.slice Ao26 t589.length co26)) (fun _ h_ => h_.1))) (Kd.R_base ho0) hb); have HO601 := Aside0.mk (Kd.R_lower (Kd.R_new' (Kd.R_new' (Kd.R_new' (Kd.R_new' ho1 (Kd.R_lt (by (with_reducible repeat (first | apply Kd.R_alloc | apply Kd.R_drewN | apply Kd.R_drew)); exact (Kd.R_mono (Kd.R_far (p := ⟨gb593, 4, none⟩) (Kd.R_far (p := ⟨gb593, 3, none⟩) (Kd.R_far (p := ⟨gb593, 2, none⟩) (Kd.R_far (p := ⟨gb593, 1, none⟩) (Kd.R_far (p := ⟨gb593, 0, none⟩) (Kd.R_types HO577.out BK593.out (by decide)) (fun _ hk => hk.2) (.int .i64 t581)) (fun _ hk => hk.2) (.int .i64 t582)) (fun _ hk => hk.2) (.slice Ao24 t583.length co24)) (fun _ hk => hk.2) (.slice Ao25 t586.length co25)) (fun _ hk => hk.2) (.slice Ao26 t589.length co26)) (fun _ h_ => h_.1))))) (Kd.R_lt (by (with_reducible repeat (first | apply Kd.R_alloc | apply Kd.R_drewN | apply Kd.R_drew)); exact (Kd.R_mono (Kd.R_far (p := ⟨gb593, 4, none⟩) (Kd.R_far (p := ⟨gb593, 3, none⟩) (Kd.R_far (p := ⟨gb593, 2, none⟩) (Kd.R_far (p := ⟨gb593, 1, none⟩) (Kd.R_far (p := ⟨gb593, 0, none⟩) (Kd.R_types HO580.out BK593.out (by decide)) (fun _ hk => hk.2) (.int .i64 t581)) (fun _ hk => hk.2) (.int .i64 t582)) (fun _ hk => hk.2) (.slice Ao24 t583.length co24)) (fun _ hk => hk.2) (.slice Ao25 t586.length co25)) (fun _ hk => hk.2) (.slice Ao26 t589.length co26)) (fun _ h_ => h_.1))))) (Kd.R_lt (by (with_reducible repeat (first | apply Kd.R_alloc | apply Kd.R_drewN | apply Kd.R_drew)); exact (Kd.R_mono (Kd.R_far (p := ⟨gb593, 4, none⟩) (Kd.R_far (p := ⟨gb593, 3, none⟩) (Kd.R_far (p := ⟨gb593, 2, none⟩) (Kd.R_far (p := ⟨gb593, 1, none⟩) (Kd.R_far (p := ⟨gb593, 0, none⟩) (Kd.R_types HO588.out BK593.out (by decide)) (fun _ hk => hk.2) (.int .i64 t581)) (fun _ hk => hk.2) (.int .i64 t582)) (fun _ hk => hk.2) (.slice Ao24 t583.length co24)) (fun _ hk => hk.2) (.slice Ao25 t586.length co25)) (fun _ hk => hk.2) (.slice Ao26 t589.length co26)) (fun _ h_ => h_.1))))) (Kd.R_lt (by (with_reducible repeat (first | apply Kd.R_alloc | apply Kd.R_drewN | apply Kd.R_drew)); exact (Kd.R_mono (Kd.R_far (p := ⟨gb593, 4, none⟩) (Kd.R_far (p := ⟨gb593, 3, none⟩) (Kd.R_far (p := ⟨gb593, 2, none⟩) (Kd.R_far (p := ⟨gb593, 1, none⟩) (Kd.R_far (p := ⟨gb593, 0, none⟩) (Kd.R_types HO591.out BK593.out (by decide)) (fun _ hk => hk.2) (.int .i64 t581)) (fun _ hk => hk.2) (.int .i64 t582)) (fun _ hk => hk.2) (.slice Ao24 t583.length co24)) (fun _ hk => hk.2) (.slice Ao25 t586.length co25)) (fun _ hk => hk.2) (.slice Ao26 t589.length co26)) (fun _ h_ => h_.1))))) (below_size bq)); have HO604 := Aside0.mk (Kd.R_lower (Kd.R_new' (Kd.R_new' (Kd.R_new' (Kd.R_new' ho2 (Kd.R_lt (by (with_reducible repeat (first | apply Kd.R_alloc | apply Kd.R_drewN | apply Kd.R_drew)); exact (Kd.R_mono (Kd.R_far (p := ⟨gb593, 4, none⟩) (Kd.R_far (p := ⟨gb593, 3, none⟩) (Kd.R_far (p := ⟨gb593, 2, none⟩) (Kd.R_far (p := ⟨gb593, 1, none⟩) (Kd.R_far (p := ⟨gb593, 0, none⟩) (Kd.R_types HO577.out BK593.out (by decide)) (fun _ hk => hk.2) (.int .i64 t581)) (fun _ hk => hk.2) (.int .i64 t582)) (fun _ hk => hk.2) (.slice Ao24 t583.length co24)) (fun _ hk => hk.2) (.slice Ao25 t586.length co25)) (fun _ hk => hk.2) (.slice Ao26 t589.length co26)) (fun _ h_ => h_.1))))) (Kd.R_lt (by (with_reducible repeat (first | apply Kd.R_alloc | apply Kd.R_drewN | apply Kd.R_drew)); exact (Kd.R_mono (Kd.R_far (p := ⟨gb593, 4, none⟩) (Kd.R_far (p := ⟨gb593, 3, none⟩) (Kd.R_far (p := ⟨gb593, 2, none⟩) (Kd.R_far (p := ⟨gb593, 1, none⟩) (Kd.R_far (p := ⟨gb593, 0, none⟩) (Kd.R_types HO580.out BK593.out (by decide)) (fun _ hk => hk.2) (.int .i64 t581)) (fun _ hk => hk.2) (.int .i64 t582)) (fun _ hk => hk.2) (.slice Ao24 t583.length co24)) (fun _ hk => hk.2) (.slice Ao25 t586.length co25)) (fun _ hk => hk.2) (.slice Ao26 t589.length co26)) (fun _ h_ => h_.1))))) (Kd.R_lt (by (with_reducible repeat (first | apply Kd.R_alloc | apply Kd.R_drewN | apply Kd.R_drew)); exact (Kd.R_mono (Kd.R_far (p := ⟨gb593, 4, none⟩) (Kd.R_far (p := ⟨gb593, 3, none⟩) (Kd.R_far (p := ⟨gb593, 2, none⟩) (Kd.R_far (p := ⟨gb593, 1, none⟩) (Kd.R_far (p := ⟨gb593, 0, none⟩) (Kd.R_types HO588.out BK593.out (by decide)) (fun _ hk => hk.2) (.int .i64 t581)) (fun _ hk => hk.2) (.int .i64 t582)) (fun _ hk => hk.2) (.slice Ao24 t583.length co24)) (fun _ hk => hk.2) (.slice Ao25 t586.length co25)) (fun _ hk => hk.2) (.slice Ao26 t589.length co26)) (fun _ h_ => h_.1))))) (Kd.R_lt (by (with_reducible repeat (first | apply Kd.R_alloc | apply Kd.R_drewN | apply Kd.R_drew)); exact (Kd.R_mono (Kd.R_far (p := ⟨gb593, 4, none⟩) (Kd.R_far (p := ⟨gb593, 3, none⟩) (Kd.R_far (p := ⟨gb593, 2, none⟩) (Kd.R_far (p := ⟨gb593, 1, none⟩) (Kd.R_far (p := ⟨gb593, 0, none⟩) (Kd.R_types HO591.out BK593.out (by decide)) (fun _ hk => hk.2) (.int .i64 t581)) (fun _ hk => hk.2) (.int .i64 t582)) (fun _ hk => hk.2) (.slice Ao24 t583.length co24)) (fun _ hk => hk.2) (.slice Ao25 t586.length co25)) (fun _ hk => hk.2) (.slice Ao26 t589.length co26)) (fun _ h_ => h_.1))))) (below_size bq)); replace HO577 := Aside0.mk (Kd.R_mono (Kd.R_told (Kd.R_told (Kd.R_old (by (with_reducible repeat (first | apply Kd.R_alloc | apply Kd.R_drewN | apply Kd.R_drew)); exact (Kd.R_mono (Kd.R_far (p := ⟨gb593, 4, none⟩) (Kd.R_far (p := ⟨gb593, 3, none⟩) (Kd.R_far (p := ⟨gb593, 2, none⟩) (Kd.R_far (p := ⟨gb593, 1, none⟩) (Kd.R_far (p := ⟨gb593, 0, none⟩) (Kd.R_types HO577.out BK593.out (by decide)) (fun _ hk => hk.2) (.int .i64 t581)) (fun _ hk => hk.2) (.int .i64 t582)) (fun _ hk => hk.2) (.slice Ao24 t583.length co24)) (fun _ hk => hk.2) (.slice Ao25 t586.length co25)) (fun _ hk => hk.2) (.slice Ao26 t589.length co26)) (fun _ h_ => h_.1))) hb) (Kd.R_base ho1)) (Kd.R_base ho2)) (fun _ h_ => h_.1)); replace HO580 := Aside0.mk (Kd.R_mono (Kd.R_told (Kd.R_told (Kd.R_old (by (with_reducible repeat (first | apply Kd.R_alloc | apply Kd.R_drewN | apply Kd.R_drew)); exact (Kd.R_mono (Kd.R_far (p := ⟨gb593, 4, none⟩) (Kd.R_far (p := ⟨gb593, 3, none⟩) (Kd.R_far (p := ⟨gb593, 2, none⟩) (Kd.R_far (p := ⟨gb593, 1, none⟩) (Kd.R_far (p := ⟨gb593, 0, none⟩) (Kd.R_types HO580.out BK593.out (by decide)) (fun _ hk => hk.2) (.int .i64 t581)) (fun _ hk => hk.2) (.int .i64 t582)) (fun _ hk => hk.2) (.slice Ao24 t583.length co24)) (fun _ hk => hk.2) (.slice Ao25 t586.length co25)) (fun _ hk => hk.2) (.slice Ao26 t589.length co26)) (fun _ h_ => h_.1))) hb) (Kd.R_base ho1)) (Kd.R_base ho2)) (fun _ h_ => h_.1)); replace HO588 := Aside0.mk (Kd.R_mono (Kd.R_told (Kd.R_told (Kd.R_old (by (with_reducible repeat (first | apply Kd.R_alloc | apply Kd.R_drewN | apply Kd.R_drew)); exact (Kd.R_mono (Kd.R_far (p := ⟨gb593, 4, none⟩) (Kd.R_far (p := ⟨gb593, 3, none⟩) (Kd.R_far (p := ⟨gb593, 2, none⟩) (Kd.R_far (p := ⟨gb593, 1, none⟩) (Kd.R_far (p := ⟨gb593, 0, none⟩) (Kd.R_types HO588.out BK593.out (by decide)) (fun _ hk => hk.2) (.int .i64 t581)) (fun _ hk => hk.2) (.int .i64 t582)) (fun _ hk => hk.2) (.slice Ao24 t583.length co24)) (fun _ hk => hk.2) (.slice Ao25 t586.length co25)) (fun _ hk => hk.2) (.slice Ao26 t589.length co26)) (fun _ h_ => h_.1))) hb) (Kd.R_base ho1)) (Kd.R_base ho2)) (fun _ h_ => h_.1)); replace HO591 := Aside0.mk (Kd.R_mono (Kd.R_told (Kd.R_told (Kd.R_old (by (with_reducible repeat (first | apply Kd.R_alloc | apply Kd.R_drewN | apply Kd.R_drew)); exact (Kd.R_mono (Kd.R_far (p := ⟨gb593, 4, none⟩) (Kd.R_far (p := ⟨gb593, 3, none⟩) (Kd.R_far (p := ⟨gb593, 2, none⟩) (Kd.R_far (p := ⟨gb593, 1, none⟩) (Kd.R_far (p := ⟨gb593, 0, none⟩) (Kd.R_types HO591.out BK593.out (by decide)) (fun _ hk => hk.2) (.int .i64 t581)) (fun _ hk => hk.2) (.int .i64 t582)) (fun _ hk => hk.2) (.slice Ao24 t583.length co24)) (fun _ hk => hk.2) (.slice Ao25 t586.length co25)) (fun _ hk => hk.2) (.slice Ao26 t589.length co26)) (fun _ h_ => h_.1))) hb) (Kd.R_base ho1)) (Kd.R_base ho2)) (fun _ h_ => h_.1)); replace BK568 := Aside0.mk (blk_below (g := gb568) (o := .cells #[.int .i64 a0_0, .int .i64 a0_1, .slice A0_2 l0_2.length c0_2, .slice A0_3 l0_3.length c0_3, .slice A0_4 l0_4.length c0_4] 27 (0, 0)) (by (with_reducible repeat (first | refine blk_drewN ?_ _ | refine blk_drew ?_ | refine blk_alloc ?_ _)); refine blk_far ?_ NB568_593.out _; (with_reducible repeat (first | refine blk_drewN ?_ _ | refine blk_drew ?_ | refine blk_alloc ?_ _)); refine blk_far ?_ NB568_593.out _; (with_reducible repeat (first | refine blk_drewN ?_ _ | refine blk_drew ?_ | refine blk_alloc ?_ _)); refine blk_far ?_ NB568_593.out _; (with_reducible repeat (first | refine blk_drewN ?_ _ | refine blk_drew ?_ | refine blk_alloc ?_ _)); refine blk_far ?_ NB568_593.out _; (with_reducible repeat (first | refine blk_drewN ?_ _ | refine blk_drew ?_ | refine blk_alloc ?_ _)); refine blk_far ?_ NB568_593.out _; (with_reducible repeat (first | refine blk_drewN ?_ _ | refine blk_drew ?_ | refine blk_alloc ?_ _)); exact BK568.out) hb); replace BK593 := Aside0.mk (blk_below (g := gb593) (o := .cells #[.int .i64 t581, .int .i64 t582, .slice Ao24 t583.length co24, .slice Ao25 t586.length co25, .slice Ao26 t589.length co26] 35 (0, 0)) (by (with_reducible repeat (first | refine blk_drewN ?_ _ | refine blk_drew ?_ | refine blk_alloc ?_ _)); refine blk_put (cs := #[.int .i64 t581, .int .i64 t582, .slice Ao24 t583.length co24, .slice Ao25 t586.length co25, .slice none 0 0]) ?_ 4 _ rfl; (with_reducible repeat (first | refine blk_drewN ?_ _ | refine blk_drew ?_ | refine blk_alloc ?_ _)); refine blk_put (cs := #[.int .i64 t581, .int .i64 t582, .slice Ao24 t583.length co24, .slice none 0 0, .slice none 0 0]) ?_ 3 _ rfl; (with_reducible repeat (first | refine blk_drewN ?_ _ | refine blk_drew ?_ | refine blk_alloc ?_ _)); refine blk_put (cs := #[.int .i64 t581, .int .i64 t582, .slice none 0 0, .slice none 0 0, .slice none 0 0]) ?_ 2 _ rfl; (with_reducible repeat (first | refine blk_drewN ?_ _ | refine blk_drew ?_ | refine blk_alloc ?_ _)); refine blk_put (cs := #[.int .i64 t581, .int .i64 0, .slice none 0 0, .slice none 0 0, .slice none 0 0]) ?_ 1 _ rfl; (with_reducible repeat (first | refine blk_drewN ?_ _ | refine blk_drew ?_ | refine blk_alloc ?_ _)); refine blk_put (cs := #[.int .i64 0, .int .i64 0, .slice none 0 0, .slice none 0 0, .slice none 0 0]) ?_ 0 _ rfl; (with_reducible repeat (first | refine blk_drewN ?_ _ | refine blk_drew ?_ | refine blk_alloc ?_ _)); exact BK593.out) hb); replace HB := sb hb; (try clear hb hb2 hk hi ho0 ho1 ho2)) | ((with_reducible refine gate_dst (N := 6) rfl ?_); refine box_event ?hg (N := 6) ?hd (cs := #[.int .i64 0, .int .i64 0, .slice none 0 0, .slice none 0 0, .slice none 0 0]) (t := 35) ?hr ?_; (case hd => rfl); (case hg => rfl); (case hr => first | (go_simp; done) | (go_simp; rfl)); intro gb605 hg w29 hbox hb; replace HO574 := rb HO574 hb; replace HO577 := rb HO577 hb; replace HO580 := rb HO580 hb; replace HO585 := rb HO585 hb; replace HO588 := rb HO588 hb; replace HO591 := rb HO591 hb; replace HO598 := rb HO598 hb; replace HO601 := rb HO601 hb; replace HO604 := rb HO604 hb; have BK605 := Aside0.mk (hbox); have GE605 := Aside0.mk (gq hg); replace HB := sb hb; have NB568_605 := nl hg BK568; have NB605_568 := ng hg BK568; replace BK568 := zb BK568 hb; have NB593_605 := nl hg BK593; have NB605_593 := ng hg BK593; replace BK593 := zb BK593 hb; clear hb hbox hg; have hnb30 := NB605_568.out; have hnc30 := NB568_605.out; have hnb31 := NB605_593.out; have hnc31 := NB593_605.out; have ⟨hcz32_0, hcz32_1, hcz32_2, hcz32_3, hcz32_4, hfz32_0, hfz32_1, hfz32_2, hfz32_3, hfz32_4⟩ := bc5 BK605; obtain ⟨Ao33, co33, eo33⟩ := Kd.R_slice HO598.out; subst eo33; obtain ⟨Ao34, co34, eo34⟩ := Kd.R_slice HO601.out; subst eo34; obtain ⟨Ao35, co35, eo35⟩ := Kd.R_slice HO604.out; subst eo35) | ((with_reducible refine gate_callee (f := 35) rfl ?_); refine goesQ (some 29) Try.func35 #[.agg #[.int .i64 t594, .int .i64 t595, .slice Ao33 t596.length co33, .slice Ao34 t599.length co34, .slice Ao35 t602.length co35]] ?_; (with_reducible refine (impl_UndoAct.calls k t594 t595 _ _ t596 _ _ t599 _ _ t602 t606 t607 t608 t611 t614 t617 _ ?s1 ?s2 ?s3 ?s4 ?s5 ?s6 A10.out).mono ?_); (case s1 => refine (Kd.R_reads' (e := 58) (base := w.heap.size) (ok := fun k_ => ((True ∧ some k_ ≠ (.slice Ao17 t572.length co17 : Value).ownBlock) ∧ some k_ ≠ (.slice Ao24 t583.length co24 : Value).ownBlock)) (n := t596.length) (c := co33) ?_).2.2; exact (by (with_reducible repeat (first | apply Kd.R_alloc | apply Kd.R_drewN | apply Kd.R_drew)); exact (Kd.R_mono (Kd.R_far (p := ⟨gb605, 4, none⟩) (Kd.R_far (p := ⟨gb605, 3, none⟩) (Kd.R_far (p := ⟨gb605, 2, none⟩) (Kd.R_far (p := ⟨gb605, 1, none⟩) (Kd.R_far (p := ⟨gb605, 0, none⟩) (Kd.R_types HO598.out BK605.out (by decide)) (fun _ hk => hk.2) (.int .i64 t594)) (fun _ hk => hk.2) (.int .i64 t595)) (fun _ hk => hk.2) (.slice Ao33 t596.length co33)) (fun _ hk => hk.2) (.slice Ao34 t599.length co34)) (fun _ hk => hk.2) (.slice Ao35 t602.length co35)) (fun _ h_ => h_.1)))); (case s2 => exact r1 HO598); (case s3 => refine (Kd.R_reads' (e := 60) (base := w.heap.size) (ok := fun k_ => ((((some k_ ≠ (.slice Ao35 t602.length co35 : Value).ownBlock ∧ some k_ ≠ (.slice Ao18 t575.length co18 : Value).ownBlock) ∧ some k_ ≠ (.slice Ao19 t578.length co19 : Value).ownBlock) ∧ some k_ ≠ (.slice Ao25 t586.length co25 : Value).ownBlock) ∧ some k_ ≠ (.slice Ao26 t589.length co26 : Value).ownBlock)) (n := t599.length) (c := co34) ?_).2.2; exact (by (with_reducible repeat (first | apply Kd.R_alloc | apply Kd.R_drewN | apply Kd.R_drew)); exact (Kd.R_mono (Kd.R_far (p := ⟨gb605, 4, none⟩) (Kd.R_far (p := ⟨gb605, 3, none⟩) (Kd.R_far (p := ⟨gb605, 2, none⟩) (Kd.R_far (p := ⟨gb605, 1, none⟩) (Kd.R_far (p := ⟨gb605, 0, none⟩) (Kd.R_types HO601.out BK605.out (by decide)) (fun _ hk => hk.2) (.int .i64 t594)) (fun _ hk => hk.2) (.int .i64 t595)) (fun _ hk => hk.2) (.slice Ao33 t596.length co33)) (fun _ hk => hk.2) (.slice Ao34 t599.length co34)) (fun _ hk => hk.2) (.slice Ao35 t602.length co35)) (fun _ h_ => h_.1)))); (case s4 => exact r1 HO601); (case s5 => refine (Kd.R_reads' (e := 60) (base := w.heap.size) (ok := fun k_ => ((((some k_ ≠ (.slice Ao34 t599.length co34 : Value).ownBlock ∧ some k_ ≠ (.slice Ao18 t575.length co18 : Value).ownBlock) ∧ some k_ ≠ (.slice Ao19 t578.length co19 : Value).ownBlock) ∧ some k_ ≠ (.slice Ao25 t586.length co25 : Value).ownBlock) ∧ some k_ ≠ (.slice Ao26 t589.length co26 : Value).ownBlock)) (n := t602.length) (c := co35) ?_).2.2; exact (by (with_reducible repeat (first | apply Kd.R_alloc | apply Kd.R_drewN | apply Kd.R_drew)); exact (Kd.R_mono (Kd.R_far (p := ⟨gb605, 4, none⟩) (Kd.R_far (p := ⟨gb605, 3, none⟩) (Kd.R_far (p := ⟨gb605, 2, none⟩) (Kd.R_far (p := ⟨gb605, 1, none⟩) (Kd.R_far (p := ⟨gb605, 0, none⟩) (Kd.R_types HO604.out BK605.out (by decide)) (fun _ hk => hk.2) (.int .i64 t594)) (fun _ hk => hk.2) (.int .i64 t595)) (fun _ hk => hk.2) (.slice Ao33 t596.length co33)) (fun _ hk => hk.2) (.slice Ao34 t599.length co34)) (fun _ hk => hk.2) (.slice Ao35 t602.length co35)) (fun _ h_ => h_.1)))); (case s6 => exact r1 HO604); rintro e w36 ⟨v609, v612, v615, rfl, ho0, ho1, ho2, hb⟩; refine ⟨_, rfl, ?_⟩; have HO610 := Aside0.mk (Kd.R_lower (Kd.R_new' (Kd.R_new' (Kd.R_new' ho0 (Kd.R_lt (by (with_reducible repeat (first | apply Kd.R_alloc | apply Kd.R_drewN | apply Kd.R_drew)); exact (Kd.R_mono (Kd.R_far (p := ⟨gb605, 4, none⟩) (Kd.R_far (p := ⟨gb605, 3, none⟩) (Kd.R_far (p := ⟨gb605, 2, none⟩) (Kd.R_far (p := ⟨gb605, 1, none⟩) (Kd.R_far (p := ⟨gb605, 0, none⟩) (Kd.R_types HO574.out BK605.out (by decide)) (fun _ hk => hk.2) (.int .i64 t594)) (fun _ hk => hk.2) (.int .i64 t595)) (fun _ hk => hk.2) (.slice Ao33 t596.length co33)) (fun _ hk => hk.2) (.slice Ao34 t599.length co34)) (fun _ hk => hk.2) (.slice Ao35 t602.length co35)) (fun _ h_ => h_.1))))) (Kd.R_lt (by (with_reducible repeat (first | apply Kd.R_alloc | apply Kd.R_drewN | apply Kd.R_drew)); exact (Kd.R_mono (Kd.R_far (p := ⟨gb605, 4, none⟩) (Kd.R_far (p := ⟨gb605, 3, none⟩) (Kd.R_far (p := ⟨gb605, 2, none⟩) (Kd.R_far (p := ⟨gb605, 1, none⟩) (Kd.R_far (p := ⟨gb605, 0, none⟩) (Kd.R_types HO585.out BK605.out (by decide)) (fun _ hk => hk.2) (.int .i64 t594)) (fun _ hk => hk.2) (.int .i64 t595)) (fun _ hk => hk.2) (.slice Ao33 t596.length co33)) (fun _ hk => hk.2) (.slice Ao34 t599.length co34)) (fun _ hk => hk.2) (.slice Ao35 t602.length co35)) (fun _ h_ => h_.1))))) (Kd.R_lt (by (with_reducible repeat (first | apply Kd.R_alloc | apply Kd.R_drewN | apply Kd.R_drew)); exact (Kd.R_mono (Kd.R_far (p := ⟨gb605, 4, none⟩) (Kd.R_far (p := ⟨gb605, 3, none⟩) (Kd.R_far (p := ⟨gb605, 2, none⟩) (Kd.R_far (p := ⟨gb605, 1, none⟩) (Kd.R_far (p := ⟨gb605, 0, none⟩) (Kd.R_types HO598.out BK605.out (by decide)) (fun _ hk => hk.2) (.int .i64 t594)) (fun _ hk => hk.2) (.int .i64 t595)) (fun _ hk => hk.2) (.slice Ao33 t596.length co33)) (fun _ hk => hk.2) (.slice Ao34 t599.length co34)) (fun _ hk => hk.2) (.slice Ao35 t602.length co35)) (fun _ h_ => h_.1))))) (below_size bq)); replace HO585 := Aside0.mk (Kd.R_elder' (by (with_reducible repeat (first | apply Kd.R_alloc | apply Kd.R_drewN | apply Kd.R_drew)); exact (Kd.R_mono (Kd.R_far (p := ⟨gb605, 4, none⟩) (Kd.R_far (p := ⟨gb605, 3, none⟩) (Kd.R_far (p := ⟨gb605, 2, none⟩) (Kd.R_far (p := ⟨gb605, 1, none⟩) (Kd.R_far (p := ⟨gb605, 0, none⟩) (Kd.R_types HO585.out BK605.out (by decide)) (fun _ hk => hk.2) (.int .i64 t594)) (fun _ hk => hk.2) (.int .i64 t595)) (fun _ hk => hk.2) (.slice Ao33 t596.length co33)) (fun _ hk => hk.2) (.slice Ao34 t599.length co34)) (fun _ hk => hk.2) (.slice Ao35 t602.length co35)) (fun _ h_ => h_.1))) (Kd.R_base ho0) hb); replace HO598 := Aside0.mk (Kd.R_elder' (by (with_reducible repeat (first | apply Kd.R_alloc | apply Kd.R_drewN | apply Kd.R_drew)); exact (Kd.R_mono (Kd.R_far (p := ⟨gb605, 4, none⟩) (Kd.R_far (p := ⟨gb605, 3, none⟩) (Kd.R_far (p := ⟨gb605, 2, none⟩) (Kd.R_far (p := ⟨gb605, 1, none⟩) (Kd.R_far (p := ⟨gb605, 0, none⟩) (Kd.R_types HO598.out BK605.out (by decide)) (fun _ hk => hk.2) (.int .i64 t594)) (fun _ hk => hk.2) (.int .i64 t595)) (fun _ hk => hk.2) (.slice Ao33 t596.length co33)) (fun _ hk => hk.2) (.slice Ao34 t599.length co34)) (fun _ hk => hk.2) (.slice Ao35 t602.length co35)) (fun _ h_ => h_.1))) (Kd.R_base ho0) hb); have HO613 := Aside0.mk (Kd.R_lower (Kd.R_new' (Kd.R_new' (Kd.R_new' (Kd.R_new' (Kd.R_new' (Kd.R_new' ho1 (Kd.R_lt (by (with_reducible repeat (first | apply Kd.R_alloc | apply Kd.R_drewN | apply Kd.R_drew)); exact (Kd.R_mono (Kd.R_far (p := ⟨gb605, 4, none⟩) (Kd.R_far (p := ⟨gb605, 3, none⟩) (Kd.R_far (p := ⟨gb605, 2, none⟩) (Kd.R_far (p := ⟨gb605, 1, none⟩) (Kd.R_far (p := ⟨gb605, 0, none⟩) (Kd.R_types HO577.out BK605.out (by decide)) (fun _ hk => hk.2) (.int .i64 t594)) (fun _ hk => hk.2) (.int .i64 t595)) (fun _ hk => hk.2) (.slice Ao33 t596.length co33)) (fun _ hk => hk.2) (.slice Ao34 t599.length co34)) (fun _ hk => hk.2) (.slice Ao35 t602.length co35)) (fun _ h_ => h_.1))))) (Kd.R_lt (by (with_reducible repeat (first | apply Kd.R_alloc | apply Kd.R_drewN | apply Kd.R_drew)); exact (Kd.R_mono (Kd.R_far (p := ⟨gb605, 4, none⟩) (Kd.R_far (p := ⟨gb605, 3, none⟩) (Kd.R_far (p := ⟨gb605, 2, none⟩) (Kd.R_far (p := ⟨gb605, 1, none⟩) (Kd.R_far (p := ⟨gb605, 0, none⟩) (Kd.R_types HO580.out BK605.out (by decide)) (fun _ hk => hk.2) (.int .i64 t594)) (fun _ hk => hk.2) (.int .i64 t595)) (fun _ hk => hk.2) (.slice Ao33 t596.length co33)) (fun _ hk => hk.2) (.slice Ao34 t599.length co34)) (fun _ hk => hk.2) (.slice Ao35 t602.length co35)) (fun _ h_ => h_.1))))) (Kd.R_lt (by (with_reducible repeat (first | apply Kd.R_alloc | apply Kd.R_drewN | apply Kd.R_drew)); exact (Kd.R_mono (Kd.R_far (p := ⟨gb605, 4, none⟩) (Kd.R_far (p := ⟨gb605, 3, none⟩) (Kd.R_far (p := ⟨gb605, 2, none⟩) (Kd.R_far (p := ⟨gb605, 1, none⟩) (Kd.R_far (p := ⟨gb605, 0, none⟩) (Kd.R_types HO588.out BK605.out (by decide)) (fun _ hk => hk.2) (.int .i64 t594)) (fun _ hk => hk.2) (.int .i64 t595)) (fun _ hk => hk.2) (.slice Ao33 t596.length co33)) (fun _ hk => hk.2) (.slice Ao34 t599.length co34)) (fun _ hk => hk.2) (.slice Ao35 t602.length co35)) (fun _ h_ => h_.1))))) (Kd.R_lt (by (with_reducible repeat (first | apply Kd.R_alloc | apply Kd.R_drewN | apply Kd.R_drew)); exact (Kd.R_mono (Kd.R_far (p := ⟨gb605, 4, none⟩) (Kd.R_far (p := ⟨gb605, 3, none⟩) (Kd.R_far (p := ⟨gb605, 2, none⟩) (Kd.R_far (p := ⟨gb605, 1, none⟩) (Kd.R_far (p := ⟨gb605, 0, none⟩) (Kd.R_types HO591.out BK605.out (by decide)) (fun _ hk => hk.2) (.int .i64 t594)) (fun _ hk => hk.2) (.int .i64 t595)) (fun _ hk => hk.2) (.slice Ao33 t596.length co33)) (fun _ hk => hk.2) (.slice Ao34 t599.length co34)) (fun _ hk => hk.2) (.slice Ao35 t602.length co35)) (fun _ h_ => h_.1))))) (Kd.R_lt (by (with_reducible repeat (first | apply Kd.R_alloc | apply Kd.R_drewN | apply Kd.R_drew)); exact (Kd.R_mono (Kd.R_far (p := ⟨gb605, 4, none⟩) (Kd.R_far (p := ⟨gb605, 3, none⟩) (Kd.R_far (p := ⟨gb605, 2, none⟩) (Kd.R_far (p := ⟨gb605, 1, none⟩) (Kd.R_far (p := ⟨gb605, 0, none⟩) (Kd.R_types HO601.out BK605.out (by decide)) (fun _ hk => hk.2) (.int .i64 t594)) (fun _ hk => hk.2) (.int .i64 t595)) (fun _ hk => hk.2) (.slice Ao33 t596.length co33)) (fun _ hk => hk.2) (.slice Ao34 t599.length co34)) (fun _ hk => hk.2) (.slice Ao35 t602.length co35)) (fun _ h_ => h_.1))))) (Kd.R_lt (by (with_reducible repeat (first | apply Kd.R_alloc | apply Kd.R_drewN | apply Kd.R_drew)); exact (Kd.R_mono (Kd.R_far (p := ⟨gb605, 4, none⟩) (Kd.R_far (p := ⟨gb605, 3, none⟩) (Kd.R_far (p := ⟨gb605, 2, none⟩) (Kd.R_far (p := ⟨gb605, 1, none⟩) (Kd.R_far (p := ⟨gb605, 0, none⟩) (Kd.R_types HO604.out BK605.out (by decide)) (fun _ hk => hk.2) (.int .i64 t594)) (fun _ hk => hk.2) (.int .i64 t595)) (fun _ hk => hk.2) (.slice Ao33 t596.length co33)) (fun _ hk => hk.2) (.slice Ao34 t599.length co34)) (fun _ hk => hk.2) (.slice Ao35 t602.length co35)) (fun _ h_ => h_.1))))) (below_size bq)); have HO616 := Aside0.mk (Kd.R_lower (Kd.R_new' (Kd.R_new' (Kd.R_new' (Kd.R_new' (Kd.R_new' (Kd.R_new' ho2 (Kd.R_lt (by (with_reducible repeat (first | apply Kd.R_alloc | apply Kd.R_drewN | apply Kd.R_drew)); exact (Kd.R_mono (Kd.R_far (p := ⟨gb605, 4, none⟩) (Kd.R_far (p := ⟨gb605, 3, none⟩) (Kd.R_far (p := ⟨gb605, 2, none⟩) (Kd.R_far (p := ⟨gb605, 1, none⟩) (Kd.R_far (p := ⟨gb605, 0, none⟩) (Kd.R_types HO577.out BK605.out (by decide)) (fun _ hk => hk.2) (.int .i64 t594)) (fun _ hk => hk.2) (.int .i64 t595)) (fun _ hk => hk.2) (.slice Ao33 t596.length co33)) (fun _ hk => hk.2) (.slice Ao34 t599.length co34)) (fun _ hk => hk.2) (.slice Ao35 t602.length co35)) (fun _ h_ => h_.1))))) (Kd.R_lt (by (with_reducible repeat (first | apply Kd.R_alloc | apply Kd.R_drewN | apply Kd.R_drew)); exact (Kd.R_mono (Kd.R_far (p := ⟨gb605, 4, none⟩) (Kd.R_far (p := ⟨gb605, 3, none⟩) (Kd.R_far (p := ⟨gb605, 2, none⟩) (Kd.R_far (p := ⟨gb605, 1, none⟩) (Kd.R_far (p := ⟨gb605, 0, none⟩) (Kd.R_types HO580.out BK605.out (by decide)) (fun _ hk => hk.2) (.int .i64 t594)) (fun _ hk => hk.2) (.int .i64 t595)) (fun _ hk => hk.2) (.slice Ao33 t596.length co33)) (fun _ hk => hk.2) (.slice Ao34 t599.length co34)) (fun _ hk => hk.2) (.slice Ao35 t602.length co35)) (fun _ h_ => h_.1))))) (Kd.R_lt (by (with_reducible repeat (first | apply Kd.R_alloc | apply Kd.R_drewN | apply Kd.R_drew)); exact (Kd.R_mono (Kd.R_far (p := ⟨gb605, 4, none⟩) (Kd.R_far (p := ⟨gb605, 3, none⟩) (Kd.R_far (p := ⟨gb605, 2, none⟩) (Kd.R_far (p := ⟨gb605, 1, none⟩) (Kd.R_far (p := ⟨gb605, 0, none⟩) (Kd.R_types HO588.out BK605.out (by decide)) (fun _ hk => hk.2) (.int .i64 t594)) (fun _ hk => hk.2) (.int .i64 t595)) (fun _ hk => hk.2) (.slice Ao33 t596.length co33)) (fun _ hk => hk.2) (.slice Ao34 t599.length co34)) (fun _ hk => hk.2) (.slice Ao35 t602.length co35)) (fun _ h_ => h_.1))))) (Kd.R_lt (by (with_reducible repeat (first | apply Kd.R_alloc | apply Kd.R_drewN | apply Kd.R_drew)); exact (Kd.R_mono (Kd.R_far (p := ⟨gb605, 4, none⟩) (Kd.R_far (p := ⟨gb605, 3, none⟩) (Kd.R_far (p := ⟨gb605, 2, none⟩) (Kd.R_far (p := ⟨gb605, 1, none⟩) (Kd.R_far (p := ⟨gb605, 0, none⟩) (Kd.R_types HO591.out BK605.out (by decide)) (fun _ hk => hk.2) (.int .i64 t594)) (fun _ hk => hk.2) (.int .i64 t595)) (fun _ hk => hk.2) (.slice Ao33 t596.length co33)) (fun _ hk => hk.2) (.slice Ao34 t599.length co34)) (fun _ hk => hk.2) (.slice Ao35 t602.length co35)) (fun _ h_ => h_.1))))) (Kd.R_lt (by (with_reducible repeat (first | apply Kd.R_alloc | apply Kd.R_drewN | apply Kd.R_drew)); exact (Kd.R_mono (Kd.R_far (p := ⟨gb605, 4, none⟩) (Kd.R_far (p := ⟨gb605, 3, none⟩) (Kd.R_far (p := ⟨gb605, 2, none⟩) (Kd.R_far (p := ⟨gb605, 1, none⟩) (Kd.R_far (p := ⟨gb605, 0, none⟩) (Kd.R_types HO601.out BK605.out (by decide)) (fun _ hk => hk.2) (.int .i64 t594)) (fun _ hk => hk.2) (.int .i64 t595)) (fun _ hk => hk.2) (.slice Ao33 t596.length co33)) (fun _ hk => hk.2) (.slice Ao34 t599.length co34)) (fun _ hk => hk.2) (.slice Ao35 t602.length co35)) (fun _ h_ => h_.1))))) (Kd.R_lt (by (with_reducible repeat (first | apply Kd.R_alloc | apply Kd.R_drewN | apply Kd.R_drew)); exact (Kd.R_mono (Kd.R_far (p := ⟨gb605, 4, none⟩) (Kd.R_far (p := ⟨gb605, 3, none⟩) (Kd.R_far (p := ⟨gb605, 2, none⟩) (Kd.R_far (p := ⟨gb605, 1, none⟩) (Kd.R_far (p := ⟨gb605, 0, none⟩) (Kd.R_types HO604.out BK605.out (by decide)) (fun _ hk => hk.2) (.int .i64 t594)) (fun _ hk => hk.2) (.int .i64 t595)) (fun _ hk => hk.2) (.slice Ao33 t596.length co33)) (fun _ hk => hk.2) (.slice Ao34 t599.length co34)) (fun _ hk => hk.2) (.slice Ao35 t602.length co35)) (fun _ h_ => h_.1))))) (below_size bq)); replace HO588 := Aside0.mk (Kd.R_mono (Kd.R_told (Kd.R_told (Kd.R_old (by (with_reducible repeat (first | apply Kd.R_alloc | apply Kd.R_drewN | apply Kd.R_drew)); exact (Kd.R_mono (Kd.R_far (p := ⟨gb605, 4, none⟩) (Kd.R_far (p := ⟨gb605, 3, none⟩) (Kd.R_far (p := ⟨gb605, 2, none⟩) (Kd.R_far (p := ⟨gb605, 1, none⟩) (Kd.R_far (p := ⟨gb605, 0, none⟩) (Kd.R_types HO588.out BK605.out (by decide)) (fun _ hk => hk.2) (.int .i64 t594)) (fun _ hk => hk.2) (.int .i64 t595)) (fun _ hk => hk.2) (.slice Ao33 t596.length co33)) (fun _ hk => hk.2) (.slice Ao34 t599.length co34)) (fun _ hk => hk.2) (.slice Ao35 t602.length co35)) (fun _ h_ => h_.1))) hb) (Kd.R_base ho1)) (Kd.R_base ho2)) (fun _ h_ => h_.1)); replace HO591 := Aside0.mk (Kd.R_mono (Kd.R_told (Kd.R_told (Kd.R_old (by (with_reducible repeat (first | apply Kd.R_alloc | apply Kd.R_drewN | apply Kd.R_drew)); exact (Kd.R_mono (Kd.R_far (p := ⟨gb605, 4, none⟩) (Kd.R_far (p := ⟨gb605, 3, none⟩) (Kd.R_far (p := ⟨gb605, 2, none⟩) (Kd.R_far (p := ⟨gb605, 1, none⟩) (Kd.R_far (p := ⟨gb605, 0, none⟩) (Kd.R_types HO591.out BK605.out (by decide)) (fun _ hk => hk.2) (.int .i64 t594)) (fun _ hk => hk.2) (.int .i64 t595)) (fun _ hk => hk.2) (.slice Ao33 t596.length co33)) (fun _ hk => hk.2) (.slice Ao34 t599.length co34)) (fun _ hk => hk.2) (.slice Ao35 t602.length co35)) (fun _ h_ => h_.1))) hb) (Kd.R_base ho1)) (Kd.R_base ho2)) (fun _ h_ => h_.1)); replace HO601 := Aside0.mk (Kd.R_mono (Kd.R_told (Kd.R_told (Kd.R_old (by (with_reducible repeat (first | apply Kd.R_alloc | apply Kd.R_drewN | apply Kd.R_drew)); exact (Kd.R_mono (Kd.R_far (p := ⟨gb605, 4, none⟩) (Kd.R_far (p := ⟨gb605, 3, none⟩) (Kd.R_far (p := ⟨gb605, 2, none⟩) (Kd.R_far (p := ⟨gb605, 1, none⟩) (Kd.R_far (p := ⟨gb605, 0, none⟩) (Kd.R_types HO601.out BK605.out (by decide)) (fun _ hk => hk.2) (.int .i64 t594)) (fun _ hk => hk.2) (.int .i64 t595)) (fun _ hk => hk.2) (.slice Ao33 t596.length co33)) (fun _ hk => hk.2) (.slice Ao34 t599.length co34)) (fun _ hk => hk.2) (.slice Ao35 t602.length co35)) (fun _ h_ => h_.1))) hb) (Kd.R_base ho1)) (Kd.R_base ho2)) (fun _ h_ => h_.1)); replace HO604 := Aside0.mk (Kd.R_mono (Kd.R_told (Kd.R_told (Kd.R_old (by (with_reducible repeat (first | apply Kd.R_alloc | apply Kd.R_drewN | apply Kd.R_drew)); exact (Kd.R_mono (Kd.R_far (p := ⟨gb605, 4, none⟩) (Kd.R_far (p := ⟨gb605, 3, none⟩) (Kd.R_far (p := ⟨gb605, 2, none⟩) (Kd.R_far (p := ⟨gb605, 1, none⟩) (Kd.R_far (p := ⟨gb605, 0, none⟩) (Kd.R_types HO604.out BK605.out (by decide)) (fun _ hk => hk.2) (.int .i64 t594)) (fun _ hk => hk.2) (.int .i64 t595)) (fun _ hk => hk.2) (.slice Ao33 t596.length co33)) (fun _ hk => hk.2) (.slice Ao34 t599.length co34)) (fun _ hk => hk.2) (.slice Ao35 t602.length co35)) (fun _ h_ => h_.1))) hb) (Kd.R_base ho1)) (Kd.R_base ho2)) (fun _ h_ => h_.1)); replace BK568 := Aside0.mk (blk_below (g := gb568) (o := .cells #[.int .i64 a0_0, .int .i64 a0_1, .slice A0_2 l0_2.length c0_2, .slice A0_3 l0_3.length c0_3, .slice A0_4 l0_4.length c0_4] 27 (0, 0)) (by (with_reducible repeat (first | refine blk_drewN ?_ _ | refine blk_drew ?_ | refine blk_alloc ?_ _)); refine blk_far ?_ NB568_605.out _; (with_reducible repeat (first | refine blk_drewN ?_ _ | refine blk_drew ?_ | refine blk_alloc ?_ _)); refine blk_far ?_ NB568_605.out _; (with_reducible repeat (first | refine blk_drewN ?_ _ | refine blk_drew ?_ | refine blk_alloc ?_ _)); refine blk_far ?_ NB568_605.out _; (with_reducible repeat (first | refine blk_drewN ?_ _ | refine blk_drew ?_ | refine blk_alloc ?_ _)); refine blk_far ?_ NB568_605.out _; (with_reducible repeat (first | refine blk_drewN ?_ _ | refine blk_drew ?_ | refine blk_alloc ?_ _)); refine blk_far ?_ NB568_605.out _; (with_reducible repeat (first | refine blk_drewN ?_ _ | refine blk_drew ?_ | refine blk_alloc ?_ _)); exact BK568.out) hb); replace BK593 := Aside0.mk (blk_below (g := gb593) (o := .cells #[.int .i64 t581, .int .i64 t582, .slice Ao24 t583.length co24, .slice Ao25 t586.length co25, .slice Ao26 t589.length co26] 35 (0, 0)) (by (with_reducible repeat (first | refine blk_drewN ?_ _ | refine blk_drew ?_ | refine blk_alloc ?_ _)); refine blk_far ?_ NB593_605.out _; (with_reducible repeat (first | refine blk_drewN ?_ _ | refine blk_drew ?_ | refine blk_alloc ?_ _)); refine blk_far ?_ NB593_605.out _; (with_reducible repeat (first | refine blk_drewN ?_ _ | refine blk_drew ?_ | refine blk_alloc ?_ _)); refine blk_far ?_ NB593_605.out _; (with_reducible repeat (first | refine blk_drewN ?_ _ | refine blk_drew ?_ | refine blk_alloc ?_ _)); refine blk_far ?_ NB593_605.out _; (with_reducible repeat (first | refine blk_drewN ?_ _ | refine blk_drew ?_ | refine blk_alloc ?_ _)); refine blk_far ?_ NB593_605.out _; (with_reducible repeat (first | refine blk_drewN ?_ _ | refine blk_drew ?_ | refine blk_alloc ?_ _)); exact BK593.out) hb); replace BK605 := Aside0.mk (blk_below (g := gb605) (o := .cells #[.int .i64 t594, .int .i64 t595, .slice Ao33 t596.length co33, .slice Ao34 t599.length co34, .slice Ao35 t602.length co35] 35 (0, 0)) (by (with_reducible repeat (first | refine blk_drewN ?_ _ | refine blk_drew ?_ | refine blk_alloc ?_ _)); refine blk_put (cs := #[.int .i64 t594, .int .i64 t595, .slice Ao33 t596.length co33, .slice Ao34 t599.length co34, .slice none 0 0]) ?_ 4 _ rfl; (with_reducible repeat (first | refine blk_drewN ?_ _ | refine blk_drew ?_ | refine blk_alloc ?_ _)); refine blk_put (cs := #[.int .i64 t594, .int .i64 t595, .slice Ao33 t596.length co33, .slice none 0 0, .slice none 0 0]) ?_ 3 _ rfl; (with_reducible repeat (first | refine blk_drewN ?_ _ | refine blk_drew ?_ | refine blk_alloc ?_ _)); refine blk_put (cs := #[.int .i64 t594, .int .i64 t595, .slice none 0 0, .slice none 0 0, .slice none 0 0]) ?_ 2 _ rfl; (with_reducible repeat (first | refine blk_drewN ?_ _ | refine blk_drew ?_ | refine blk_alloc ?_ _)); refine blk_put (cs := #[.int .i64 t594, .int .i64 0, .slice none 0 0, .slice none 0 0, .slice none 0 0]) ?_ 1 _ rfl; (with_reducible repeat (first | refine blk_drewN ?_ _ | refine blk_drew ?_ | refine blk_alloc ?_ _)); refine blk_put (cs := #[.int .i64 0, .int .i64 0, .slice none 0 0, .slice none 0 0, .slice none 0 0]) ?_ 0 _ rfl; (with_reducible repeat (first | refine blk_drewN ?_ _ | refine blk_drew ?_ | refine blk_alloc ?_ _)); exact BK605.out) hb); replace HB := sb hb; (try clear hb hb2 hk hi ho0 ho1 ho2)) | ((with_reducible refine gate_dst (N := 7) rfl ?_); refine box_event ?hg (N := 7) ?hd (cs := #[.int .i64 0, .int .i64 0, .slice none 0 0, .slice none 0 0, .slice none 0 0]) (t := 35) ?hr ?_; (case hd => rfl); (case hg => rfl); (case hr => first | (go_simp; done) | (go_simp; rfl)); intro gb618 hg w37 hbox hb; replace HO585 := rb HO585 hb; replace HO588 := rb HO588 hb; replace HO591 := rb HO591 hb; replace HO598 := rb HO598 hb; replace HO601 := rb HO601 hb; replace HO604 := rb HO604 hb; replace HO610 := rb HO610 hb; replace HO613 := rb HO613 hb; replace HO616 := rb HO616 hb; have BK618 := Aside0.mk (hbox); have GE618 := Aside0.mk (gq hg); replace HB := sb hb; have NB568_618 := nl hg BK568; have NB618_568 := ng hg BK568; replace BK568 := zb BK568 hb; have NB593_618 := nl hg BK593; have NB618_593 := ng hg BK593; replace BK593 := zb BK593 hb; have NB605_618 := nl hg BK605; have NB618_605 := ng hg BK605; replace BK605 := zb BK605 hb; clear hb hbox hg; have hnb38 := NB618_568.out; have hnc38 := NB568_618.out; have hnb39 := NB618_593.out; have hnc39 := NB593_618.out; have hnb40 := NB618_605.out; have hnc40 := NB605_618.out; have ⟨hcz41_0, hcz41_1, hcz41_2, hcz41_3, hcz41_4, hfz41_0, hfz41_1, hfz41_2, hfz41_3, hfz41_4⟩ := bc5 BK618; obtain ⟨Ao42, co42, eo42⟩ := Kd.R_slice HO610.out; subst eo42; obtain ⟨Ao43, co43, eo43⟩ := Kd.R_slice HO613.out; subst eo43; obtain ⟨Ao44, co44, eo44⟩ := Kd.R_slice HO616.out; subst eo44))
  (try simp only [Act.put, List.setIfInBounds_toArray, List.set_cons_zero, List.set_cons_succ])
  go_cut [40] (fun v40 wc => ∃ (kq : Nat) (x40_10 : Bool), v40 = .bool x40_10 ∧ Aside0 (laws_FnExactUndoAct.j0 kq t592 t617 x40_10 a0_0 a0_1 l0_2 l0_3 l0_4 t581 t582 t583 t586 t589 t594 t595 t596 t599 t602 t606 t607 t608 t611 t614 = some r) ∧ Aside0 (kq ≤ k) ∧ Aside0 (Kd.R k58 58 wc w.heap.size (fun k_ => some k_ ≠ ((.slice Ao33 t596.length co33) : Value).ownBlock ∧ some k_ ≠ ((.slice Ao42 t608.length co42) : Value).ownBlock) (.slice Ao24 t583.length co24) t583) ∧ Aside0 (Kd.R k60 60 wc w.heap.size (fun k_ => some k_ ≠ ((.slice Ao26 t589.length co26) : Value).ownBlock ∧ some k_ ≠ ((.slice Ao34 t599.length co34) : Value).ownBlock ∧ some k_ ≠ ((.slice Ao35 t602.length co35) : Value).ownBlock ∧ some k_ ≠ ((.slice Ao43 t611.length co43) : Value).ownBlock ∧ some k_ ≠ ((.slice Ao44 t614.length co44) : Value).ownBlock) (.slice Ao25 t586.length co25) t586) ∧ Aside0 (Kd.R k60 60 wc w.heap.size (fun k_ => some k_ ≠ ((.slice Ao25 t586.length co25) : Value).ownBlock ∧ some k_ ≠ ((.slice Ao34 t599.length co34) : Value).ownBlock ∧ some k_ ≠ ((.slice Ao35 t602.length co35) : Value).ownBlock ∧ some k_ ≠ ((.slice Ao43 t611.length co43) : Value).ownBlock ∧ some k_ ≠ ((.slice Ao44 t614.length co44) : Value).ownBlock) (.slice Ao26 t589.length co26) t589) ∧ Aside0 (Kd.R k58 58 wc w.heap.size (fun k_ => some k_ ≠ ((.slice Ao24 t583.length co24) : Value).ownBlock ∧ some k_ ≠ ((.slice Ao42 t608.length co42) : Value).ownBlock) (.slice Ao33 t596.length co33) t596) ∧ Aside0 (Kd.R k60 60 wc w.heap.size (fun k_ => some k_ ≠ ((.slice Ao25 t586.length co25) : Value).ownBlock ∧ some k_ ≠ ((.slice Ao26 t589.length co26) : Value).ownBlock ∧ some k_ ≠ ((.slice Ao35 t602.length co35) : Value).ownBlock ∧ some k_ ≠ ((.slice Ao43 t611.length co43) : Value).ownBlock ∧ some k_ ≠ ((.slice Ao44 t614.length co44) : Value).ownBlock) (.slice Ao34 t599.length co34) t599) ∧ Aside0 (Kd.R k60 60 wc w.heap.size (fun k_ => some k_ ≠ ((.slice Ao25 t586.length co25) : Value).ownBlock ∧ some k_ ≠ ((.slice Ao26 t589.length co26) : Value).ownBlock ∧ some k_ ≠ ((.slice Ao34 t599.length co34) : Value).ownBlock ∧ some k_ ≠ ((.slice Ao43 t611.length co43) : Value).ownBlock ∧ some k_ ≠ ((.slice Ao44 t614.length co44) : Value).ownBlock) (.slice Ao35 t602.length co35) t602) ∧ Aside0 (Kd.R k58 58 wc w.heap.size (fun k_ => some k_ ≠ ((.slice Ao24 t583.length co24) : Value).ownBlock ∧ some k_ ≠ ((.slice Ao33 t596.length co33) : Value).ownBlock) (.slice Ao42 t608.length co42) t608) ∧ Aside0 (Kd.R k60 60 wc w.heap.size (fun k_ => some k_ ≠ ((.slice Ao25 t586.length co25) : Value).ownBlock ∧ some k_ ≠ ((.slice Ao26 t589.length co26) : Value).ownBlock ∧ some k_ ≠ ((.slice Ao34 t599.length co34) : Value).ownBlock ∧ some k_ ≠ ((.slice Ao35 t602.length co35) : Value).ownBlock ∧ some k_ ≠ ((.slice Ao44 t614.length co44) : Value).ownBlock) (.slice Ao43 t611.length co43) t611) ∧ Aside0 (Kd.R k60 60 wc w.heap.size (fun k_ => some k_ ≠ ((.slice Ao25 t586.length co25) : Value).ownBlock ∧ some k_ ≠ ((.slice Ao26 t589.length co26) : Value).ownBlock ∧ some k_ ≠ ((.slice Ao34 t599.length co34) : Value).ownBlock ∧ some k_ ≠ ((.slice Ao35 t602.length co35) : Value).ownBlock ∧ some k_ ≠ ((.slice Ao43 t611.length co43) : Value).ownBlock) (.slice Ao44 t614.length co44) t614) ∧ Aside0 (wc.heap[gb568]? = some (.cells #[.int .i64 a0_0, .int .i64 a0_1, (.slice A0_2 l0_2.length c0_2), (.slice A0_3 l0_3.length c0_3), (.slice A0_4 l0_4.length c0_4)] 27 (0, 0))) ∧ Aside0 (wc.heap[gb593]? = some (.cells #[.int .i64 t581, .int .i64 t582, (.slice Ao24 t583.length co24), (.slice Ao25 t586.length co25), (.slice Ao26 t589.length co26)] 35 (0, 0))) ∧ Aside0 (wc.heap[gb605]? = some (.cells #[.int .i64 t594, .int .i64 t595, (.slice Ao33 t596.length co33), (.slice Ao34 t599.length co34), (.slice Ao35 t602.length co35)] 35 (0, 0))) ∧ Aside0 (wc.heap[gb618]? = some (.cells #[.int .i64 t606, .int .i64 t607, (.slice Ao42 t608.length co42), (.slice Ao43 t611.length co43), (.slice Ao44 t614.length co44)] 35 (0, 0))) ∧ Aside0 (Below w.heap.size w wc))
  case first =>
   have H := HC11.out
   clear HC11
   obtain ⟨t619, A45, H⟩ := bindq H
   try dsimp only at H
   by_cases c46 : t619 = true
   ·subst c46
    rw [if_pos rfl] at H
    try dsimp only at H
    have H' := Aside0.mk H
    clear H
    have hnb47 := NB618_568.out
    have hnc47 := NB568_618.out
    have hnb48 := NB618_593.out
    have hnc48 := NB593_618.out
    have hnb49 := NB618_605.out
    have hnc49 := NB605_618.out
    have ⟨hcz50_0, hcz50_1, hcz50_2, hcz50_3, hcz50_4, hfz50_0, hfz50_1, hfz50_2, hfz50_3, hfz50_4⟩ := bc5 BK618
    have hnb51 := NB593_568.out
    have hnc51 := NB568_593.out
    have hnb52 := NB593_605.out
    have hnc52 := NB605_593.out
    have ⟨hcz53_0, hcz53_1, hcz53_2, hcz53_3, hcz53_4, hfz53_0, hfz53_1, hfz53_2, hfz53_3, hfz53_4⟩ := bc5 BK593
    go_wp2_with (first | ((with_reducible refine gate_callee (f := 18) rfl ?_); refine goesQ (some 34) Try.func18 #[.agg #[.int .i64 t606, .int .i64 t607, .slice Ao42 t608.length co42, .slice Ao43 t611.length co43, .slice Ao44 t614.length co44], .agg #[.int .i64 t581, .int .i64 t582, .slice Ao24 t583.length co24, .slice Ao25 t586.length co25, .slice Ao26 t589.length co26]] ?_; (with_reducible refine (laws_eqSession.calls k t606 t607 _ _ t608 _ _ t611 _ _ t614 t581 t582 _ _ t583 _ _ t586 _ _ t589 true _ ?s1 ?s2 ?s3 ?s4 ?s5 ?s6 ?s7 ?s8 ?s9 ?s10 ?s11 ?s12 A45.out).mono ?_); (case s1 => refine (Kd.R_reads' (e := 58) (base := w.heap.size) (ok := fun k_ => (((True ∧ some k_ ≠ (.slice Ao17 t572.length co17 : Value).ownBlock) ∧ some k_ ≠ (.slice Ao24 t583.length co24 : Value).ownBlock) ∧ some k_ ≠ (.slice Ao33 t596.length co33 : Value).ownBlock)) (n := t608.length) (c := co42) ?_).2.2; exact (by (with_reducible repeat (first | apply Kd.R_alloc | apply Kd.R_drewN | apply Kd.R_drew)); exact (Kd.R_mono (Kd.R_far (p := ⟨gb618, 4, none⟩) (Kd.R_far (p := ⟨gb618, 3, none⟩) (Kd.R_far (p := ⟨gb618, 2, none⟩) (Kd.R_far (p := ⟨gb618, 1, none⟩) (Kd.R_far (p := ⟨gb618, 0, none⟩) (Kd.R_types HO610.out BK618.out (by decide)) (fun _ hk => hk.2) (.int .i64 t606)) (fun _ hk => hk.2) (.int .i64 t607)) (fun _ hk => hk.2) (.slice Ao42 t608.length co42)) (fun _ hk => hk.2) (.slice Ao43 t611.length co43)) (fun _ hk => hk.2) (.slice Ao44 t614.length co44)) (fun _ h_ => h_.1)))); (case s2 => exact r1 HO610); (case s3 => refine (Kd.R_reads' (e := 60) (base := w.heap.size) (ok := fun k_ => ((((((some k_ ≠ (.slice Ao44 t614.length co44 : Value).ownBlock ∧ some k_ ≠ (.slice Ao18 t575.length co18 : Value).ownBlock) ∧ some k_ ≠ (.slice Ao19 t578.length co19 : Value).ownBlock) ∧ some k_ ≠ (.slice Ao25 t586.length co25 : Value).ownBlock) ∧ some k_ ≠ (.slice Ao26 t589.length co26 : Value).ownBlock) ∧ some k_ ≠ (.slice Ao34 t599.length co34 : Value).ownBlock) ∧ some k_ ≠ (.slice Ao35 t602.length co35 : Value).ownBlock)) (n := t611.length) (c := co43) ?_).2.2; exact (by (with_reducible repeat (first | apply Kd.R_alloc | apply Kd.R_drewN | apply Kd.R_drew)); exact (Kd.R_mono (Kd.R_far (p := ⟨gb618, 4, none⟩) (Kd.R_far (p := ⟨gb618, 3, none⟩) (Kd.R_far (p := ⟨gb618, 2, none⟩) (Kd.R_far (p := ⟨gb618, 1, none⟩) (Kd.R_far (p := ⟨gb618, 0, none⟩) (Kd.R_types HO613.out BK618.out (by decide)) (fun _ hk => hk.2) (.int .i64 t606)) (fun _ hk => hk.2) (.int .i64 t607)) (fun _ hk => hk.2) (.slice Ao42 t608.length co42)) (fun _ hk => hk.2) (.slice Ao43 t611.length co43)) (fun _ hk => hk.2) (.slice Ao44 t614.length co44)) (fun _ h_ => h_.1)))); (case s4 => exact r1 HO613); (case s5 => refine (Kd.R_reads' (e := 60) (base := w.heap.size) (ok := fun k_ => ((((((some k_ ≠ (.slice Ao43 t611.length co43 : Value).ownBlock ∧ some k_ ≠ (.slice Ao18 t575.length co18 : Value).ownBlock) ∧ some k_ ≠ (.slice Ao19 t578.length co19 : Value).ownBlock) ∧ some k_ ≠ (.slice Ao25 t586.length co25 : Value).ownBlock) ∧ some k_ ≠ (.slice Ao26 t589.length co26 : Value).ownBlock) ∧ some k_ ≠ (.slice Ao34 t599.length co34 : Value).ownBlock) ∧ some k_ ≠ (.slice Ao35 t602.length co35 : Value).ownBlock)) (n := t614.length) (c := co44) ?_).2.2; exact (by (with_reducible repeat (first | apply Kd.R_alloc | apply Kd.R_drewN | apply Kd.R_drew)); exact (Kd.R_mono (Kd.R_far (p := ⟨gb618, 4, none⟩) (Kd.R_far (p := ⟨gb618, 3, none⟩) (Kd.R_far (p := ⟨gb618, 2, none⟩) (Kd.R_far (p := ⟨gb618, 1, none⟩) (Kd.R_far (p := ⟨gb618, 0, none⟩) (Kd.R_types HO616.out BK618.out (by decide)) (fun _ hk => hk.2) (.int .i64 t606)) (fun _ hk => hk.2) (.int .i64 t607)) (fun _ hk => hk.2) (.slice Ao42 t608.length co42)) (fun _ hk => hk.2) (.slice Ao43 t611.length co43)) (fun _ hk => hk.2) (.slice Ao44 t614.length co44)) (fun _ h_ => h_.1)))); (case s6 => exact r1 HO616); (case s7 => refine (Kd.R_reads' (e := 58) (base := w.heap.size) (ok := fun k_ => (((True ∧ some k_ ≠ (.slice Ao17 t572.length co17 : Value).ownBlock) ∧ some k_ ≠ (.slice Ao33 t596.length co33 : Value).ownBlock) ∧ some k_ ≠ (.slice Ao42 t608.length co42 : Value).ownBlock)) (n := t583.length) (c := co24) ?_).2.2; exact (by (with_reducible repeat (first | apply Kd.R_alloc | apply Kd.R_drewN | apply Kd.R_drew)); exact (Kd.R_mono (Kd.R_far (p := ⟨gb618, 4, none⟩) (Kd.R_far (p := ⟨gb618, 3, none⟩) (Kd.R_far (p := ⟨gb618, 2, none⟩) (Kd.R_far (p := ⟨gb618, 1, none⟩) (Kd.R_far (p := ⟨gb618, 0, none⟩) (Kd.R_types HO585.out BK618.out (by decide)) (fun _ hk => hk.2) (.int .i64 t606)) (fun _ hk => hk.2) (.int .i64 t607)) (fun _ hk => hk.2) (.slice Ao42 t608.length co42)) (fun _ hk => hk.2) (.slice Ao43 t611.length co43)) (fun _ hk => hk.2) (.slice Ao44 t614.length co44)) (fun _ h_ => h_.1)))); (case s8 => exact r1 HO585); (case s9 => refine (Kd.R_reads' (e := 60) (base := w.heap.size) (ok := fun k_ => ((((((some k_ ≠ (.slice Ao26 t589.length co26 : Value).ownBlock ∧ some k_ ≠ (.slice Ao18 t575.length co18 : Value).ownBlock) ∧ some k_ ≠ (.slice Ao19 t578.length co19 : Value).ownBlock) ∧ some k_ ≠ (.slice Ao34 t599.length co34 : Value).ownBlock) ∧ some k_ ≠ (.slice Ao35 t602.length co35 : Value).ownBlock) ∧ some k_ ≠ (.slice Ao43 t611.length co43 : Value).ownBlock) ∧ some k_ ≠ (.slice Ao44 t614.length co44 : Value).ownBlock)) (n := t586.length) (c := co25) ?_).2.2; exact (by (with_reducible repeat (first | apply Kd.R_alloc | apply Kd.R_drewN | apply Kd.R_drew)); exact (Kd.R_mono (Kd.R_far (p := ⟨gb618, 4, none⟩) (Kd.R_far (p := ⟨gb618, 3, none⟩) (Kd.R_far (p := ⟨gb618, 2, none⟩) (Kd.R_far (p := ⟨gb618, 1, none⟩) (Kd.R_far (p := ⟨gb618, 0, none⟩) (Kd.R_types HO588.out BK618.out (by decide)) (fun _ hk => hk.2) (.int .i64 t606)) (fun _ hk => hk.2) (.int .i64 t607)) (fun _ hk => hk.2) (.slice Ao42 t608.length co42)) (fun _ hk => hk.2) (.slice Ao43 t611.length co43)) (fun _ hk => hk.2) (.slice Ao44 t614.length co44)) (fun _ h_ => h_.1)))); (case s10 => exact r1 HO588); (case s11 => refine (Kd.R_reads' (e := 60) (base := w.heap.size) (ok := fun k_ => ((((((some k_ ≠ (.slice Ao25 t586.length co25 : Value).ownBlock ∧ some k_ ≠ (.slice Ao18 t575.length co18 : Value).ownBlock) ∧ some k_ ≠ (.slice Ao19 t578.length co19 : Value).ownBlock) ∧ some k_ ≠ (.slice Ao34 t599.length co34 : Value).ownBlock) ∧ some k_ ≠ (.slice Ao35 t602.length co35 : Value).ownBlock) ∧ some k_ ≠ (.slice Ao43 t611.length co43 : Value).ownBlock) ∧ some k_ ≠ (.slice Ao44 t614.length co44 : Value).ownBlock)) (n := t589.length) (c := co26) ?_).2.2; exact (by (with_reducible repeat (first | apply Kd.R_alloc | apply Kd.R_drewN | apply Kd.R_drew)); exact (Kd.R_mono (Kd.R_far (p := ⟨gb618, 4, none⟩) (Kd.R_far (p := ⟨gb618, 3, none⟩) (Kd.R_far (p := ⟨gb618, 2, none⟩) (Kd.R_far (p := ⟨gb618, 1, none⟩) (Kd.R_far (p := ⟨gb618, 0, none⟩) (Kd.R_types HO591.out BK618.out (by decide)) (fun _ hk => hk.2) (.int .i64 t606)) (fun _ hk => hk.2) (.int .i64 t607)) (fun _ hk => hk.2) (.slice Ao42 t608.length co42)) (fun _ hk => hk.2) (.slice Ao43 t611.length co43)) (fun _ hk => hk.2) (.slice Ao44 t614.length co44)) (fun _ h_ => h_.1)))); (case s12 => exact r1 HO591); rintro e w54 ⟨rfl, hb⟩; refine ⟨_, rfl, ?_⟩; replace HO585 := Aside0.mk (Kd.R_below (by (with_reducible repeat (first | apply Kd.R_alloc | apply Kd.R_drewN | apply Kd.R_drew)); exact (Kd.R_mono (Kd.R_far (p := ⟨gb618, 4, none⟩) (Kd.R_far (p := ⟨gb618, 3, none⟩) (Kd.R_far (p := ⟨gb618, 2, none⟩) (Kd.R_far (p := ⟨gb618, 1, none⟩) (Kd.R_far (p := ⟨gb618, 0, none⟩) (Kd.R_types HO585.out BK618.out (by decide)) (fun _ hk => hk.2) (.int .i64 t606)) (fun _ hk => hk.2) (.int .i64 t607)) (fun _ hk => hk.2) (.slice Ao42 t608.length co42)) (fun _ hk => hk.2) (.slice Ao43 t611.length co43)) (fun _ hk => hk.2) (.slice Ao44 t614.length co44)) (fun _ h_ => h_.1))) hb); replace HO588 := Aside0.mk (Kd.R_below (by (with_reducible repeat (first | apply Kd.R_alloc | apply Kd.R_drewN | apply Kd.R_drew)); exact (Kd.R_mono (Kd.R_far (p := ⟨gb618, 4, none⟩) (Kd.R_far (p := ⟨gb618, 3, none⟩) (Kd.R_far (p := ⟨gb618, 2, none⟩) (Kd.R_far (p := ⟨gb618, 1, none⟩) (Kd.R_far (p := ⟨gb618, 0, none⟩) (Kd.R_types HO588.out BK618.out (by decide)) (fun _ hk => hk.2) (.int .i64 t606)) (fun _ hk => hk.2) (.int .i64 t607)) (fun _ hk => hk.2) (.slice Ao42 t608.length co42)) (fun _ hk => hk.2) (.slice Ao43 t611.length co43)) (fun _ hk => hk.2) (.slice Ao44 t614.length co44)) (fun _ h_ => h_.1))) hb); replace HO591 := Aside0.mk (Kd.R_below (by (with_reducible repeat (first | apply Kd.R_alloc | apply Kd.R_drewN | apply Kd.R_drew)); exact (Kd.R_mono (Kd.R_far (p := ⟨gb618, 4, none⟩) (Kd.R_far (p := ⟨gb618, 3, none⟩) (Kd.R_far (p := ⟨gb618, 2, none⟩) (Kd.R_far (p := ⟨gb618, 1, none⟩) (Kd.R_far (p := ⟨gb618, 0, none⟩) (Kd.R_types HO591.out BK618.out (by decide)) (fun _ hk => hk.2) (.int .i64 t606)) (fun _ hk => hk.2) (.int .i64 t607)) (fun _ hk => hk.2) (.slice Ao42 t608.length co42)) (fun _ hk => hk.2) (.slice Ao43 t611.length co43)) (fun _ hk => hk.2) (.slice Ao44 t614.length co44)) (fun _ h_ => h_.1))) hb); replace HO598 := Aside0.mk (Kd.R_below (by (with_reducible repeat (first | apply Kd.R_alloc | apply Kd.R_drewN | apply Kd.R_drew)); exact (Kd.R_mono (Kd.R_far (p := ⟨gb618, 4, none⟩) (Kd.R_far (p := ⟨gb618, 3, none⟩) (Kd.R_far (p := ⟨gb618, 2, none⟩) (Kd.R_far (p := ⟨gb618, 1, none⟩) (Kd.R_far (p := ⟨gb618, 0, none⟩) (Kd.R_types HO598.out BK618.out (by decide)) (fun _ hk => hk.2) (.int .i64 t606)) (fun _ hk => hk.2) (.int .i64 t607)) (fun _ hk => hk.2) (.slice Ao42 t608.length co42)) (fun _ hk => hk.2) (.slice Ao43 t611.length co43)) (fun _ hk => hk.2) (.slice Ao44 t614.length co44)) (fun _ h_ => h_.1))) hb); replace HO601 := Aside0.mk (Kd.R_below (by (with_reducible repeat (first | apply Kd.R_alloc | apply Kd.R_drewN | apply Kd.R_drew)); exact (Kd.R_mono (Kd.R_far (p := ⟨gb618, 4, none⟩) (Kd.R_far (p := ⟨gb618, 3, none⟩) (Kd.R_far (p := ⟨gb618, 2, none⟩) (Kd.R_far (p := ⟨gb618, 1, none⟩) (Kd.R_far (p := ⟨gb618, 0, none⟩) (Kd.R_types HO601.out BK618.out (by decide)) (fun _ hk => hk.2) (.int .i64 t606)) (fun _ hk => hk.2) (.int .i64 t607)) (fun _ hk => hk.2) (.slice Ao42 t608.length co42)) (fun _ hk => hk.2) (.slice Ao43 t611.length co43)) (fun _ hk => hk.2) (.slice Ao44 t614.length co44)) (fun _ h_ => h_.1))) hb); replace HO604 := Aside0.mk (Kd.R_below (by (with_reducible repeat (first | apply Kd.R_alloc | apply Kd.R_drewN | apply Kd.R_drew)); exact (Kd.R_mono (Kd.R_far (p := ⟨gb618, 4, none⟩) (Kd.R_far (p := ⟨gb618, 3, none⟩) (Kd.R_far (p := ⟨gb618, 2, none⟩) (Kd.R_far (p := ⟨gb618, 1, none⟩) (Kd.R_far (p := ⟨gb618, 0, none⟩) (Kd.R_types HO604.out BK618.out (by decide)) (fun _ hk => hk.2) (.int .i64 t606)) (fun _ hk => hk.2) (.int .i64 t607)) (fun _ hk => hk.2) (.slice Ao42 t608.length co42)) (fun _ hk => hk.2) (.slice Ao43 t611.length co43)) (fun _ hk => hk.2) (.slice Ao44 t614.length co44)) (fun _ h_ => h_.1))) hb); replace HO610 := Aside0.mk (Kd.R_below (by (with_reducible repeat (first | apply Kd.R_alloc | apply Kd.R_drewN | apply Kd.R_drew)); exact (Kd.R_mono (Kd.R_far (p := ⟨gb618, 4, none⟩) (Kd.R_far (p := ⟨gb618, 3, none⟩) (Kd.R_far (p := ⟨gb618, 2, none⟩) (Kd.R_far (p := ⟨gb618, 1, none⟩) (Kd.R_far (p := ⟨gb618, 0, none⟩) (Kd.R_types HO610.out BK618.out (by decide)) (fun _ hk => hk.2) (.int .i64 t606)) (fun _ hk => hk.2) (.int .i64 t607)) (fun _ hk => hk.2) (.slice Ao42 t608.length co42)) (fun _ hk => hk.2) (.slice Ao43 t611.length co43)) (fun _ hk => hk.2) (.slice Ao44 t614.length co44)) (fun _ h_ => h_.1))) hb); replace HO613 := Aside0.mk (Kd.R_below (by (with_reducible repeat (first | apply Kd.R_alloc | apply Kd.R_drewN | apply Kd.R_drew)); exact (Kd.R_mono (Kd.R_far (p := ⟨gb618, 4, none⟩) (Kd.R_far (p := ⟨gb618, 3, none⟩) (Kd.R_far (p := ⟨gb618, 2, none⟩) (Kd.R_far (p := ⟨gb618, 1, none⟩) (Kd.R_far (p := ⟨gb618, 0, none⟩) (Kd.R_types HO613.out BK618.out (by decide)) (fun _ hk => hk.2) (.int .i64 t606)) (fun _ hk => hk.2) (.int .i64 t607)) (fun _ hk => hk.2) (.slice Ao42 t608.length co42)) (fun _ hk => hk.2) (.slice Ao43 t611.length co43)) (fun _ hk => hk.2) (.slice Ao44 t614.length co44)) (fun _ h_ => h_.1))) hb); replace HO616 := Aside0.mk (Kd.R_below (by (with_reducible repeat (first | apply Kd.R_alloc | apply Kd.R_drewN | apply Kd.R_drew)); exact (Kd.R_mono (Kd.R_far (p := ⟨gb618, 4, none⟩) (Kd.R_far (p := ⟨gb618, 3, none⟩) (Kd.R_far (p := ⟨gb618, 2, none⟩) (Kd.R_far (p := ⟨gb618, 1, none⟩) (Kd.R_far (p := ⟨gb618, 0, none⟩) (Kd.R_types HO616.out BK618.out (by decide)) (fun _ hk => hk.2) (.int .i64 t606)) (fun _ hk => hk.2) (.int .i64 t607)) (fun _ hk => hk.2) (.slice Ao42 t608.length co42)) (fun _ hk => hk.2) (.slice Ao43 t611.length co43)) (fun _ hk => hk.2) (.slice Ao44 t614.length co44)) (fun _ h_ => h_.1))) hb); replace BK568 := Aside0.mk (blk_below (g := gb568) (o := .cells #[.int .i64 a0_0, .int .i64 a0_1, .slice A0_2 l0_2.length c0_2, .slice A0_3 l0_3.length c0_3, .slice A0_4 l0_4.length c0_4] 27 (0, 0)) (by (with_reducible repeat (first | refine blk_drewN ?_ _ | refine blk_drew ?_ | refine blk_alloc ?_ _)); refine blk_far ?_ NB568_618.out _; (with_reducible repeat (first | refine blk_drewN ?_ _ | refine blk_drew ?_ | refine blk_alloc ?_ _)); refine blk_far ?_ NB568_618.out _; (with_reducible repeat (first | refine blk_drewN ?_ _ | refine blk_drew ?_ | refine blk_alloc ?_ _)); refine blk_far ?_ NB568_618.out _; (with_reducible repeat (first | refine blk_drewN ?_ _ | refine blk_drew ?_ | refine blk_alloc ?_ _)); refine blk_far ?_ NB568_618.out _; (with_reducible repeat (first | refine blk_drewN ?_ _ | refine blk_drew ?_ | refine blk_alloc ?_ _)); refine blk_far ?_ NB568_618.out _; (with_reducible repeat (first | refine blk_drewN ?_ _ | refine blk_drew ?_ | refine blk_alloc ?_ _)); exact BK568.out) hb); replace BK593 := Aside0.mk (blk_below (g := gb593) (o := .cells #[.int .i64 t581, .int .i64 t582, .slice Ao24 t583.length co24, .slice Ao25 t586.length co25, .slice Ao26 t589.length co26] 35 (0, 0)) (by (with_reducible repeat (first | refine blk_drewN ?_ _ | refine blk_drew ?_ | refine blk_alloc ?_ _)); refine blk_far ?_ NB593_618.out _; (with_reducible repeat (first | refine blk_drewN ?_ _ | refine blk_drew ?_ | refine blk_alloc ?_ _)); refine blk_far ?_ NB593_618.out _; (with_reducible repeat (first | refine blk_drewN ?_ _ | refine blk_drew ?_ | refine blk_alloc ?_ _)); refine blk_far ?_ NB593_618.out _; (with_reducible repeat (first | refine blk_drewN ?_ _ | refine blk_drew ?_ | refine blk_alloc ?_ _)); refine blk_far ?_ NB593_618.out _; (with_reducible repeat (first | refine blk_drewN ?_ _ | refine blk_drew ?_ | refine blk_alloc ?_ _)); refine blk_far ?_ NB593_618.out _; (with_reducible repeat (first | refine blk_drewN ?_ _ | refine blk_drew ?_ | refine blk_alloc ?_ _)); exact BK593.out) hb); replace BK605 := Aside0.mk (blk_below (g := gb605) (o := .cells #[.int .i64 t594, .int .i64 t595, .slice Ao33 t596.length co33, .slice Ao34 t599.length co34, .slice Ao35 t602.length co35] 35 (0, 0)) (by (with_reducible repeat (first | refine blk_drewN ?_ _ | refine blk_drew ?_ | refine blk_alloc ?_ _)); refine blk_far ?_ NB605_618.out _; (with_reducible repeat (first | refine blk_drewN ?_ _ | refine blk_drew ?_ | refine blk_alloc ?_ _)); refine blk_far ?_ NB605_618.out _; (with_reducible repeat (first | refine blk_drewN ?_ _ | refine blk_drew ?_ | refine blk_alloc ?_ _)); refine blk_far ?_ NB605_618.out _; (with_reducible repeat (first | refine blk_drewN ?_ _ | refine blk_drew ?_ | refine blk_alloc ?_ _)); refine blk_far ?_ NB605_618.out _; (with_reducible repeat (first | refine blk_drewN ?_ _ | refine blk_drew ?_ | refine blk_alloc ?_ _)); refine blk_far ?_ NB605_618.out _; (with_reducible repeat (first | refine blk_drewN ?_ _ | refine blk_drew ?_ | refine blk_alloc ?_ _)); exact BK605.out) hb); replace BK618 := Aside0.mk (blk_below (g := gb618) (o := .cells #[.int .i64 t606, .int .i64 t607, .slice Ao42 t608.length co42, .slice Ao43 t611.length co43, .slice Ao44 t614.length co44] 35 (0, 0)) (by (with_reducible repeat (first | refine blk_drewN ?_ _ | refine blk_drew ?_ | refine blk_alloc ?_ _)); refine blk_put (cs := #[.int .i64 t606, .int .i64 t607, .slice Ao42 t608.length co42, .slice Ao43 t611.length co43, .slice none 0 0]) ?_ 4 _ rfl; (with_reducible repeat (first | refine blk_drewN ?_ _ | refine blk_drew ?_ | refine blk_alloc ?_ _)); refine blk_put (cs := #[.int .i64 t606, .int .i64 t607, .slice Ao42 t608.length co42, .slice none 0 0, .slice none 0 0]) ?_ 3 _ rfl; (with_reducible repeat (first | refine blk_drewN ?_ _ | refine blk_drew ?_ | refine blk_alloc ?_ _)); refine blk_put (cs := #[.int .i64 t606, .int .i64 t607, .slice none 0 0, .slice none 0 0, .slice none 0 0]) ?_ 2 _ rfl; (with_reducible repeat (first | refine blk_drewN ?_ _ | refine blk_drew ?_ | refine blk_alloc ?_ _)); refine blk_put (cs := #[.int .i64 t606, .int .i64 0, .slice none 0 0, .slice none 0 0, .slice none 0 0]) ?_ 1 _ rfl; (with_reducible repeat (first | refine blk_drewN ?_ _ | refine blk_drew ?_ | refine blk_alloc ?_ _)); refine blk_put (cs := #[.int .i64 0, .int .i64 0, .slice none 0 0, .slice none 0 0, .slice none 0 0]) ?_ 0 _ rfl; (with_reducible repeat (first | refine blk_drewN ?_ _ | refine blk_drew ?_ | refine blk_alloc ?_ _)); exact BK618.out) hb); replace HB := sb hb; (try clear hb hb2 hk hi)))
    go_meet
    case rel => exact ⟨_, ((t617 != t592)), sq, H', ⟨by first | omega | exact Nat.le_refl _⟩, ⟨by (with_reducible repeat (first | apply Kd.R_alloc | apply Kd.R_drewN | apply Kd.R_drew)); exact Kd.R_mono HO585.out (fun _ hk => ⟨hk.1.2, hk.2⟩)⟩, ⟨by (with_reducible repeat (first | apply Kd.R_alloc | apply Kd.R_drewN | apply Kd.R_drew)); exact Kd.R_mono HO588.out (fun _ hk => ⟨hk.1.1.1.1.1.1, ⟨hk.1.1.1.2, ⟨hk.1.1.2, ⟨hk.1.2, hk.2⟩⟩⟩⟩)⟩, ⟨by (with_reducible repeat (first | apply Kd.R_alloc | apply Kd.R_drewN | apply Kd.R_drew)); exact Kd.R_mono HO591.out (fun _ hk => ⟨hk.1.1.1.1.1.1, ⟨hk.1.1.1.2, ⟨hk.1.1.2, ⟨hk.1.2, hk.2⟩⟩⟩⟩)⟩, ⟨by (with_reducible repeat (first | apply Kd.R_alloc | apply Kd.R_drewN | apply Kd.R_drew)); exact Kd.R_mono HO598.out (fun _ hk => ⟨hk.1.2, hk.2⟩)⟩, ⟨by (with_reducible repeat (first | apply Kd.R_alloc | apply Kd.R_drewN | apply Kd.R_drew)); exact Kd.R_mono HO601.out (fun _ hk => ⟨hk.1.1.1.2, ⟨hk.1.1.2, ⟨hk.1.1.1.1.1.1, ⟨hk.1.2, hk.2⟩⟩⟩⟩)⟩, ⟨by (with_reducible repeat (first | apply Kd.R_alloc | apply Kd.R_drewN | apply Kd.R_drew)); exact Kd.R_mono HO604.out (fun _ hk => ⟨hk.1.1.1.2, ⟨hk.1.1.2, ⟨hk.1.1.1.1.1.1, ⟨hk.1.2, hk.2⟩⟩⟩⟩)⟩, ⟨by (with_reducible repeat (first | apply Kd.R_alloc | apply Kd.R_drewN | apply Kd.R_drew)); exact Kd.R_mono HO610.out (fun _ hk => ⟨hk.1.2, hk.2⟩)⟩, ⟨by (with_reducible repeat (first | apply Kd.R_alloc | apply Kd.R_drewN | apply Kd.R_drew)); exact Kd.R_mono HO613.out (fun _ hk => ⟨hk.1.1.1.2, ⟨hk.1.1.2, ⟨hk.1.2, ⟨hk.2, hk.1.1.1.1.1.1⟩⟩⟩⟩)⟩, ⟨by (with_reducible repeat (first | apply Kd.R_alloc | apply Kd.R_drewN | apply Kd.R_drew)); exact Kd.R_mono HO616.out (fun _ hk => ⟨hk.1.1.1.2, ⟨hk.1.1.2, ⟨hk.1.2, ⟨hk.2, hk.1.1.1.1.1.1⟩⟩⟩⟩)⟩, ⟨zq BK568⟩, ⟨zq BK593⟩, ⟨zq BK605⟩, ⟨zq BK618⟩, ⟨bq⟩⟩
   ·replace c46 := Bool.eq_false_iff.mpr c46
    subst c46
    rw [if_neg (show ¬ (false = true) by decide)] at H
    try dsimp only at H
    have H' := Aside0.mk H
    clear H
    have hnb55 := NB618_568.out
    have hnc55 := NB568_618.out
    have hnb56 := NB618_593.out
    have hnc56 := NB593_618.out
    have hnb57 := NB618_605.out
    have hnc57 := NB605_618.out
    have ⟨hcz58_0, hcz58_1, hcz58_2, hcz58_3, hcz58_4, hfz58_0, hfz58_1, hfz58_2, hfz58_3, hfz58_4⟩ := bc5 BK618
    have hnb59 := NB593_568.out
    have hnc59 := NB568_593.out
    have hnb60 := NB593_605.out
    have hnc60 := NB605_593.out
    have ⟨hcz61_0, hcz61_1, hcz61_2, hcz61_3, hcz61_4, hfz61_0, hfz61_1, hfz61_2, hfz61_3, hfz61_4⟩ := bc5 BK593
    go_wp2_with (first | ((with_reducible refine gate_callee (f := 18) rfl ?_); refine goesQ (some 34) Try.func18 #[.agg #[.int .i64 t606, .int .i64 t607, .slice Ao42 t608.length co42, .slice Ao43 t611.length co43, .slice Ao44 t614.length co44], .agg #[.int .i64 t581, .int .i64 t582, .slice Ao24 t583.length co24, .slice Ao25 t586.length co25, .slice Ao26 t589.length co26]] ?_; (with_reducible refine (laws_eqSession.calls k t606 t607 _ _ t608 _ _ t611 _ _ t614 t581 t582 _ _ t583 _ _ t586 _ _ t589 false _ ?s1 ?s2 ?s3 ?s4 ?s5 ?s6 ?s7 ?s8 ?s9 ?s10 ?s11 ?s12 A45.out).mono ?_); (case s1 => refine (Kd.R_reads' (e := 58) (base := w.heap.size) (ok := fun k_ => (((True ∧ some k_ ≠ (.slice Ao17 t572.length co17 : Value).ownBlock) ∧ some k_ ≠ (.slice Ao24 t583.length co24 : Value).ownBlock) ∧ some k_ ≠ (.slice Ao33 t596.length co33 : Value).ownBlock)) (n := t608.length) (c := co42) ?_).2.2; exact (by (with_reducible repeat (first | apply Kd.R_alloc | apply Kd.R_drewN | apply Kd.R_drew)); exact (Kd.R_mono (Kd.R_far (p := ⟨gb618, 4, none⟩) (Kd.R_far (p := ⟨gb618, 3, none⟩) (Kd.R_far (p := ⟨gb618, 2, none⟩) (Kd.R_far (p := ⟨gb618, 1, none⟩) (Kd.R_far (p := ⟨gb618, 0, none⟩) (Kd.R_types HO610.out BK618.out (by decide)) (fun _ hk => hk.2) (.int .i64 t606)) (fun _ hk => hk.2) (.int .i64 t607)) (fun _ hk => hk.2) (.slice Ao42 t608.length co42)) (fun _ hk => hk.2) (.slice Ao43 t611.length co43)) (fun _ hk => hk.2) (.slice Ao44 t614.length co44)) (fun _ h_ => h_.1)))); (case s2 => exact r1 HO610); (case s3 => refine (Kd.R_reads' (e := 60) (base := w.heap.size) (ok := fun k_ => ((((((some k_ ≠ (.slice Ao44 t614.length co44 : Value).ownBlock ∧ some k_ ≠ (.slice Ao18 t575.length co18 : Value).ownBlock) ∧ some k_ ≠ (.slice Ao19 t578.length co19 : Value).ownBlock) ∧ some k_ ≠ (.slice Ao25 t586.length co25 : Value).ownBlock) ∧ some k_ ≠ (.slice Ao26 t589.length co26 : Value).ownBlock) ∧ some k_ ≠ (.slice Ao34 t599.length co34 : Value).ownBlock) ∧ some k_ ≠ (.slice Ao35 t602.length co35 : Value).ownBlock)) (n := t611.length) (c := co43) ?_).2.2; exact (by (with_reducible repeat (first | apply Kd.R_alloc | apply Kd.R_drewN | apply Kd.R_drew)); exact (Kd.R_mono (Kd.R_far (p := ⟨gb618, 4, none⟩) (Kd.R_far (p := ⟨gb618, 3, none⟩) (Kd.R_far (p := ⟨gb618, 2, none⟩) (Kd.R_far (p := ⟨gb618, 1, none⟩) (Kd.R_far (p := ⟨gb618, 0, none⟩) (Kd.R_types HO613.out BK618.out (by decide)) (fun _ hk => hk.2) (.int .i64 t606)) (fun _ hk => hk.2) (.int .i64 t607)) (fun _ hk => hk.2) (.slice Ao42 t608.length co42)) (fun _ hk => hk.2) (.slice Ao43 t611.length co43)) (fun _ hk => hk.2) (.slice Ao44 t614.length co44)) (fun _ h_ => h_.1)))); (case s4 => exact r1 HO613); (case s5 => refine (Kd.R_reads' (e := 60) (base := w.heap.size) (ok := fun k_ => ((((((some k_ ≠ (.slice Ao43 t611.length co43 : Value).ownBlock ∧ some k_ ≠ (.slice Ao18 t575.length co18 : Value).ownBlock) ∧ some k_ ≠ (.slice Ao19 t578.length co19 : Value).ownBlock) ∧ some k_ ≠ (.slice Ao25 t586.length co25 : Value).ownBlock) ∧ some k_ ≠ (.slice Ao26 t589.length co26 : Value).ownBlock) ∧ some k_ ≠ (.slice Ao34 t599.length co34 : Value).ownBlock) ∧ some k_ ≠ (.slice Ao35 t602.length co35 : Value).ownBlock)) (n := t614.length) (c := co44) ?_).2.2; exact (by (with_reducible repeat (first | apply Kd.R_alloc | apply Kd.R_drewN | apply Kd.R_drew)); exact (Kd.R_mono (Kd.R_far (p := ⟨gb618, 4, none⟩) (Kd.R_far (p := ⟨gb618, 3, none⟩) (Kd.R_far (p := ⟨gb618, 2, none⟩) (Kd.R_far (p := ⟨gb618, 1, none⟩) (Kd.R_far (p := ⟨gb618, 0, none⟩) (Kd.R_types HO616.out BK618.out (by decide)) (fun _ hk => hk.2) (.int .i64 t606)) (fun _ hk => hk.2) (.int .i64 t607)) (fun _ hk => hk.2) (.slice Ao42 t608.length co42)) (fun _ hk => hk.2) (.slice Ao43 t611.length co43)) (fun _ hk => hk.2) (.slice Ao44 t614.length co44)) (fun _ h_ => h_.1)))); (case s6 => exact r1 HO616); (case s7 => refine (Kd.R_reads' (e := 58) (base := w.heap.size) (ok := fun k_ => (((True ∧ some k_ ≠ (.slice Ao17 t572.length co17 : Value).ownBlock) ∧ some k_ ≠ (.slice Ao33 t596.length co33 : Value).ownBlock) ∧ some k_ ≠ (.slice Ao42 t608.length co42 : Value).ownBlock)) (n := t583.length) (c := co24) ?_).2.2; exact (by (with_reducible repeat (first | apply Kd.R_alloc | apply Kd.R_drewN | apply Kd.R_drew)); exact (Kd.R_mono (Kd.R_far (p := ⟨gb618, 4, none⟩) (Kd.R_far (p := ⟨gb618, 3, none⟩) (Kd.R_far (p := ⟨gb618, 2, none⟩) (Kd.R_far (p := ⟨gb618, 1, none⟩) (Kd.R_far (p := ⟨gb618, 0, none⟩) (Kd.R_types HO585.out BK618.out (by decide)) (fun _ hk => hk.2) (.int .i64 t606)) (fun _ hk => hk.2) (.int .i64 t607)) (fun _ hk => hk.2) (.slice Ao42 t608.length co42)) (fun _ hk => hk.2) (.slice Ao43 t611.length co43)) (fun _ hk => hk.2) (.slice Ao44 t614.length co44)) (fun _ h_ => h_.1)))); (case s8 => exact r1 HO585); (case s9 => refine (Kd.R_reads' (e := 60) (base := w.heap.size) (ok := fun k_ => ((((((some k_ ≠ (.slice Ao26 t589.length co26 : Value).ownBlock ∧ some k_ ≠ (.slice Ao18 t575.length co18 : Value).ownBlock) ∧ some k_ ≠ (.slice Ao19 t578.length co19 : Value).ownBlock) ∧ some k_ ≠ (.slice Ao34 t599.length co34 : Value).ownBlock) ∧ some k_ ≠ (.slice Ao35 t602.length co35 : Value).ownBlock) ∧ some k_ ≠ (.slice Ao43 t611.length co43 : Value).ownBlock) ∧ some k_ ≠ (.slice Ao44 t614.length co44 : Value).ownBlock)) (n := t586.length) (c := co25) ?_).2.2; exact (by (with_reducible repeat (first | apply Kd.R_alloc | apply Kd.R_drewN | apply Kd.R_drew)); exact (Kd.R_mono (Kd.R_far (p := ⟨gb618, 4, none⟩) (Kd.R_far (p := ⟨gb618, 3, none⟩) (Kd.R_far (p := ⟨gb618, 2, none⟩) (Kd.R_far (p := ⟨gb618, 1, none⟩) (Kd.R_far (p := ⟨gb618, 0, none⟩) (Kd.R_types HO588.out BK618.out (by decide)) (fun _ hk => hk.2) (.int .i64 t606)) (fun _ hk => hk.2) (.int .i64 t607)) (fun _ hk => hk.2) (.slice Ao42 t608.length co42)) (fun _ hk => hk.2) (.slice Ao43 t611.length co43)) (fun _ hk => hk.2) (.slice Ao44 t614.length co44)) (fun _ h_ => h_.1)))); (case s10 => exact r1 HO588); (case s11 => refine (Kd.R_reads' (e := 60) (base := w.heap.size) (ok := fun k_ => ((((((some k_ ≠ (.slice Ao25 t586.length co25 : Value).ownBlock ∧ some k_ ≠ (.slice Ao18 t575.length co18 : Value).ownBlock) ∧ some k_ ≠ (.slice Ao19 t578.length co19 : Value).ownBlock) ∧ some k_ ≠ (.slice Ao34 t599.length co34 : Value).ownBlock) ∧ some k_ ≠ (.slice Ao35 t602.length co35 : Value).ownBlock) ∧ some k_ ≠ (.slice Ao43 t611.length co43 : Value).ownBlock) ∧ some k_ ≠ (.slice Ao44 t614.length co44 : Value).ownBlock)) (n := t589.length) (c := co26) ?_).2.2; exact (by (with_reducible repeat (first | apply Kd.R_alloc | apply Kd.R_drewN | apply Kd.R_drew)); exact (Kd.R_mono (Kd.R_far (p := ⟨gb618, 4, none⟩) (Kd.R_far (p := ⟨gb618, 3, none⟩) (Kd.R_far (p := ⟨gb618, 2, none⟩) (Kd.R_far (p := ⟨gb618, 1, none⟩) (Kd.R_far (p := ⟨gb618, 0, none⟩) (Kd.R_types HO591.out BK618.out (by decide)) (fun _ hk => hk.2) (.int .i64 t606)) (fun _ hk => hk.2) (.int .i64 t607)) (fun _ hk => hk.2) (.slice Ao42 t608.length co42)) (fun _ hk => hk.2) (.slice Ao43 t611.length co43)) (fun _ hk => hk.2) (.slice Ao44 t614.length co44)) (fun _ h_ => h_.1)))); (case s12 => exact r1 HO591); rintro e w62 ⟨rfl, hb⟩; refine ⟨_, rfl, ?_⟩; replace HO585 := Aside0.mk (Kd.R_below (by (with_reducible repeat (first | apply Kd.R_alloc | apply Kd.R_drewN | apply Kd.R_drew)); exact (Kd.R_mono (Kd.R_far (p := ⟨gb618, 4, none⟩) (Kd.R_far (p := ⟨gb618, 3, none⟩) (Kd.R_far (p := ⟨gb618, 2, none⟩) (Kd.R_far (p := ⟨gb618, 1, none⟩) (Kd.R_far (p := ⟨gb618, 0, none⟩) (Kd.R_types HO585.out BK618.out (by decide)) (fun _ hk => hk.2) (.int .i64 t606)) (fun _ hk => hk.2) (.int .i64 t607)) (fun _ hk => hk.2) (.slice Ao42 t608.length co42)) (fun _ hk => hk.2) (.slice Ao43 t611.length co43)) (fun _ hk => hk.2) (.slice Ao44 t614.length co44)) (fun _ h_ => h_.1))) hb); replace HO588 := Aside0.mk (Kd.R_below (by (with_reducible repeat (first | apply Kd.R_alloc | apply Kd.R_drewN | apply Kd.R_drew)); exact (Kd.R_mono (Kd.R_far (p := ⟨gb618, 4, none⟩) (Kd.R_far (p := ⟨gb618, 3, none⟩) (Kd.R_far (p := ⟨gb618, 2, none⟩) (Kd.R_far (p := ⟨gb618, 1, none⟩) (Kd.R_far (p := ⟨gb618, 0, none⟩) (Kd.R_types HO588.out BK618.out (by decide)) (fun _ hk => hk.2) (.int .i64 t606)) (fun _ hk => hk.2) (.int .i64 t607)) (fun _ hk => hk.2) (.slice Ao42 t608.length co42)) (fun _ hk => hk.2) (.slice Ao43 t611.length co43)) (fun _ hk => hk.2) (.slice Ao44 t614.length co44)) (fun _ h_ => h_.1))) hb); replace HO591 := Aside0.mk (Kd.R_below (by (with_reducible repeat (first | apply Kd.R_alloc | apply Kd.R_drewN | apply Kd.R_drew)); exact (Kd.R_mono (Kd.R_far (p := ⟨gb618, 4, none⟩) (Kd.R_far (p := ⟨gb618, 3, none⟩) (Kd.R_far (p := ⟨gb618, 2, none⟩) (Kd.R_far (p := ⟨gb618, 1, none⟩) (Kd.R_far (p := ⟨gb618, 0, none⟩) (Kd.R_types HO591.out BK618.out (by decide)) (fun _ hk => hk.2) (.int .i64 t606)) (fun _ hk => hk.2) (.int .i64 t607)) (fun _ hk => hk.2) (.slice Ao42 t608.length co42)) (fun _ hk => hk.2) (.slice Ao43 t611.length co43)) (fun _ hk => hk.2) (.slice Ao44 t614.length co44)) (fun _ h_ => h_.1))) hb); replace HO598 := Aside0.mk (Kd.R_below (by (with_reducible repeat (first | apply Kd.R_alloc | apply Kd.R_drewN | apply Kd.R_drew)); exact (Kd.R_mono (Kd.R_far (p := ⟨gb618, 4, none⟩) (Kd.R_far (p := ⟨gb618, 3, none⟩) (Kd.R_far (p := ⟨gb618, 2, none⟩) (Kd.R_far (p := ⟨gb618, 1, none⟩) (Kd.R_far (p := ⟨gb618, 0, none⟩) (Kd.R_types HO598.out BK618.out (by decide)) (fun _ hk => hk.2) (.int .i64 t606)) (fun _ hk => hk.2) (.int .i64 t607)) (fun _ hk => hk.2) (.slice Ao42 t608.length co42)) (fun _ hk => hk.2) (.slice Ao43 t611.length co43)) (fun _ hk => hk.2) (.slice Ao44 t614.length co44)) (fun _ h_ => h_.1))) hb); replace HO601 := Aside0.mk (Kd.R_below (by (with_reducible repeat (first | apply Kd.R_alloc | apply Kd.R_drewN | apply Kd.R_drew)); exact (Kd.R_mono (Kd.R_far (p := ⟨gb618, 4, none⟩) (Kd.R_far (p := ⟨gb618, 3, none⟩) (Kd.R_far (p := ⟨gb618, 2, none⟩) (Kd.R_far (p := ⟨gb618, 1, none⟩) (Kd.R_far (p := ⟨gb618, 0, none⟩) (Kd.R_types HO601.out BK618.out (by decide)) (fun _ hk => hk.2) (.int .i64 t606)) (fun _ hk => hk.2) (.int .i64 t607)) (fun _ hk => hk.2) (.slice Ao42 t608.length co42)) (fun _ hk => hk.2) (.slice Ao43 t611.length co43)) (fun _ hk => hk.2) (.slice Ao44 t614.length co44)) (fun _ h_ => h_.1))) hb); replace HO604 := Aside0.mk (Kd.R_below (by (with_reducible repeat (first | apply Kd.R_alloc | apply Kd.R_drewN | apply Kd.R_drew)); exact (Kd.R_mono (Kd.R_far (p := ⟨gb618, 4, none⟩) (Kd.R_far (p := ⟨gb618, 3, none⟩) (Kd.R_far (p := ⟨gb618, 2, none⟩) (Kd.R_far (p := ⟨gb618, 1, none⟩) (Kd.R_far (p := ⟨gb618, 0, none⟩) (Kd.R_types HO604.out BK618.out (by decide)) (fun _ hk => hk.2) (.int .i64 t606)) (fun _ hk => hk.2) (.int .i64 t607)) (fun _ hk => hk.2) (.slice Ao42 t608.length co42)) (fun _ hk => hk.2) (.slice Ao43 t611.length co43)) (fun _ hk => hk.2) (.slice Ao44 t614.length co44)) (fun _ h_ => h_.1))) hb); replace HO610 := Aside0.mk (Kd.R_below (by (with_reducible repeat (first | apply Kd.R_alloc | apply Kd.R_drewN | apply Kd.R_drew)); exact (Kd.R_mono (Kd.R_far (p := ⟨gb618, 4, none⟩) (Kd.R_far (p := ⟨gb618, 3, none⟩) (Kd.R_far (p := ⟨gb618, 2, none⟩) (Kd.R_far (p := ⟨gb618, 1, none⟩) (Kd.R_far (p := ⟨gb618, 0, none⟩) (Kd.R_types HO610.out BK618.out (by decide)) (fun _ hk => hk.2) (.int .i64 t606)) (fun _ hk => hk.2) (.int .i64 t607)) (fun _ hk => hk.2) (.slice Ao42 t608.length co42)) (fun _ hk => hk.2) (.slice Ao43 t611.length co43)) (fun _ hk => hk.2) (.slice Ao44 t614.length co44)) (fun _ h_ => h_.1))) hb); replace HO613 := Aside0.mk (Kd.R_below (by (with_reducible repeat (first | apply Kd.R_alloc | apply Kd.R_drewN | apply Kd.R_drew)); exact (Kd.R_mono (Kd.R_far (p := ⟨gb618, 4, none⟩) (Kd.R_far (p := ⟨gb618, 3, none⟩) (Kd.R_far (p := ⟨gb618, 2, none⟩) (Kd.R_far (p := ⟨gb618, 1, none⟩) (Kd.R_far (p := ⟨gb618, 0, none⟩) (Kd.R_types HO613.out BK618.out (by decide)) (fun _ hk => hk.2) (.int .i64 t606)) (fun _ hk => hk.2) (.int .i64 t607)) (fun _ hk => hk.2) (.slice Ao42 t608.length co42)) (fun _ hk => hk.2) (.slice Ao43 t611.length co43)) (fun _ hk => hk.2) (.slice Ao44 t614.length co44)) (fun _ h_ => h_.1))) hb); replace HO616 := Aside0.mk (Kd.R_below (by (with_reducible repeat (first | apply Kd.R_alloc | apply Kd.R_drewN | apply Kd.R_drew)); exact (Kd.R_mono (Kd.R_far (p := ⟨gb618, 4, none⟩) (Kd.R_far (p := ⟨gb618, 3, none⟩) (Kd.R_far (p := ⟨gb618, 2, none⟩) (Kd.R_far (p := ⟨gb618, 1, none⟩) (Kd.R_far (p := ⟨gb618, 0, none⟩) (Kd.R_types HO616.out BK618.out (by decide)) (fun _ hk => hk.2) (.int .i64 t606)) (fun _ hk => hk.2) (.int .i64 t607)) (fun _ hk => hk.2) (.slice Ao42 t608.length co42)) (fun _ hk => hk.2) (.slice Ao43 t611.length co43)) (fun _ hk => hk.2) (.slice Ao44 t614.length co44)) (fun _ h_ => h_.1))) hb); replace BK568 := Aside0.mk (blk_below (g := gb568) (o := .cells #[.int .i64 a0_0, .int .i64 a0_1, .slice A0_2 l0_2.length c0_2, .slice A0_3 l0_3.length c0_3, .slice A0_4 l0_4.length c0_4] 27 (0, 0)) (by (with_reducible repeat (first | refine blk_drewN ?_ _ | refine blk_drew ?_ | refine blk_alloc ?_ _)); refine blk_far ?_ NB568_618.out _; (with_reducible repeat (first | refine blk_drewN ?_ _ | refine blk_drew ?_ | refine blk_alloc ?_ _)); refine blk_far ?_ NB568_618.out _; (with_reducible repeat (first | refine blk_drewN ?_ _ | refine blk_drew ?_ | refine blk_alloc ?_ _)); refine blk_far ?_ NB568_618.out _; (with_reducible repeat (first | refine blk_drewN ?_ _ | refine blk_drew ?_ | refine blk_alloc ?_ _)); refine blk_far ?_ NB568_618.out _; (with_reducible repeat (first | refine blk_drewN ?_ _ | refine blk_drew ?_ | refine blk_alloc ?_ _)); refine blk_far ?_ NB568_618.out _; (with_reducible repeat (first | refine blk_drewN ?_ _ | refine blk_drew ?_ | refine blk_alloc ?_ _)); exact BK568.out) hb); replace BK593 := Aside0.mk (blk_below (g := gb593) (o := .cells #[.int .i64 t581, .int .i64 t582, .slice Ao24 t583.length co24, .slice Ao25 t586.length co25, .slice Ao26 t589.length co26] 35 (0, 0)) (by (with_reducible repeat (first | refine blk_drewN ?_ _ | refine blk_drew ?_ | refine blk_alloc ?_ _)); refine blk_far ?_ NB593_618.out _; (with_reducible repeat (first | refine blk_drewN ?_ _ | refine blk_drew ?_ | refine blk_alloc ?_ _)); refine blk_far ?_ NB593_618.out _; (with_reducible repeat (first | refine blk_drewN ?_ _ | refine blk_drew ?_ | refine blk_alloc ?_ _)); refine blk_far ?_ NB593_618.out _; (with_reducible repeat (first | refine blk_drewN ?_ _ | refine blk_drew ?_ | refine blk_alloc ?_ _)); refine blk_far ?_ NB593_618.out _; (with_reducible repeat (first | refine blk_drewN ?_ _ | refine blk_drew ?_ | refine blk_alloc ?_ _)); refine blk_far ?_ NB593_618.out _; (with_reducible repeat (first | refine blk_drewN ?_ _ | refine blk_drew ?_ | refine blk_alloc ?_ _)); exact BK593.out) hb); replace BK605 := Aside0.mk (blk_below (g := gb605) (o := .cells #[.int .i64 t594, .int .i64 t595, .slice Ao33 t596.length co33, .slice Ao34 t599.length co34, .slice Ao35 t602.length co35] 35 (0, 0)) (by (with_reducible repeat (first | refine blk_drewN ?_ _ | refine blk_drew ?_ | refine blk_alloc ?_ _)); refine blk_far ?_ NB605_618.out _; (with_reducible repeat (first | refine blk_drewN ?_ _ | refine blk_drew ?_ | refine blk_alloc ?_ _)); refine blk_far ?_ NB605_618.out _; (with_reducible repeat (first | refine blk_drewN ?_ _ | refine blk_drew ?_ | refine blk_alloc ?_ _)); refine blk_far ?_ NB605_618.out _; (with_reducible repeat (first | refine blk_drewN ?_ _ | refine blk_drew ?_ | refine blk_alloc ?_ _)); refine blk_far ?_ NB605_618.out _; (with_reducible repeat (first | refine blk_drewN ?_ _ | refine blk_drew ?_ | refine blk_alloc ?_ _)); refine blk_far ?_ NB605_618.out _; (with_reducible repeat (first | refine blk_drewN ?_ _ | refine blk_drew ?_ | refine blk_alloc ?_ _)); exact BK605.out) hb); replace BK618 := Aside0.mk (blk_below (g := gb618) (o := .cells #[.int .i64 t606, .int .i64 t607, .slice Ao42 t608.length co42, .slice Ao43 t611.length co43, .slice Ao44 t614.length co44] 35 (0, 0)) (by (with_reducible repeat (first | refine blk_drewN ?_ _ | refine blk_drew ?_ | refine blk_alloc ?_ _)); refine blk_put (cs := #[.int .i64 t606, .int .i64 t607, .slice Ao42 t608.length co42, .slice Ao43 t611.length co43, .slice none 0 0]) ?_ 4 _ rfl; (with_reducible repeat (first | refine blk_drewN ?_ _ | refine blk_drew ?_ | refine blk_alloc ?_ _)); refine blk_put (cs := #[.int .i64 t606, .int .i64 t607, .slice Ao42 t608.length co42, .slice none 0 0, .slice none 0 0]) ?_ 3 _ rfl; (with_reducible repeat (first | refine blk_drewN ?_ _ | refine blk_drew ?_ | refine blk_alloc ?_ _)); refine blk_put (cs := #[.int .i64 t606, .int .i64 t607, .slice none 0 0, .slice none 0 0, .slice none 0 0]) ?_ 2 _ rfl; (with_reducible repeat (first | refine blk_drewN ?_ _ | refine blk_drew ?_ | refine blk_alloc ?_ _)); refine blk_put (cs := #[.int .i64 t606, .int .i64 0, .slice none 0 0, .slice none 0 0, .slice none 0 0]) ?_ 1 _ rfl; (with_reducible repeat (first | refine blk_drewN ?_ _ | refine blk_drew ?_ | refine blk_alloc ?_ _)); refine blk_put (cs := #[.int .i64 0, .int .i64 0, .slice none 0 0, .slice none 0 0, .slice none 0 0]) ?_ 0 _ rfl; (with_reducible repeat (first | refine blk_drewN ?_ _ | refine blk_drew ?_ | refine blk_alloc ?_ _)); exact BK618.out) hb); replace HB := sb hb; (try clear hb hb2 hk hi)))
    go_meet
    case rel => exact ⟨_, (true), sq, H', ⟨by first | omega | exact Nat.le_refl _⟩, ⟨by (with_reducible repeat (first | apply Kd.R_alloc | apply Kd.R_drewN | apply Kd.R_drew)); exact Kd.R_mono HO585.out (fun _ hk => ⟨hk.1.2, hk.2⟩)⟩, ⟨by (with_reducible repeat (first | apply Kd.R_alloc | apply Kd.R_drewN | apply Kd.R_drew)); exact Kd.R_mono HO588.out (fun _ hk => ⟨hk.1.1.1.1.1.1, ⟨hk.1.1.1.2, ⟨hk.1.1.2, ⟨hk.1.2, hk.2⟩⟩⟩⟩)⟩, ⟨by (with_reducible repeat (first | apply Kd.R_alloc | apply Kd.R_drewN | apply Kd.R_drew)); exact Kd.R_mono HO591.out (fun _ hk => ⟨hk.1.1.1.1.1.1, ⟨hk.1.1.1.2, ⟨hk.1.1.2, ⟨hk.1.2, hk.2⟩⟩⟩⟩)⟩, ⟨by (with_reducible repeat (first | apply Kd.R_alloc | apply Kd.R_drewN | apply Kd.R_drew)); exact Kd.R_mono HO598.out (fun _ hk => ⟨hk.1.2, hk.2⟩)⟩, ⟨by (with_reducible repeat (first | apply Kd.R_alloc | apply Kd.R_drewN | apply Kd.R_drew)); exact Kd.R_mono HO601.out (fun _ hk => ⟨hk.1.1.1.2, ⟨hk.1.1.2, ⟨hk.1.1.1.1.1.1, ⟨hk.1.2, hk.2⟩⟩⟩⟩)⟩, ⟨by (with_reducible repeat (first | apply Kd.R_alloc | apply Kd.R_drewN | apply Kd.R_drew)); exact Kd.R_mono HO604.out (fun _ hk => ⟨hk.1.1.1.2, ⟨hk.1.1.2, ⟨hk.1.1.1.1.1.1, ⟨hk.1.2, hk.2⟩⟩⟩⟩)⟩, ⟨by (with_reducible repeat (first | apply Kd.R_alloc | apply Kd.R_drewN | apply Kd.R_drew)); exact Kd.R_mono HO610.out (fun _ hk => ⟨hk.1.2, hk.2⟩)⟩, ⟨by (with_reducible repeat (first | apply Kd.R_alloc | apply Kd.R_drewN | apply Kd.R_drew)); exact Kd.R_mono HO613.out (fun _ hk => ⟨hk.1.1.1.2, ⟨hk.1.1.2, ⟨hk.1.2, ⟨hk.2, hk.1.1.1.1.1.1⟩⟩⟩⟩)⟩, ⟨by (with_reducible repeat (first | apply Kd.R_alloc | apply Kd.R_drewN | apply Kd.R_drew)); exact Kd.R_mono HO616.out (fun _ hk => ⟨hk.1.1.1.2, ⟨hk.1.1.2, ⟨hk.1.2, ⟨hk.2, hk.1.1.1.1.1.1⟩⟩⟩⟩)⟩, ⟨zq BK568⟩, ⟨zq BK593⟩, ⟨zq BK605⟩, ⟨zq BK618⟩, ⟨bq⟩⟩
  case rest =>
   clear HC11
   try clear c1
   try clear c2
   try clear p2
   try clear c3
   try clear c3b0
   try clear c4
   try clear c5
   try clear c6
   try clear c7
   try clear c14
   try clear c16
   try clear c18
   try clear c22
   try clear c30
   try clear c31
   try clear c34
   try clear c35
   try clear c38
   try clear c39
   try clear c40
   try clear c46
   try clear c47
   try clear c48
   try clear c49
   try clear c51
   try clear c52
   try clear c55
   try clear c56
   try clear c57
   try clear c59
   try clear c60
   try clear hcz13_0
   try clear hcz13_1
   try clear hcz13_2
   try clear hcz13_3
   try clear hcz13_4
   try clear hcz15_0
   try clear hcz15_1
   try clear hcz15_2
   try clear hcz15_3
   try clear hcz15_4
   try clear hcz23_0
   try clear hcz23_1
   try clear hcz23_2
   try clear hcz23_3
   try clear hcz23_4
   try clear hcz27_0
   try clear hcz27_1
   try clear hcz27_2
   try clear hcz27_3
   try clear hcz27_4
   try clear hcz32_0
   try clear hcz32_1
   try clear hcz32_2
   try clear hcz32_3
   try clear hcz32_4
   try clear hcz41_0
   try clear hcz41_1
   try clear hcz41_2
   try clear hcz41_3
   try clear hcz41_4
   try clear hcz50_0
   try clear hcz50_1
   try clear hcz50_2
   try clear hcz50_3
   try clear hcz50_4
   try clear hcz53_0
   try clear hcz53_1
   try clear hcz53_2
   try clear hcz53_3
   try clear hcz53_4
   try clear hcz58_0
   try clear hcz58_1
   try clear hcz58_2
   try clear hcz58_3
   try clear hcz58_4
   try clear hcz5_0
   try clear hcz5_1
   try clear hcz5_2
   try clear hcz5_3
   try clear hcz5_4
   try clear hcz61_0
   try clear hcz61_1
   try clear hcz61_2
   try clear hcz61_3
   try clear hcz61_4
   try clear hfz13_0
   try clear hfz13_1
   try clear hfz13_2
   try clear hfz13_3
   try clear hfz13_4
   try clear hfz15_0
   try clear hfz15_1
   try clear hfz15_2
   try clear hfz15_3
   try clear hfz15_4
   try clear hfz23_0
   try clear hfz23_1
   try clear hfz23_2
   try clear hfz23_3
   try clear hfz23_4
   try clear hfz27_0
   try clear hfz27_1
   try clear hfz27_2
   try clear hfz27_3
   try clear hfz27_4
   try clear hfz32_0
   try clear hfz32_1
   try clear hfz32_2
   try clear hfz32_3
   try clear hfz32_4
   try clear hfz41_0
   try clear hfz41_1
   try clear hfz41_2
   try clear hfz41_3
   try clear hfz41_4
   try clear hfz50_0
   try clear hfz50_1
   try clear hfz50_2
   try clear hfz50_3
   try clear hfz50_4
   try clear hfz53_0
   try clear hfz53_1
   try clear hfz53_2
   try clear hfz53_3
   try clear hfz53_4
   try clear hfz58_0
   try clear hfz58_1
   try clear hfz58_2
   try clear hfz58_3
   try clear hfz58_4
   try clear hfz5_0
   try clear hfz5_1
   try clear hfz5_2
   try clear hfz5_3
   try clear hfz5_4
   try clear hfz61_0
   try clear hfz61_1
   try clear hfz61_2
   try clear hfz61_3
   try clear hfz61_4
   obtain ⟨kq, x40_10, rfl, HA, HJ10, HO_594002, HO_594003, HO_594004, HO_606002, HO_606003, HO_606004, HO_619002, HO_619003, HO_619004, BK568, BK593, BK605, BK618, HB⟩ := hcut
   cases kq with
   | zero => exact absurd HA.out (by simp [laws_FnExactUndoAct.j0])
   | succ kj10 =>
    have H := HA.out
    clear HA
    simp only [laws_FnExactUndoAct.j0] at H
    by_cases c63 : x40_10 = true
    ·subst c63
     rw [if_pos rfl] at H
     try dsimp only at H
     obtain rfl := Option.some.inj H
     go_wp2
     go_ret
     exact ⟨eq_, bq⟩
    ·replace c63 := Bool.eq_false_iff.mpr c63
     subst c63
     rw [if_neg (show ¬ (false = true) by decide)] at H
     try dsimp only at H
     obtain ⟨⟨t620, t621, t622, t625, t628⟩, A64, H⟩ := bindq H
     try dsimp only at H
     obtain ⟨t631, A65, H⟩ := bindq H
     try dsimp only at H
     by_cases c66 : t631 = true
     ·subst c66
      rw [if_pos rfl] at H
      try dsimp only at H
      obtain ⟨⟨t632, t633, t634, t635⟩, A67, H⟩ := bindq H
      try dsimp only at H
      have HC68 := Aside0.mk H
      clear H
      try go_wp2
      replace HO_594002 := Aside0.mk (Kd.R_drew HO_594002.out)
      replace HO_594003 := Aside0.mk (Kd.R_drew HO_594003.out)
      replace HO_594004 := Aside0.mk (Kd.R_drew HO_594004.out)
      replace HO_606002 := Aside0.mk (Kd.R_drew HO_606002.out)
      replace HO_606003 := Aside0.mk (Kd.R_drew HO_606003.out)
      replace HO_606004 := Aside0.mk (Kd.R_drew HO_606004.out)
      replace HO_619002 := Aside0.mk (Kd.R_drew HO_619002.out)
      replace HO_619003 := Aside0.mk (Kd.R_drew HO_619003.out)
      replace HO_619004 := Aside0.mk (Kd.R_drew HO_619004.out)
      replace BK568 := Aside0.mk (blk_drew BK568.out)
      replace BK593 := Aside0.mk (blk_drew BK593.out)
      replace BK605 := Aside0.mk (blk_drew BK605.out)
      replace BK618 := Aside0.mk (blk_drew BK618.out)
      replace HB := Aside0.mk (below_drew1 HB.out)
      refine start_ (n := 5) (S := fun w' => w'.cell? ⟨gb605, 0, none⟩ = some (.int .i64 t594) ∧ w'.cell? ⟨gb605, 1, none⟩ = some (.int .i64 t595) ∧ w'.cell? ⟨gb605, 2, none⟩ = some (.slice Ao33 t596.length co33) ∧ w'.cell? ⟨gb605, 3, none⟩ = some (.slice Ao34 t599.length co34) ∧ w'.cell? ⟨gb605, 4, none⟩ = some (.slice Ao35 t602.length co35) ∧ w'.cell? ⟨gb568, 0, none⟩ = some (.int .i64 a0_0) ∧ w'.cell? ⟨gb568, 1, none⟩ = some (.int .i64 a0_1) ∧ w'.cell? ⟨gb568, 2, none⟩ = some (.slice A0_2 l0_2.length c0_2) ∧ w'.cell? ⟨gb568, 3, none⟩ = some (.slice A0_3 l0_3.length c0_3) ∧ w'.cell? ⟨gb568, 4, none⟩ = some (.slice A0_4 l0_4.length c0_4)) (ds := []) #[false, false, false, false, false] (by kernel_rfl) rfl rfl ⟨(blk_cell BK605.out 0).trans rfl, (blk_cell BK605.out 1).trans rfl, (blk_cell BK605.out 2).trans rfl, (blk_cell BK605.out 3).trans rfl, (blk_cell BK605.out 4).trans rfl, (blk_cell BK568.out 0).trans rfl, (blk_cell BK568.out 1).trans rfl, (blk_cell BK568.out 2).trans rfl, (blk_cell BK568.out 3).trans rfl, (blk_cell BK568.out 4).trans rfl⟩ (fun hHeld => ?_)
      generalize wc.drew = w69 at HO_594002 HO_594003 HO_594004 HO_606002 HO_606003 HO_606004 HO_619002 HO_619003 HO_619004 BK568 BK593 BK605 BK618 HB hHeld ⊢
      refine take_ (i := 0) (N := some 41) (v := ?_) (a' := ?_) #[true, false, false, false, false] rfl rfl (by kernel_rfl) (fun _ _ _ h => h) (Or.inl ⟨by rfl, ?_⟩) hHeld ?_ ?_
      rotate_left
      ·rintro w' ⟨s0, s1, s2, s3, s4, s5, s6, s7, s8, s9⟩
       go_simp
       with_reducible rfl
      rotate_left
      ·simp only [Act.put, List.setIfInBounds_toArray, List.set_cons_zero, List.set_cons_succ, i64_w, i32_w]
       rfl
      refine take_ (i := 1) (N := some 42) (v := ?_) (a' := ?_) #[true, true, false, false, false] rfl rfl (by kernel_rfl) (fun _ _ _ h => h) (Or.inl ⟨by rfl, ?_⟩) hHeld ?_ ?_
      rotate_left
      ·rintro w' ⟨s0, s1, s2, s3, s4, s5, s6, s7, s8, s9⟩
       go_simp
       with_reducible rfl
      rotate_left
      ·simp only [Act.put, List.setIfInBounds_toArray, List.set_cons_zero, List.set_cons_succ, i64_w, i32_w]
       rfl
      refine one_ (i := 2) (N := some 43) #[true, true, true, false, false] rfl rfl (by kernel_rfl) (by decide) (fun K hK => ?_)
      refine goes_ Try.func16 (by kernel_rfl) rfl #[.agg #[.int .i64 a0_0, .int .i64 a0_1, .slice A0_2 l0_2.length c0_2, .slice A0_3 l0_3.length c0_3, .slice A0_4 l0_4.length c0_4]] (by rfl) rfl rfl mq ?_
      with_reducible refine (laws_toSession.calls kj10 a0_0 a0_1 _ _ l0_2 _ _ l0_3 _ _ l0_4 t620 t621 t622 t625 t628 _ ?s1 ?s2 ?s3 ?s4 ?s5 ?s6 A64.out).mono ?_
      (case s1 => exact cq (Kd.C_below HR0_2.out HB.out))
      (case s2 => exact HC0_2.out)
      (case s3 => exact cq (Kd.C_below HR0_3.out HB.out))
      (case s4 => exact HC0_3.out)
      (case s5 => exact cq (Kd.C_below HR0_4.out HB.out))
      (case s6 => exact HC0_4.out)
      rintro e w70 ⟨v623, v626, v629, rfl, ho0, ho1, ho2, hb⟩
      refine ⟨_, rfl, ?_⟩
      have HO624 := Aside0.mk (Kd.R_lower (Kd.R_new' (Kd.R_new' (Kd.R_new' ho0 (Kd.R_lt (rq HO_594002))) (Kd.R_lt (rq HO_606002))) (Kd.R_lt (rq HO_619002))) (below_size bq))
      replace HO_594002 := Aside0.mk (Kd.R_elder' (rq HO_594002) (Kd.R_base ho0) hb)
      replace HO_606002 := Aside0.mk (Kd.R_elder' (rq HO_606002) (Kd.R_base ho0) hb)
      replace HO_619002 := Aside0.mk (Kd.R_elder' (rq HO_619002) (Kd.R_base ho0) hb)
      have HO627 := Aside0.mk (Kd.R_lower (Kd.R_new' (Kd.R_new' (Kd.R_new' (Kd.R_new' (Kd.R_new' (Kd.R_new' ho1 (Kd.R_lt (rq HO_594003))) (Kd.R_lt (rq HO_594004))) (Kd.R_lt (rq HO_606003))) (Kd.R_lt (rq HO_606004))) (Kd.R_lt (rq HO_619003))) (Kd.R_lt (rq HO_619004))) (below_size bq))
      have HO630 := Aside0.mk (Kd.R_lower (Kd.R_new' (Kd.R_new' (Kd.R_new' (Kd.R_new' (Kd.R_new' (Kd.R_new' ho2 (Kd.R_lt (rq HO_594003))) (Kd.R_lt (rq HO_594004))) (Kd.R_lt (rq HO_606003))) (Kd.R_lt (rq HO_606004))) (Kd.R_lt (rq HO_619003))) (Kd.R_lt (rq HO_619004))) (below_size bq))
      replace HO_594003 := Aside0.mk (Kd.R_mono (Kd.R_told (Kd.R_told (Kd.R_old (rq HO_594003) hb) (Kd.R_base ho1)) (Kd.R_base ho2)) (fun _ h_ => h_.1))
      replace HO_594004 := Aside0.mk (Kd.R_mono (Kd.R_told (Kd.R_told (Kd.R_old (rq HO_594004) hb) (Kd.R_base ho1)) (Kd.R_base ho2)) (fun _ h_ => h_.1))
      replace HO_606003 := Aside0.mk (Kd.R_mono (Kd.R_told (Kd.R_told (Kd.R_old (rq HO_606003) hb) (Kd.R_base ho1)) (Kd.R_base ho2)) (fun _ h_ => h_.1))
      replace HO_606004 := Aside0.mk (Kd.R_mono (Kd.R_told (Kd.R_told (Kd.R_old (rq HO_606004) hb) (Kd.R_base ho1)) (Kd.R_base ho2)) (fun _ h_ => h_.1))
      replace HO_619003 := Aside0.mk (Kd.R_mono (Kd.R_told (Kd.R_told (Kd.R_old (rq HO_619003) hb) (Kd.R_base ho1)) (Kd.R_base ho2)) (fun _ h_ => h_.1))
      replace HO_619004 := Aside0.mk (Kd.R_mono (Kd.R_told (Kd.R_told (Kd.R_old (rq HO_619004) hb) (Kd.R_base ho1)) (Kd.R_base ho2)) (fun _ h_ => h_.1))
      replace BK568 := zb BK568 hb
      replace BK593 := zb BK593 hb
      replace BK605 := zb BK605 hb
      replace BK618 := zb BK618 hb
      replace HB := sb hb
      (try clear hb ho0 ho1 ho2)
      obtain ⟨Ao71, co71, eo71⟩ := Kd.R_slice HO624.out
      (first | subst eo71 | (injection eo71 with f1_ f2_ f3_; have f4_ := f1_.symm; have f5_ := f3_.symm; clear f1_ f2_ f3_; subst f4_; subst f5_))
      obtain ⟨Ao72, co72, eo72⟩ := Kd.R_slice HO627.out
      (first | subst eo72 | (injection eo72 with f1_ f2_ f3_; have f4_ := f1_.symm; have f5_ := f3_.symm; clear f1_ f2_ f3_; subst f4_; subst f5_))
      obtain ⟨Ao73, co73, eo73⟩ := Kd.R_slice HO630.out
      (first | subst eo73 | (injection eo73 with f1_ f2_ f3_; have f4_ := f1_.symm; have f5_ := f3_.symm; clear f1_ f2_ f3_; subst f4_; subst f5_))
      refine hK.out _ _ ⟨(blk_cell BK605.out 0).trans rfl, (blk_cell BK605.out 1).trans rfl, (blk_cell BK605.out 2).trans rfl, (blk_cell BK605.out 3).trans rfl, (blk_cell BK605.out 4).trans rfl, (blk_cell BK568.out 0).trans rfl, (blk_cell BK568.out 1).trans rfl, (blk_cell BK568.out 2).trans rfl, (blk_cell BK568.out 3).trans rfl, (blk_cell BK568.out 4).trans rfl⟩ (fun hHeld => ?_)
      clear hK K
      refine norm_ (a' := ?_) ?_ ?_
      rotate_left
      ·show Act.put _ (some 43) _ = _
       simp only [Act.put, List.setIfInBounds_toArray, List.set_cons_zero, List.set_cons_succ, i64_w, i32_w]
       rfl
      refine one_ (i := 3) (N := some 44) #[true, true, true, true, false] rfl rfl (by kernel_rfl) (by decide) (fun K hK => ?_)
      refine goes_ Try.func18 (by kernel_rfl) rfl #[.agg #[.int .i64 t594, .int .i64 t595, .slice Ao33 t596.length co33, .slice Ao34 t599.length co34, .slice Ao35 t602.length co35], .agg #[.int .i64 t620, .int .i64 t621, .slice Ao71 t622.length co71, .slice Ao72 t625.length co72, .slice Ao73 t628.length co73]] (by rfl) rfl rfl mq ?_
      with_reducible refine (laws_eqSession.calls kj10 t594 t595 _ _ t596 _ _ t599 _ _ t602 t620 t621 _ _ t622 _ _ t625 _ _ t628 true _ ?s1 ?s2 ?s3 ?s4 ?s5 ?s6 ?s7 ?s8 ?s9 ?s10 ?s11 ?s12 A65.out).mono ?_
      (case s1 => exact cr HO_606002)
      (case s2 => exact r1 HO_606002)
      (case s3 => exact cr HO_606003)
      (case s4 => exact r1 HO_606003)
      (case s5 => exact cr HO_606004)
      (case s6 => exact r1 HO_606004)
      (case s7 => exact cr HO624)
      (case s8 => exact r1 HO624)
      (case s9 => exact cr HO627)
      (case s10 => exact r1 HO627)
      (case s11 => exact cr HO630)
      (case s12 => exact r1 HO630)
      rintro e w74 ⟨rfl, hb⟩
      refine ⟨_, rfl, ?_⟩
      replace HO_594002 := rb HO_594002 hb
      replace HO_594003 := rb HO_594003 hb
      replace HO_594004 := rb HO_594004 hb
      replace HO_606002 := rb HO_606002 hb
      replace HO_606003 := rb HO_606003 hb
      replace HO_606004 := rb HO_606004 hb
      replace HO_619002 := rb HO_619002 hb
      replace HO_619003 := rb HO_619003 hb
      replace HO_619004 := rb HO_619004 hb
      replace HO624 := rb HO624 hb
      replace HO627 := rb HO627 hb
      replace HO630 := rb HO630 hb
      replace BK568 := zb BK568 hb
      replace BK593 := zb BK593 hb
      replace BK605 := zb BK605 hb
      replace BK618 := zb BK618 hb
      replace HB := sb hb
      (try clear hb)
      refine hK.out _ _ ⟨(blk_cell BK605.out 0).trans rfl, (blk_cell BK605.out 1).trans rfl, (blk_cell BK605.out 2).trans rfl, (blk_cell BK605.out 3).trans rfl, (blk_cell BK605.out 4).trans rfl, (blk_cell BK568.out 0).trans rfl, (blk_cell BK568.out 1).trans rfl, (blk_cell BK568.out 2).trans rfl, (blk_cell BK568.out 3).trans rfl, (blk_cell BK568.out 4).trans rfl⟩ (fun hHeld => ?_)
      clear hK K
      refine norm_ (a' := ?_) ?_ ?_
      rotate_left
      ·show Act.put _ (some 44) _ = _
       simp only [Act.put, List.setIfInBounds_toArray, List.set_cons_zero, List.set_cons_succ, i64_w, i32_w]
       rfl
      refine pure_ (i := 4) (N := some 45) (v := ?_) (a' := ?_) #[true, true, true, true, true] rfl rfl (by kernel_rfl) (fun _ _ _ h => h) (Or.inl ⟨by rfl, ?_⟩) ?_ ?_
      rotate_left
      ·intro w'
       go_simp
       with_reducible rfl
      rotate_left
      ·simp only [Act.put, List.setIfInBounds_toArray, List.set_cons_zero, List.set_cons_succ, i64_w, i32_w]
       rfl
      refine done_ (by kernel_rfl) ?_
      have hnb75 := NB605_568.out
      have hnc75 := NB568_605.out
      have hnb76 := NB605_593.out
      have hnc76 := NB593_605.out
      have hnb77 := NB605_618.out
      have hnc77 := NB618_605.out
      have ⟨hcz78_0, hcz78_1, hcz78_2, hcz78_3, hcz78_4, hfz78_0, hfz78_1, hfz78_2, hfz78_3, hfz78_4⟩ := bc5 BK605
      go_upto_region 14 with (first | ((with_reducible refine gate_callee (f := 25) rfl ?_); refine goesQ (some 48) Try.func25 #[.agg #[.int .i64 t594, .int .i64 t595, .slice Ao33 t596.length co33, .slice Ao34 t599.length co34, .slice Ao35 t602.length co35], .int .i64 1] ?_; (with_reducible refine (laws_markSession.calls kj10 t594 t595 (fun k_ => some k_ = (.slice Ao33 t596.length co33 : Value).ownBlock) (.slice Ao33 t596.length co33) t596 (fun k_ => some k_ = (.slice Ao34 t599.length co34 : Value).ownBlock) (.slice Ao34 t599.length co34) t599 (fun k_ => some k_ = (.slice Ao35 t602.length co35 : Value).ownBlock) (.slice Ao35 t602.length co35) t602 1 t632 t633 t634 t635 w _ ?s1 ?s2 ?s3 ?s4 ?s5 ?s6 A67.out).mono ?_); (case s1 => repeat (first | (with_reducible first | exact HB.out | apply below_alloc | apply pw_below_drewN | apply below_drew1 | refine below_set ?_ GE568.out | refine below_set ?_ GE593.out | refine below_set ?_ GE605.out | refine below_set ?_ GE618.out) | exact HB.out)); (case s2 => exact Kd.R_tight rfl HO_606002.out); (case s3 => exact Kd.R_tight rfl HO_606003.out); (case s4 => exact fun k_ e_ => (HO_606003.out.1 k_ e_.symm).1.1.2.2.1); (case s5 => exact Kd.R_tight rfl HO_606004.out); (case s6 => exact fun k_ e_ => (HO_606004.out.1 k_ e_.symm).1.1.2.2.1); rintro e w79 ⟨rfl, hy0, hy1, hy2, hb, hkp⟩; refine ⟨_, rfl, ?_⟩; replace HO_594002 := Aside0.mk (Kd.R_mono (ok' := fun k_ => some k_ ≠ (.slice Ao33 t596.length co33 : Value).ownBlock ∧ some k_ ≠ (.slice Ao42 t608.length co42 : Value).ownBlock ∧ some k_ ≠ (.slice Ao71 t622.length co71 : Value).ownBlock) (Kd.R_keptB ((Kd.R_apart' (Kd.R_apart' HO_594002.out (Kd.R_typed HO_606003.out) (by decide)) (Kd.R_typed HO_606004.out) (by decide))) hkp (fun k_ hk_ hs_ => Or.elim hs_ (fun e_ => (hk_.1.1.1.1) e_) (fun e_ => Or.elim e_ (fun e_ => (hk_.1.2) e_) (fun e_ => (hk_.2) e_)))) (fun k_ hk_ => ⟨hk_.1.1.1.1.1, hk_.1.1.1.1.2, hk_.1.1.1.2⟩)); replace HO_594003 := Aside0.mk (Kd.R_mono (ok' := fun k_ => some k_ ≠ (.slice Ao26 t589.length co26 : Value).ownBlock ∧ some k_ ≠ (.slice Ao34 t599.length co34 : Value).ownBlock ∧ some k_ ≠ (.slice Ao35 t602.length co35 : Value).ownBlock ∧ some k_ ≠ (.slice Ao43 t611.length co43 : Value).ownBlock ∧ some k_ ≠ (.slice Ao44 t614.length co44 : Value).ownBlock ∧ some k_ ≠ (.slice Ao72 t625.length co72 : Value).ownBlock ∧ some k_ ≠ (.slice Ao73 t628.length co73 : Value).ownBlock) (Kd.R_keptB ((Kd.R_apart' HO_594003.out (Kd.R_typed HO_606002.out) (by decide))) hkp (fun k_ hk_ hs_ => Or.elim hs_ (fun e_ => (hk_.2) e_) (fun e_ => Or.elim e_ (fun e_ => (hk_.1.1.1.2.1) e_) (fun e_ => (hk_.1.1.1.2.2.1) e_)))) (fun k_ hk_ => ⟨hk_.1.1.1.1.1, hk_.1.1.1.1.2.1, hk_.1.1.1.1.2.2.1, hk_.1.1.1.1.2.2.2.1, hk_.1.1.1.1.2.2.2.2, hk_.1.1.1.2, hk_.1.1.2⟩)); replace HO_594004 := Aside0.mk (Kd.R_mono (ok' := fun k_ => some k_ ≠ (.slice Ao25 t586.length co25 : Value).ownBlock ∧ some k_ ≠ (.slice Ao34 t599.length co34 : Value).ownBlock ∧ some k_ ≠ (.slice Ao35 t602.length co35 : Value).ownBlock ∧ some k_ ≠ (.slice Ao43 t611.length co43 : Value).ownBlock ∧ some k_ ≠ (.slice Ao44 t614.length co44 : Value).ownBlock ∧ some k_ ≠ (.slice Ao72 t625.length co72 : Value).ownBlock ∧ some k_ ≠ (.slice Ao73 t628.length co73 : Value).ownBlock) (Kd.R_keptB ((Kd.R_apart' HO_594004.out (Kd.R_typed HO_606002.out) (by decide))) hkp (fun k_ hk_ hs_ => Or.elim hs_ (fun e_ => (hk_.2) e_) (fun e_ => Or.elim e_ (fun e_ => (hk_.1.1.1.2.1) e_) (fun e_ => (hk_.1.1.1.2.2.1) e_)))) (fun k_ hk_ => ⟨hk_.1.1.1.1.1, hk_.1.1.1.1.2.1, hk_.1.1.1.1.2.2.1, hk_.1.1.1.1.2.2.2.1, hk_.1.1.1.1.2.2.2.2, hk_.1.1.1.2, hk_.1.1.2⟩)); replace HO_619002 := Aside0.mk (Kd.R_mono (ok' := fun k_ => some k_ ≠ (.slice Ao24 t583.length co24 : Value).ownBlock ∧ some k_ ≠ (.slice Ao33 t596.length co33 : Value).ownBlock ∧ some k_ ≠ (.slice Ao71 t622.length co71 : Value).ownBlock) (Kd.R_keptB ((Kd.R_apart' (Kd.R_apart' HO_619002.out (Kd.R_typed HO_606003.out) (by decide)) (Kd.R_typed HO_606004.out) (by decide))) hkp (fun k_ hk_ hs_ => Or.elim hs_ (fun e_ => (hk_.1.1.1.2) e_) (fun e_ => Or.elim e_ (fun e_ => (hk_.1.2) e_) (fun e_ => (hk_.2) e_)))) (fun k_ hk_ => ⟨hk_.1.1.1.1.1, hk_.1.1.1.1.2, hk_.1.1.1.2⟩)); replace HO_619003 := Aside0.mk (Kd.R_mono (ok' := fun k_ => some k_ ≠ (.slice Ao25 t586.length co25 : Value).ownBlock ∧ some k_ ≠ (.slice Ao26 t589.length co26 : Value).ownBlock ∧ some k_ ≠ (.slice Ao34 t599.length co34 : Value).ownBlock ∧ some k_ ≠ (.slice Ao35 t602.length co35 : Value).ownBlock ∧ some k_ ≠ (.slice Ao44 t614.length co44 : Value).ownBlock ∧ some k_ ≠ (.slice Ao72 t625.length co72 : Value).ownBlock ∧ some k_ ≠ (.slice Ao73 t628.length co73 : Value).ownBlock) (Kd.R_keptB ((Kd.R_apart' HO_619003.out (Kd.R_typed HO_606002.out) (by decide))) hkp (fun k_ hk_ hs_ => Or.elim hs_ (fun e_ => (hk_.2) e_) (fun e_ => Or.elim e_ (fun e_ => (hk_.1.1.1.2.2.1) e_) (fun e_ => (hk_.1.1.1.2.2.2.1) e_)))) (fun k_ hk_ => ⟨hk_.1.1.1.1.1, hk_.1.1.1.1.2.1, hk_.1.1.1.1.2.2.1, hk_.1.1.1.1.2.2.2.1, hk_.1.1.1.1.2.2.2.2, hk_.1.1.1.2, hk_.1.1.2⟩)); replace HO_619004 := Aside0.mk (Kd.R_mono (ok' := fun k_ => some k_ ≠ (.slice Ao25 t586.length co25 : Value).ownBlock ∧ some k_ ≠ (.slice Ao26 t589.length co26 : Value).ownBlock ∧ some k_ ≠ (.slice Ao34 t599.length co34 : Value).ownBlock ∧ some k_ ≠ (.slice Ao35 t602.length co35 : Value).ownBlock ∧ some k_ ≠ (.slice Ao43 t611.length co43 : Value).ownBlock ∧ some k_ ≠ (.slice Ao72 t625.length co72 : Value).ownBlock ∧ some k_ ≠ (.slice Ao73 t628.length co73 : Value).ownBlock) (Kd.R_keptB ((Kd.R_apart' HO_619004.out (Kd.R_typed HO_606002.out) (by decide))) hkp (fun k_ hk_ hs_ => Or.elim hs_ (fun e_ => (hk_.2) e_) (fun e_ => Or.elim e_ (fun e_ => (hk_.1.1.1.2.2.1) e_) (fun e_ => (hk_.1.1.1.2.2.2.1) e_)))) (fun k_ hk_ => ⟨hk_.1.1.1.1.1, hk_.1.1.1.1.2.1, hk_.1.1.1.1.2.2.1, hk_.1.1.1.1.2.2.2.1, hk_.1.1.1.1.2.2.2.2, hk_.1.1.1.2, hk_.1.1.2⟩)); replace BK568 := Aside0.mk (blk_kept (zq BK568) hkp (fun hs_ => Or.elim hs_ (fun e_ => (fun e_ => (Kd.R_ne HO_606002.out BK568.out (by decide)) e_) e_) (fun e_ => Or.elim e_ (fun e_ => (fun e_ => (Kd.R_ne HO_606003.out BK568.out (by decide)) e_) e_) (fun e_ => (fun e_ => (Kd.R_ne HO_606004.out BK568.out (by decide)) e_) e_)))); replace BK593 := Aside0.mk (blk_kept (zq BK593) hkp (fun hs_ => Or.elim hs_ (fun e_ => (fun e_ => (Kd.R_ne HO_606002.out BK593.out (by decide)) e_) e_) (fun e_ => Or.elim e_ (fun e_ => (fun e_ => (Kd.R_ne HO_606003.out BK593.out (by decide)) e_) e_) (fun e_ => (fun e_ => (Kd.R_ne HO_606004.out BK593.out (by decide)) e_) e_)))); replace BK605 := Aside0.mk (blk_kept (zq BK605) hkp (fun hs_ => Or.elim hs_ (fun e_ => (fun e_ => (Kd.R_ne HO_606002.out BK605.out (by decide)) e_) e_) (fun e_ => Or.elim e_ (fun e_ => (fun e_ => (Kd.R_ne HO_606003.out BK605.out (by decide)) e_) e_) (fun e_ => (fun e_ => (Kd.R_ne HO_606004.out BK605.out (by decide)) e_) e_)))); replace BK618 := Aside0.mk (blk_kept (zq BK618) hkp (fun hs_ => Or.elim hs_ (fun e_ => (fun e_ => (Kd.R_ne HO_606002.out BK618.out (by decide)) e_) e_) (fun e_ => Or.elim e_ (fun e_ => (fun e_ => (Kd.R_ne HO_606003.out BK618.out (by decide)) e_) e_) (fun e_ => (fun e_ => (Kd.R_ne HO_606004.out BK618.out (by decide)) e_) e_)))); replace HO624 := Aside0.mk (Kd.R_mono (ok' := fun k_ => some k_ ≠ (.slice Ao24 t583.length co24 : Value).ownBlock ∧ some k_ ≠ (.slice Ao33 t596.length co33 : Value).ownBlock ∧ some k_ ≠ (.slice Ao42 t608.length co42 : Value).ownBlock) (Kd.R_keptB ((Kd.R_apart' (Kd.R_apart' HO624.out (Kd.R_typed HO_606003.out) (by decide)) (Kd.R_typed HO_606004.out) (by decide))) hkp (fun k_ hk_ hs_ => Or.elim hs_ (fun e_ => (hk_.1.1.1.2) e_) (fun e_ => Or.elim e_ (fun e_ => (hk_.1.2) e_) (fun e_ => (hk_.2) e_)))) (fun k_ hk_ => ⟨hk_.1.1.1.1.1.2, hk_.1.1.1.1.2, hk_.1.1.1.2⟩)); replace HO_606003 := Aside0.mk (Kd.R_reok rfl hy1 (fun k_ e_ => HO_606003.out.1 k_ e_)); replace HO_606004 := Aside0.mk (Kd.R_reok rfl hy2 (fun k_ e_ => HO_606004.out.1 k_ e_)); replace HO627 := Aside0.mk (Kd.R_mono (ok' := fun k_ => some k_ ≠ (.slice Ao25 t586.length co25 : Value).ownBlock ∧ some k_ ≠ (.slice Ao26 t589.length co26 : Value).ownBlock ∧ some k_ ≠ (.slice Ao34 t599.length co34 : Value).ownBlock ∧ some k_ ≠ (.slice Ao35 t602.length co35 : Value).ownBlock ∧ some k_ ≠ (.slice Ao43 t611.length co43 : Value).ownBlock ∧ some k_ ≠ (.slice Ao44 t614.length co44 : Value).ownBlock ∧ some k_ ≠ (.slice Ao73 t628.length co73 : Value).ownBlock) (Kd.R_keptB ((Kd.R_apart' HO627.out (Kd.R_typed HO_606002.out) (by decide))) hkp (fun k_ hk_ hs_ => Or.elim hs_ (fun e_ => (hk_.2) e_) (fun e_ => Or.elim e_ (fun e_ => (hk_.1.1.1.1.2) e_) (fun e_ => (hk_.1.1.1.2) e_)))) (fun k_ hk_ => ⟨hk_.1.1.1.1.1.1.1.2, hk_.1.1.1.1.1.1.2, hk_.1.1.1.1.1.2, hk_.1.1.1.1.2, hk_.1.1.1.2, hk_.1.1.2, hk_.1.1.1.1.1.1.1.1⟩)); replace HO630 := Aside0.mk (Kd.R_mono (ok' := fun k_ => some k_ ≠ (.slice Ao25 t586.length co25 : Value).ownBlock ∧ some k_ ≠ (.slice Ao26 t589.length co26 : Value).ownBlock ∧ some k_ ≠ (.slice Ao34 t599.length co34 : Value).ownBlock ∧ some k_ ≠ (.slice Ao35 t602.length co35 : Value).ownBlock ∧ some k_ ≠ (.slice Ao43 t611.length co43 : Value).ownBlock ∧ some k_ ≠ (.slice Ao44 t614.length co44 : Value).ownBlock ∧ some k_ ≠ (.slice Ao72 t625.length co72 : Value).ownBlock) (Kd.R_keptB ((Kd.R_apart' HO630.out (Kd.R_typed HO_606002.out) (by decide))) hkp (fun k_ hk_ hs_ => Or.elim hs_ (fun e_ => (hk_.2) e_) (fun e_ => Or.elim e_ (fun e_ => (hk_.1.1.1.1.2) e_) (fun e_ => (hk_.1.1.1.2) e_)))) (fun k_ hk_ => ⟨hk_.1.1.1.1.1.1.1.2, hk_.1.1.1.1.1.1.2, hk_.1.1.1.1.1.2, hk_.1.1.1.1.2, hk_.1.1.1.2, hk_.1.1.2, hk_.1.1.1.1.1.1.1.1⟩)); replace HO_606002 := Aside0.mk (Kd.R_reok rfl hy0 (fun k_ e_ => HO_606002.out.1 k_ e_)); replace HB := Aside0.mk (hb); (try clear hb hkp hy0 hy1 hy2)))
      (try simp only [Act.put, List.setIfInBounds_toArray, List.set_cons_zero, List.set_cons_succ])
      go_cut [61] (fun v61 wc => ∃ (kq : Nat) (x61_67 : Bool), v61 = .bool x61_67 ∧ Aside0 (laws_FnExactUndoAct.j1 kq t592 x61_67 a0_0 a0_1 l0_2 l0_3 l0_4 t581 t582 t583 t586 t589 t606 t607 t608 t611 t614 = some r) ∧ Aside0 (kq ≤ kj10) ∧ Aside0 (Kd.R k58 58 wc w.heap.size (fun k_ => some k_ ≠ ((.slice Ao33 t596.length co33) : Value).ownBlock ∧ some k_ ≠ ((.slice Ao42 t608.length co42) : Value).ownBlock) (.slice Ao24 t583.length co24) t583) ∧ Aside0 (Kd.R k60 60 wc w.heap.size (fun k_ => some k_ ≠ ((.slice Ao26 t589.length co26) : Value).ownBlock ∧ some k_ ≠ ((.slice Ao34 t599.length co34) : Value).ownBlock ∧ some k_ ≠ ((.slice Ao35 t602.length co35) : Value).ownBlock ∧ some k_ ≠ ((.slice Ao43 t611.length co43) : Value).ownBlock ∧ some k_ ≠ ((.slice Ao44 t614.length co44) : Value).ownBlock) (.slice Ao25 t586.length co25) t586) ∧ Aside0 (Kd.R k60 60 wc w.heap.size (fun k_ => some k_ ≠ ((.slice Ao25 t586.length co25) : Value).ownBlock ∧ some k_ ≠ ((.slice Ao34 t599.length co34) : Value).ownBlock ∧ some k_ ≠ ((.slice Ao35 t602.length co35) : Value).ownBlock ∧ some k_ ≠ ((.slice Ao43 t611.length co43) : Value).ownBlock ∧ some k_ ≠ ((.slice Ao44 t614.length co44) : Value).ownBlock) (.slice Ao26 t589.length co26) t589) ∧ Aside0 (Kd.R k58 58 wc w.heap.size (fun k_ => some k_ ≠ ((.slice Ao24 t583.length co24) : Value).ownBlock ∧ some k_ ≠ ((.slice Ao42 t608.length co42) : Value).ownBlock) (.slice Ao33 t596.length co33) t633) ∧ Aside0 (Kd.R k60 60 wc w.heap.size (fun k_ => some k_ ≠ ((.slice Ao25 t586.length co25) : Value).ownBlock ∧ some k_ ≠ ((.slice Ao26 t589.length co26) : Value).ownBlock ∧ some k_ ≠ ((.slice Ao35 t602.length co35) : Value).ownBlock ∧ some k_ ≠ ((.slice Ao43 t611.length co43) : Value).ownBlock ∧ some k_ ≠ ((.slice Ao44 t614.length co44) : Value).ownBlock) (.slice Ao34 t599.length co34) t634) ∧ Aside0 (Kd.R k60 60 wc w.heap.size (fun k_ => some k_ ≠ ((.slice Ao25 t586.length co25) : Value).ownBlock ∧ some k_ ≠ ((.slice Ao26 t589.length co26) : Value).ownBlock ∧ some k_ ≠ ((.slice Ao34 t599.length co34) : Value).ownBlock ∧ some k_ ≠ ((.slice Ao43 t611.length co43) : Value).ownBlock ∧ some k_ ≠ ((.slice Ao44 t614.length co44) : Value).ownBlock) (.slice Ao35 t602.length co35) t635) ∧ Aside0 (Kd.R k58 58 wc w.heap.size (fun k_ => some k_ ≠ ((.slice Ao24 t583.length co24) : Value).ownBlock ∧ some k_ ≠ ((.slice Ao33 t596.length co33) : Value).ownBlock) (.slice Ao42 t608.length co42) t608) ∧ Aside0 (Kd.R k60 60 wc w.heap.size (fun k_ => some k_ ≠ ((.slice Ao25 t586.length co25) : Value).ownBlock ∧ some k_ ≠ ((.slice Ao26 t589.length co26) : Value).ownBlock ∧ some k_ ≠ ((.slice Ao34 t599.length co34) : Value).ownBlock ∧ some k_ ≠ ((.slice Ao35 t602.length co35) : Value).ownBlock ∧ some k_ ≠ ((.slice Ao44 t614.length co44) : Value).ownBlock) (.slice Ao43 t611.length co43) t611) ∧ Aside0 (Kd.R k60 60 wc w.heap.size (fun k_ => some k_ ≠ ((.slice Ao25 t586.length co25) : Value).ownBlock ∧ some k_ ≠ ((.slice Ao26 t589.length co26) : Value).ownBlock ∧ some k_ ≠ ((.slice Ao34 t599.length co34) : Value).ownBlock ∧ some k_ ≠ ((.slice Ao35 t602.length co35) : Value).ownBlock ∧ some k_ ≠ ((.slice Ao43 t611.length co43) : Value).ownBlock) (.slice Ao44 t614.length co44) t614) ∧ Aside0 (wc.heap[gb568]? = some (.cells #[.int .i64 a0_0, .int .i64 a0_1, (.slice A0_2 l0_2.length c0_2), (.slice A0_3 l0_3.length c0_3), (.slice A0_4 l0_4.length c0_4)] 27 (0, 0))) ∧ Aside0 (wc.heap[gb593]? = some (.cells #[.int .i64 t581, .int .i64 t582, (.slice Ao24 t583.length co24), (.slice Ao25 t586.length co25), (.slice Ao26 t589.length co26)] 35 (0, 0))) ∧ Aside0 (wc.heap[gb605]? = some (.cells #[.int .i64 t594, .int .i64 t595, (.slice Ao33 t596.length co33), (.slice Ao34 t599.length co34), (.slice Ao35 t602.length co35)] 35 (0, 0))) ∧ Aside0 (wc.heap[gb618]? = some (.cells #[.int .i64 t606, .int .i64 t607, (.slice Ao42 t608.length co42), (.slice Ao43 t611.length co43), (.slice Ao44 t614.length co44)] 35 (0, 0))) ∧ Aside0 (Below w.heap.size w wc))
      case first =>
       have H := HC68.out
       clear HC68
       by_cases c80 : t632 < 0
       ·rw [if_pos c80] at H
        have c80b0 : decide (t632 < 0) = true := decide_eq_true c80
        clear c80
        (first | rw [c80b0] | (simp only [i64_w, i32_w]; rw [c80b0]) | skip)
        have H' := Aside0.mk H
        clear H
        go_wp2
        go_meet
        case rel => exact ⟨_, (true), sq, H', ⟨by have := HJ10.out; first | omega | exact Nat.le_refl _⟩, ⟨by (with_reducible repeat (first | apply Kd.R_alloc | apply Kd.R_drewN | apply Kd.R_drew)); exact Kd.R_mono HO_594002.out (fun _ hk => ⟨hk.1, hk.2.1⟩)⟩, ⟨by (with_reducible repeat (first | apply Kd.R_alloc | apply Kd.R_drewN | apply Kd.R_drew)); exact Kd.R_mono HO_594003.out (fun _ hk => ⟨hk.1, ⟨hk.2.1, ⟨hk.2.2.1, ⟨hk.2.2.2.1, hk.2.2.2.2.1⟩⟩⟩⟩)⟩, ⟨by (with_reducible repeat (first | apply Kd.R_alloc | apply Kd.R_drewN | apply Kd.R_drew)); exact Kd.R_mono HO_594004.out (fun _ hk => ⟨hk.1, ⟨hk.2.1, ⟨hk.2.2.1, ⟨hk.2.2.2.1, hk.2.2.2.2.1⟩⟩⟩⟩)⟩, ⟨by (with_reducible repeat (first | apply Kd.R_alloc | apply Kd.R_drewN | apply Kd.R_drew)); exact Kd.R_mono HO_606002.out (fun _ hk => ⟨hk.1.1, hk.1.2⟩)⟩, ⟨by (with_reducible repeat (first | apply Kd.R_alloc | apply Kd.R_drewN | apply Kd.R_drew)); exact Kd.R_mono HO_606003.out (fun _ hk => ⟨hk.1.1.1, ⟨hk.1.1.2.1, ⟨hk.1.1.2.2.1, ⟨hk.1.1.2.2.2.1, hk.1.1.2.2.2.2⟩⟩⟩⟩)⟩, ⟨by (with_reducible repeat (first | apply Kd.R_alloc | apply Kd.R_drewN | apply Kd.R_drew)); exact Kd.R_mono HO_606004.out (fun _ hk => ⟨hk.1.1.1, ⟨hk.1.1.2.1, ⟨hk.1.1.2.2.1, ⟨hk.1.1.2.2.2.1, hk.1.1.2.2.2.2⟩⟩⟩⟩)⟩, ⟨by (with_reducible repeat (first | apply Kd.R_alloc | apply Kd.R_drewN | apply Kd.R_drew)); exact Kd.R_mono HO_619002.out (fun _ hk => ⟨hk.1, hk.2.1⟩)⟩, ⟨by (with_reducible repeat (first | apply Kd.R_alloc | apply Kd.R_drewN | apply Kd.R_drew)); exact Kd.R_mono HO_619003.out (fun _ hk => ⟨hk.1, ⟨hk.2.1, ⟨hk.2.2.1, ⟨hk.2.2.2.1, hk.2.2.2.2.1⟩⟩⟩⟩)⟩, ⟨by (with_reducible repeat (first | apply Kd.R_alloc | apply Kd.R_drewN | apply Kd.R_drew)); exact Kd.R_mono HO_619004.out (fun _ hk => ⟨hk.1, ⟨hk.2.1, ⟨hk.2.2.1, ⟨hk.2.2.2.1, hk.2.2.2.2.1⟩⟩⟩⟩)⟩, ⟨zq BK568⟩, ⟨zq BK593⟩, ⟨zq BK605⟩, ⟨zq BK618⟩, ⟨bq⟩⟩
       ·rw [if_neg c80] at H
        have c80b0 : decide (t632 < 0) = false := decide_eq_false c80
        clear c80
        (first | rw [c80b0] | (simp only [i64_w, i32_w]; rw [c80b0]) | skip)
        obtain ⟨t636, A81, H⟩ := bindq H
        try dsimp only at H
        by_cases c82 : t636 = true
        ·subst c82
         rw [if_pos rfl] at H
         try dsimp only at H
         have H' := Aside0.mk H
         clear H
         have hnb83 := NB618_568.out
         have hnc83 := NB568_618.out
         have hnb84 := NB618_593.out
         have hnc84 := NB593_618.out
         have hnb85 := NB618_605.out
         have hnc85 := NB605_618.out
         have ⟨hcz86_0, hcz86_1, hcz86_2, hcz86_3, hcz86_4, hfz86_0, hfz86_1, hfz86_2, hfz86_3, hfz86_4⟩ := bc5 BK618
         have hnb87 := NB593_568.out
         have hnc87 := NB568_593.out
         have hnb88 := NB593_605.out
         have hnc88 := NB605_593.out
         have ⟨hcz89_0, hcz89_1, hcz89_2, hcz89_3, hcz89_4, hfz89_0, hfz89_1, hfz89_2, hfz89_3, hfz89_4⟩ := bc5 BK593
         go_wp2_with (first | (go_at_call 18; (with_reducible refine (laws_eqSession.calls kj10 t606 t607 _ _ t608 _ _ t611 _ _ t614 t581 t582 _ _ t583 _ _ t586 _ _ t589 true _ ?s1 ?s2 ?s3 ?s4 ?s5 ?s6 ?s7 ?s8 ?s9 ?s10 ?s11 ?s12 A81.out).mono ?_); (case s1 => exact cr HO_619002); (case s2 => exact r1 HO_619002); (case s3 => exact cr HO_619003); (case s4 => exact r1 HO_619003); (case s5 => exact cr HO_619004); (case s6 => exact r1 HO_619004); (case s7 => exact cr HO_594002); (case s8 => exact r1 HO_594002); (case s9 => exact cr HO_594003); (case s10 => exact r1 HO_594003); (case s11 => exact cr HO_594004); (case s12 => exact r1 HO_594004); rintro e w90 ⟨rfl, hb⟩; replace HO_594002 := rb HO_594002 hb; replace HO_594003 := rb HO_594003 hb; replace HO_594004 := rb HO_594004 hb; replace HO_606002 := rb HO_606002 hb; replace HO_606003 := rb HO_606003 hb; replace HO_606004 := rb HO_606004 hb; replace HO_619002 := rb HO_619002 hb; replace HO_619003 := rb HO_619003 hb; replace HO_619004 := rb HO_619004 hb; replace HO624 := rb HO624 hb; replace HO627 := rb HO627 hb; replace HO630 := rb HO630 hb; replace BK568 := zb BK568 hb; replace BK593 := zb BK593 hb; replace BK605 := zb BK605 hb; replace BK618 := zb BK618 hb; replace HB := sb hb; (try clear hb)))
         go_meet
         case rel => exact ⟨_, ((t617 != t592)), sq, H', ⟨by have := HJ10.out; first | omega | exact Nat.le_refl _⟩, ⟨by (with_reducible repeat (first | apply Kd.R_alloc | apply Kd.R_drewN | apply Kd.R_drew)); exact Kd.R_mono HO_594002.out (fun _ hk => ⟨hk.1, hk.2.1⟩)⟩, ⟨by (with_reducible repeat (first | apply Kd.R_alloc | apply Kd.R_drewN | apply Kd.R_drew)); exact Kd.R_mono HO_594003.out (fun _ hk => ⟨hk.1, ⟨hk.2.1, ⟨hk.2.2.1, ⟨hk.2.2.2.1, hk.2.2.2.2.1⟩⟩⟩⟩)⟩, ⟨by (with_reducible repeat (first | apply Kd.R_alloc | apply Kd.R_drewN | apply Kd.R_drew)); exact Kd.R_mono HO_594004.out (fun _ hk => ⟨hk.1, ⟨hk.2.1, ⟨hk.2.2.1, ⟨hk.2.2.2.1, hk.2.2.2.2.1⟩⟩⟩⟩)⟩, ⟨by (with_reducible repeat (first | apply Kd.R_alloc | apply Kd.R_drewN | apply Kd.R_drew)); exact Kd.R_mono HO_606002.out (fun _ hk => ⟨hk.1.1, hk.1.2⟩)⟩, ⟨by (with_reducible repeat (first | apply Kd.R_alloc | apply Kd.R_drewN | apply Kd.R_drew)); exact Kd.R_mono HO_606003.out (fun _ hk => ⟨hk.1.1.1, ⟨hk.1.1.2.1, ⟨hk.1.1.2.2.1, ⟨hk.1.1.2.2.2.1, hk.1.1.2.2.2.2⟩⟩⟩⟩)⟩, ⟨by (with_reducible repeat (first | apply Kd.R_alloc | apply Kd.R_drewN | apply Kd.R_drew)); exact Kd.R_mono HO_606004.out (fun _ hk => ⟨hk.1.1.1, ⟨hk.1.1.2.1, ⟨hk.1.1.2.2.1, ⟨hk.1.1.2.2.2.1, hk.1.1.2.2.2.2⟩⟩⟩⟩)⟩, ⟨by (with_reducible repeat (first | apply Kd.R_alloc | apply Kd.R_drewN | apply Kd.R_drew)); exact Kd.R_mono HO_619002.out (fun _ hk => ⟨hk.1, hk.2.1⟩)⟩, ⟨by (with_reducible repeat (first | apply Kd.R_alloc | apply Kd.R_drewN | apply Kd.R_drew)); exact Kd.R_mono HO_619003.out (fun _ hk => ⟨hk.1, ⟨hk.2.1, ⟨hk.2.2.1, ⟨hk.2.2.2.1, hk.2.2.2.2.1⟩⟩⟩⟩)⟩, ⟨by (with_reducible repeat (first | apply Kd.R_alloc | apply Kd.R_drewN | apply Kd.R_drew)); exact Kd.R_mono HO_619004.out (fun _ hk => ⟨hk.1, ⟨hk.2.1, ⟨hk.2.2.1, ⟨hk.2.2.2.1, hk.2.2.2.2.1⟩⟩⟩⟩)⟩, ⟨zq BK568⟩, ⟨zq BK593⟩, ⟨zq BK605⟩, ⟨zq BK618⟩, ⟨bq⟩⟩
        ·replace c82 := Bool.eq_false_iff.mpr c82
         subst c82
         rw [if_neg (show ¬ (false = true) by decide)] at H
         try dsimp only at H
         have H' := Aside0.mk H
         clear H
         have hnb91 := NB618_568.out
         have hnc91 := NB568_618.out
         have hnb92 := NB618_593.out
         have hnc92 := NB593_618.out
         have hnb93 := NB618_605.out
         have hnc93 := NB605_618.out
         have ⟨hcz94_0, hcz94_1, hcz94_2, hcz94_3, hcz94_4, hfz94_0, hfz94_1, hfz94_2, hfz94_3, hfz94_4⟩ := bc5 BK618
         have hnb95 := NB593_568.out
         have hnc95 := NB568_593.out
         have hnb96 := NB593_605.out
         have hnc96 := NB605_593.out
         have ⟨hcz97_0, hcz97_1, hcz97_2, hcz97_3, hcz97_4, hfz97_0, hfz97_1, hfz97_2, hfz97_3, hfz97_4⟩ := bc5 BK593
         go_wp2_with (first | (go_at_call 18; (with_reducible refine (laws_eqSession.calls kj10 t606 t607 _ _ t608 _ _ t611 _ _ t614 t581 t582 _ _ t583 _ _ t586 _ _ t589 false _ ?s1 ?s2 ?s3 ?s4 ?s5 ?s6 ?s7 ?s8 ?s9 ?s10 ?s11 ?s12 A81.out).mono ?_); (case s1 => exact cr HO_619002); (case s2 => exact r1 HO_619002); (case s3 => exact cr HO_619003); (case s4 => exact r1 HO_619003); (case s5 => exact cr HO_619004); (case s6 => exact r1 HO_619004); (case s7 => exact cr HO_594002); (case s8 => exact r1 HO_594002); (case s9 => exact cr HO_594003); (case s10 => exact r1 HO_594003); (case s11 => exact cr HO_594004); (case s12 => exact r1 HO_594004); rintro e w98 ⟨rfl, hb⟩; replace HO_594002 := rb HO_594002 hb; replace HO_594003 := rb HO_594003 hb; replace HO_594004 := rb HO_594004 hb; replace HO_606002 := rb HO_606002 hb; replace HO_606003 := rb HO_606003 hb; replace HO_606004 := rb HO_606004 hb; replace HO_619002 := rb HO_619002 hb; replace HO_619003 := rb HO_619003 hb; replace HO_619004 := rb HO_619004 hb; replace HO624 := rb HO624 hb; replace HO627 := rb HO627 hb; replace HO630 := rb HO630 hb; replace BK568 := zb BK568 hb; replace BK593 := zb BK593 hb; replace BK605 := zb BK605 hb; replace BK618 := zb BK618 hb; replace HB := sb hb; (try clear hb)))
         go_meet
         case rel => exact ⟨_, (true), sq, H', ⟨by have := HJ10.out; first | omega | exact Nat.le_refl _⟩, ⟨by (with_reducible repeat (first | apply Kd.R_alloc | apply Kd.R_drewN | apply Kd.R_drew)); exact Kd.R_mono HO_594002.out (fun _ hk => ⟨hk.1, hk.2.1⟩)⟩, ⟨by (with_reducible repeat (first | apply Kd.R_alloc | apply Kd.R_drewN | apply Kd.R_drew)); exact Kd.R_mono HO_594003.out (fun _ hk => ⟨hk.1, ⟨hk.2.1, ⟨hk.2.2.1, ⟨hk.2.2.2.1, hk.2.2.2.2.1⟩⟩⟩⟩)⟩, ⟨by (with_reducible repeat (first | apply Kd.R_alloc | apply Kd.R_drewN | apply Kd.R_drew)); exact Kd.R_mono HO_594004.out (fun _ hk => ⟨hk.1, ⟨hk.2.1, ⟨hk.2.2.1, ⟨hk.2.2.2.1, hk.2.2.2.2.1⟩⟩⟩⟩)⟩, ⟨by (with_reducible repeat (first | apply Kd.R_alloc | apply Kd.R_drewN | apply Kd.R_drew)); exact Kd.R_mono HO_606002.out (fun _ hk => ⟨hk.1.1, hk.1.2⟩)⟩, ⟨by (with_reducible repeat (first | apply Kd.R_alloc | apply Kd.R_drewN | apply Kd.R_drew)); exact Kd.R_mono HO_606003.out (fun _ hk => ⟨hk.1.1.1, ⟨hk.1.1.2.1, ⟨hk.1.1.2.2.1, ⟨hk.1.1.2.2.2.1, hk.1.1.2.2.2.2⟩⟩⟩⟩)⟩, ⟨by (with_reducible repeat (first | apply Kd.R_alloc | apply Kd.R_drewN | apply Kd.R_drew)); exact Kd.R_mono HO_606004.out (fun _ hk => ⟨hk.1.1.1, ⟨hk.1.1.2.1, ⟨hk.1.1.2.2.1, ⟨hk.1.1.2.2.2.1, hk.1.1.2.2.2.2⟩⟩⟩⟩)⟩, ⟨by (with_reducible repeat (first | apply Kd.R_alloc | apply Kd.R_drewN | apply Kd.R_drew)); exact Kd.R_mono HO_619002.out (fun _ hk => ⟨hk.1, hk.2.1⟩)⟩, ⟨by (with_reducible repeat (first | apply Kd.R_alloc | apply Kd.R_drewN | apply Kd.R_drew)); exact Kd.R_mono HO_619003.out (fun _ hk => ⟨hk.1, ⟨hk.2.1, ⟨hk.2.2.1, ⟨hk.2.2.2.1, hk.2.2.2.2.1⟩⟩⟩⟩)⟩, ⟨by (with_reducible repeat (first | apply Kd.R_alloc | apply Kd.R_drewN | apply Kd.R_drew)); exact Kd.R_mono HO_619004.out (fun _ hk => ⟨hk.1, ⟨hk.2.1, ⟨hk.2.2.1, ⟨hk.2.2.2.1, hk.2.2.2.2.1⟩⟩⟩⟩)⟩, ⟨zq BK568⟩, ⟨zq BK593⟩, ⟨zq BK605⟩, ⟨zq BK618⟩, ⟨bq⟩⟩
      case rest =>
       clear HC68
       try clear c1
       try clear c2
       try clear p2
       try clear c3
       try clear c3b0
       try clear c4
       try clear c5
       try clear c6
       try clear c7
       try clear c8
       try clear c9
       try clear c14
       try clear c16
       try clear c18
       try clear c22
       try clear c25
       try clear c30
       try clear c31
       try clear c34
       try clear c35
       try clear c38
       try clear c39
       try clear c40
       try clear c46
       try clear c47
       try clear c48
       try clear c49
       try clear c51
       try clear c52
       try clear c55
       try clear c56
       try clear c57
       try clear c59
       try clear c60
       try clear c63
       try clear c66
       try clear c75
       try clear c76
       try clear c77
       try clear c80
       try clear c80b0
       try clear c82
       try clear c83
       try clear c84
       try clear c85
       try clear c87
       try clear c88
       try clear c91
       try clear c92
       try clear c93
       try clear c95
       try clear c96
       try clear hcz13_0
       try clear hcz13_1
       try clear hcz13_2
       try clear hcz13_3
       try clear hcz13_4
       try clear hcz15_0
       try clear hcz15_1
       try clear hcz15_2
       try clear hcz15_3
       try clear hcz15_4
       try clear hcz23_0
       try clear hcz23_1
       try clear hcz23_2
       try clear hcz23_3
       try clear hcz23_4
       try clear hcz27_0
       try clear hcz27_1
       try clear hcz27_2
       try clear hcz27_3
       try clear hcz27_4
       try clear hcz32_0
       try clear hcz32_1
       try clear hcz32_2
       try clear hcz32_3
       try clear hcz32_4
       try clear hcz41_0
       try clear hcz41_1
       try clear hcz41_2
       try clear hcz41_3
       try clear hcz41_4
       try clear hcz50_0
       try clear hcz50_1
       try clear hcz50_2
       try clear hcz50_3
       try clear hcz50_4
       try clear hcz53_0
       try clear hcz53_1
       try clear hcz53_2
       try clear hcz53_3
       try clear hcz53_4
       try clear hcz58_0
       try clear hcz58_1
       try clear hcz58_2
       try clear hcz58_3
       try clear hcz58_4
       try clear hcz5_0
       try clear hcz5_1
       try clear hcz5_2
       try clear hcz5_3
       try clear hcz5_4
       try clear hcz61_0
       try clear hcz61_1
       try clear hcz61_2
       try clear hcz61_3
       try clear hcz61_4
       try clear hcz78_0
       try clear hcz78_1
       try clear hcz78_2
       try clear hcz78_3
       try clear hcz78_4
       try clear hcz86_0
       try clear hcz86_1
       try clear hcz86_2
       try clear hcz86_3
       try clear hcz86_4
       try clear hcz89_0
       try clear hcz89_1
       try clear hcz89_2
       try clear hcz89_3
       try clear hcz89_4
       try clear hcz94_0
       try clear hcz94_1
       try clear hcz94_2
       try clear hcz94_3
       try clear hcz94_4
       try clear hcz97_0
       try clear hcz97_1
       try clear hcz97_2
       try clear hcz97_3
       try clear hcz97_4
       try clear hfz13_0
       try clear hfz13_1
       try clear hfz13_2
       try clear hfz13_3
       try clear hfz13_4
       try clear hfz15_0
       try clear hfz15_1
       try clear hfz15_2
       try clear hfz15_3
       try clear hfz15_4
       try clear hfz23_0
       try clear hfz23_1
       try clear hfz23_2
       try clear hfz23_3
       try clear hfz23_4
       try clear hfz27_0
       try clear hfz27_1
       try clear hfz27_2
       try clear hfz27_3
       try clear hfz27_4
       try clear hfz32_0
       try clear hfz32_1
       try clear hfz32_2
       try clear hfz32_3
       try clear hfz32_4
       try clear hfz41_0
       try clear hfz41_1
       try clear hfz41_2
       try clear hfz41_3
       try clear hfz41_4
       try clear hfz50_0
       try clear hfz50_1
       try clear hfz50_2
       try clear hfz50_3
       try clear hfz50_4
       try clear hfz53_0
       try clear hfz53_1
       try clear hfz53_2
       try clear hfz53_3
       try clear hfz53_4
       try clear hfz58_0
       try clear hfz58_1
       try clear hfz58_2
       try clear hfz58_3
       try clear hfz58_4
       try clear hfz5_0
       try clear hfz5_1
       try clear hfz5_2
       try clear hfz5_3
       try clear hfz5_4
       try clear hfz61_0
       try clear hfz61_1
       try clear hfz61_2
       try clear hfz61_3
       try clear hfz61_4
       try clear hfz78_0
       try clear hfz78_1
       try clear hfz78_2
       try clear hfz78_3
       try clear hfz78_4
       try clear hfz86_0
       try clear hfz86_1
       try clear hfz86_2
       try clear hfz86_3
       try clear hfz86_4
       try clear hfz89_0
       try clear hfz89_1
       try clear hfz89_2
       try clear hfz89_3
       try clear hfz89_4
       try clear hfz94_0
       try clear hfz94_1
       try clear hfz94_2
       try clear hfz94_3
       try clear hfz94_4
       try clear hfz97_0
       try clear hfz97_1
       try clear hfz97_2
       try clear hfz97_3
       try clear hfz97_4
       try clear p2
       obtain ⟨kq, x61_67, rfl, HA, HJ67, HO_594002, HO_594003, HO_594004, HO_606002, HO_606003, HO_606004, HO_619002, HO_619003, HO_619004, BK568, BK593, BK605, BK618, HB⟩ := hcut
       have hl606002_67 := (Kd.R_reads' HO_606002.out).1
       rw [hl606002_67] at HO_606002
       (try simp only [hl606002_67])
       (try simp only [hl606002_67] at BK568)
       (try simp only [hl606002_67] at BK593)
       (try simp only [hl606002_67] at BK605)
       (try simp only [hl606002_67] at BK618)
       (try simp only [hl606002_67] at HO_594002)
       (try simp only [hl606002_67] at HO_594003)
       (try simp only [hl606002_67] at HO_594004)
       (try simp only [hl606002_67] at HO_606003)
       (try simp only [hl606002_67] at HO_606004)
       (try simp only [hl606002_67] at HO_619002)
       (try simp only [hl606002_67] at HO_619003)
       (try simp only [hl606002_67] at HO_619004)
       have hl606003_67 := (Kd.R_reads' HO_606003.out).1
       rw [hl606003_67] at HO_606003
       (try simp only [hl606003_67])
       (try simp only [hl606003_67] at BK568)
       (try simp only [hl606003_67] at BK593)
       (try simp only [hl606003_67] at BK605)
       (try simp only [hl606003_67] at BK618)
       (try simp only [hl606003_67] at HO_594002)
       (try simp only [hl606003_67] at HO_594003)
       (try simp only [hl606003_67] at HO_594004)
       (try simp only [hl606003_67] at HO_606002)
       (try simp only [hl606003_67] at HO_606004)
       (try simp only [hl606003_67] at HO_619002)
       (try simp only [hl606003_67] at HO_619003)
       (try simp only [hl606003_67] at HO_619004)
       have hl606004_67 := (Kd.R_reads' HO_606004.out).1
       rw [hl606004_67] at HO_606004
       (try simp only [hl606004_67])
       (try simp only [hl606004_67] at BK568)
       (try simp only [hl606004_67] at BK593)
       (try simp only [hl606004_67] at BK605)
       (try simp only [hl606004_67] at BK618)
       (try simp only [hl606004_67] at HO_594002)
       (try simp only [hl606004_67] at HO_594003)
       (try simp only [hl606004_67] at HO_594004)
       (try simp only [hl606004_67] at HO_606002)
       (try simp only [hl606004_67] at HO_606003)
       (try simp only [hl606004_67] at HO_619002)
       (try simp only [hl606004_67] at HO_619003)
       (try simp only [hl606004_67] at HO_619004)
       cases kq with
       | zero => exact absurd HA.out (by simp [laws_FnExactUndoAct.j1])
       | succ kj67 =>
        have H := HA.out
        clear HA
        simp only [laws_FnExactUndoAct.j1] at H
        by_cases c99 : x61_67 = true
        ·subst c99
         rw [if_pos rfl] at H
         try dsimp only at H
         obtain rfl := Option.some.inj H
         go_wp2
         go_ret
         exact ⟨eq_, bq⟩
        ·replace c99 := Bool.eq_false_iff.mpr c99
         subst c99
         rw [if_neg (show ¬ (false = true) by decide)] at H
         try dsimp only at H
         obtain ⟨⟨t637, t638, t639, t640⟩, A100, H⟩ := bindq H
         try dsimp only at H
         obtain ⟨t641, A101, H⟩ := bindq H
         try dsimp only at H
         by_cases c102 : t641 < 0
         ·rw [if_pos c102] at H
          have c102b0 : decide (t641 < 0) = true := decide_eq_true c102
          clear c102
          obtain rfl := Option.some.inj H
          have hnb103 := NB618_568.out
          have hnc103 := NB568_618.out
          have hnb104 := NB618_593.out
          have hnc104 := NB593_618.out
          have hnb105 := NB618_605.out
          have hnc105 := NB605_618.out
          have ⟨hcz106_0, hcz106_1, hcz106_2, hcz106_3, hcz106_4, hfz106_0, hfz106_1, hfz106_2, hfz106_3, hfz106_4⟩ := bc5 BK618
          go_wp2_with (first | ((with_reducible refine gate_callee (f := 25) rfl ?_); refine goesQ (some 64) Try.func25 #[.agg #[.int .i64 t606, .int .i64 t607, .slice Ao42 t608.length co42, .slice Ao43 t611.length co43, .slice Ao44 t614.length co44], .int .i64 1] ?_; (with_reducible refine (laws_markSession.calls kj67 t606 t607 (fun k_ => some k_ = (.slice Ao42 t608.length co42 : Value).ownBlock) (.slice Ao42 t608.length co42) t608 (fun k_ => some k_ = (.slice Ao43 t611.length co43 : Value).ownBlock) (.slice Ao43 t611.length co43) t611 (fun k_ => some k_ = (.slice Ao44 t614.length co44 : Value).ownBlock) (.slice Ao44 t614.length co44) t614 1 t637 t638 t639 t640 w _ ?s1 ?s2 ?s3 ?s4 ?s5 ?s6 A100.out).mono ?_); (case s1 => repeat (first | (with_reducible first | exact HB.out | apply below_alloc | apply pw_below_drewN | apply below_drew1 | refine below_set ?_ GE568.out | refine below_set ?_ GE593.out | refine below_set ?_ GE605.out | refine below_set ?_ GE618.out) | exact HB.out)); (case s2 => exact Kd.R_tight rfl HO_619002.out); (case s3 => exact Kd.R_tight rfl HO_619003.out); (case s4 => exact fun k_ e_ => (HO_619003.out.1 k_ e_.symm).2.2.2.2); (case s5 => exact Kd.R_tight rfl HO_619004.out); (case s6 => exact fun k_ e_ => (HO_619004.out.1 k_ e_.symm).2.2.2.2); rintro e w107 ⟨rfl, hy0, hy1, hy2, hb, hkp⟩; refine ⟨_, rfl, ?_⟩; replace HO_594002 := Aside0.mk (Kd.R_mono (ok' := fun k_ => some k_ ≠ (.slice Ao33 t633.length co33 : Value).ownBlock ∧ some k_ ≠ (.slice Ao42 t608.length co42 : Value).ownBlock) (Kd.R_keptB ((Kd.R_apart' (Kd.R_apart' HO_594002.out (Kd.R_typed HO_619003.out) (by decide)) (Kd.R_typed HO_619004.out) (by decide))) hkp (fun k_ hk_ hs_ => Or.elim hs_ (fun e_ => (hk_.1.1.2) e_) (fun e_ => Or.elim e_ (fun e_ => (hk_.1.2) e_) (fun e_ => (hk_.2) e_)))) (fun k_ hk_ => ⟨hk_.1.1.1.1, hk_.1.1.1.2⟩)); replace HO_594003 := Aside0.mk (Kd.R_mono (ok' := fun k_ => some k_ ≠ (.slice Ao26 t589.length co26 : Value).ownBlock ∧ some k_ ≠ (.slice Ao34 t634.length co34 : Value).ownBlock ∧ some k_ ≠ (.slice Ao35 t635.length co35 : Value).ownBlock ∧ some k_ ≠ (.slice Ao43 t611.length co43 : Value).ownBlock ∧ some k_ ≠ (.slice Ao44 t614.length co44 : Value).ownBlock) (Kd.R_keptB ((Kd.R_apart' HO_594003.out (Kd.R_typed HO_619002.out) (by decide))) hkp (fun k_ hk_ hs_ => Or.elim hs_ (fun e_ => (hk_.2) e_) (fun e_ => Or.elim e_ (fun e_ => (hk_.1.2.2.2.1) e_) (fun e_ => (hk_.1.2.2.2.2) e_)))) (fun k_ hk_ => ⟨hk_.1.1.1, hk_.1.1.2.1, hk_.1.1.2.2.1, hk_.1.1.2.2.2.1, hk_.1.1.2.2.2.2⟩)); replace HO_594004 := Aside0.mk (Kd.R_mono (ok' := fun k_ => some k_ ≠ (.slice Ao25 t586.length co25 : Value).ownBlock ∧ some k_ ≠ (.slice Ao34 t634.length co34 : Value).ownBlock ∧ some k_ ≠ (.slice Ao35 t635.length co35 : Value).ownBlock ∧ some k_ ≠ (.slice Ao43 t611.length co43 : Value).ownBlock ∧ some k_ ≠ (.slice Ao44 t614.length co44 : Value).ownBlock) (Kd.R_keptB ((Kd.R_apart' HO_594004.out (Kd.R_typed HO_619002.out) (by decide))) hkp (fun k_ hk_ hs_ => Or.elim hs_ (fun e_ => (hk_.2) e_) (fun e_ => Or.elim e_ (fun e_ => (hk_.1.2.2.2.1) e_) (fun e_ => (hk_.1.2.2.2.2) e_)))) (fun k_ hk_ => ⟨hk_.1.1.1, hk_.1.1.2.1, hk_.1.1.2.2.1, hk_.1.1.2.2.2.1, hk_.1.1.2.2.2.2⟩)); replace HO_606002 := Aside0.mk (Kd.R_mono (ok' := fun k_ => some k_ ≠ (.slice Ao24 t583.length co24 : Value).ownBlock ∧ some k_ ≠ (.slice Ao42 t608.length co42 : Value).ownBlock) (Kd.R_keptB ((Kd.R_apart' (Kd.R_apart' HO_606002.out (Kd.R_typed HO_619003.out) (by decide)) (Kd.R_typed HO_619004.out) (by decide))) hkp (fun k_ hk_ hs_ => Or.elim hs_ (fun e_ => (hk_.1.1.2) e_) (fun e_ => Or.elim e_ (fun e_ => (hk_.1.2) e_) (fun e_ => (hk_.2) e_)))) (fun k_ hk_ => ⟨hk_.1.1.1.1, hk_.1.1.1.2⟩)); replace HO_606003 := Aside0.mk (Kd.R_mono (ok' := fun k_ => some k_ ≠ (.slice Ao25 t586.length co25 : Value).ownBlock ∧ some k_ ≠ (.slice Ao26 t589.length co26 : Value).ownBlock ∧ some k_ ≠ (.slice Ao35 t635.length co35 : Value).ownBlock ∧ some k_ ≠ (.slice Ao43 t611.length co43 : Value).ownBlock ∧ some k_ ≠ (.slice Ao44 t614.length co44 : Value).ownBlock) (Kd.R_keptB ((Kd.R_apart' HO_606003.out (Kd.R_typed HO_619002.out) (by decide))) hkp (fun k_ hk_ hs_ => Or.elim hs_ (fun e_ => (hk_.2) e_) (fun e_ => Or.elim e_ (fun e_ => (hk_.1.2.2.2.1) e_) (fun e_ => (hk_.1.2.2.2.2) e_)))) (fun k_ hk_ => ⟨hk_.1.1.1, hk_.1.1.2.1, hk_.1.1.2.2.1, hk_.1.1.2.2.2.1, hk_.1.1.2.2.2.2⟩)); replace HO_606004 := Aside0.mk (Kd.R_mono (ok' := fun k_ => some k_ ≠ (.slice Ao25 t586.length co25 : Value).ownBlock ∧ some k_ ≠ (.slice Ao26 t589.length co26 : Value).ownBlock ∧ some k_ ≠ (.slice Ao34 t634.length co34 : Value).ownBlock ∧ some k_ ≠ (.slice Ao43 t611.length co43 : Value).ownBlock ∧ some k_ ≠ (.slice Ao44 t614.length co44 : Value).ownBlock) (Kd.R_keptB ((Kd.R_apart' HO_606004.out (Kd.R_typed HO_619002.out) (by decide))) hkp (fun k_ hk_ hs_ => Or.elim hs_ (fun e_ => (hk_.2) e_) (fun e_ => Or.elim e_ (fun e_ => (hk_.1.2.2.2.1) e_) (fun e_ => (hk_.1.2.2.2.2) e_)))) (fun k_ hk_ => ⟨hk_.1.1.1, hk_.1.1.2.1, hk_.1.1.2.2.1, hk_.1.1.2.2.2.1, hk_.1.1.2.2.2.2⟩)); replace BK568 := Aside0.mk (blk_kept (zq BK568) hkp (fun hs_ => Or.elim hs_ (fun e_ => (fun e_ => (Kd.R_ne HO_619002.out BK568.out (by decide)) e_) e_) (fun e_ => Or.elim e_ (fun e_ => (fun e_ => (Kd.R_ne HO_619003.out BK568.out (by decide)) e_) e_) (fun e_ => (fun e_ => (Kd.R_ne HO_619004.out BK568.out (by decide)) e_) e_)))); replace BK593 := Aside0.mk (blk_kept (zq BK593) hkp (fun hs_ => Or.elim hs_ (fun e_ => (fun e_ => (Kd.R_ne HO_619002.out BK593.out (by decide)) e_) e_) (fun e_ => Or.elim e_ (fun e_ => (fun e_ => (Kd.R_ne HO_619003.out BK593.out (by decide)) e_) e_) (fun e_ => (fun e_ => (Kd.R_ne HO_619004.out BK593.out (by decide)) e_) e_)))); replace BK605 := Aside0.mk (blk_kept (zq BK605) hkp (fun hs_ => Or.elim hs_ (fun e_ => (fun e_ => (Kd.R_ne HO_619002.out BK605.out (by decide)) e_) e_) (fun e_ => Or.elim e_ (fun e_ => (fun e_ => (Kd.R_ne HO_619003.out BK605.out (by decide)) e_) e_) (fun e_ => (fun e_ => (Kd.R_ne HO_619004.out BK605.out (by decide)) e_) e_)))); replace BK618 := Aside0.mk (blk_kept (zq BK618) hkp (fun hs_ => Or.elim hs_ (fun e_ => (fun e_ => (Kd.R_ne HO_619002.out BK618.out (by decide)) e_) e_) (fun e_ => Or.elim e_ (fun e_ => (fun e_ => (Kd.R_ne HO_619003.out BK618.out (by decide)) e_) e_) (fun e_ => (fun e_ => (Kd.R_ne HO_619004.out BK618.out (by decide)) e_) e_)))); replace HO_619002 := Aside0.mk (Kd.R_reok rfl hy0 (fun k_ e_ => HO_619002.out.1 k_ e_)); replace HO_619003 := Aside0.mk (Kd.R_reok rfl hy1 (fun k_ e_ => HO_619003.out.1 k_ e_)); replace HO_619004 := Aside0.mk (Kd.R_reok rfl hy2 (fun k_ e_ => HO_619004.out.1 k_ e_)); replace HB := Aside0.mk (hb); (try clear hb hkp hy0 hy1 hy2); have ⟨hcz108_0, hcz108_1, hcz108_2, hcz108_3, hcz108_4, hfz108_0, hfz108_1, hfz108_2, hfz108_3, hfz108_4⟩ := bc5 BK618) | ((with_reducible refine gate_callee (f := 26) rfl ?_); refine goesL_ (some 67) rfl rfl Try.func26 (by kernel_rfl) rfl #[.agg #[.int .i64 t606, .int .i64 t607, .slice Ao42 t638.length co42, .slice Ao43 t639.length co43, .slice Ao44 t640.length co44], .int .i64 1] rfl (by (try simp only [List.map_toArray, List.map_cons, List.map_nil]); first | done | (rw [show t638.length = t608.length from (Kd.R_reads' HO_619002.out).1.symm, show t639.length = t611.length from (Kd.R_reads' HO_619003.out).1.symm, show t640.length = t614.length from (Kd.R_reads' HO_619004.out).1.symm] <;> rfl) | rfl | (simp only [List.length_drop, List.length_take]; rfl)) ?_; (with_reducible refine (laws_heldSession.calls kj67 t606 t607 _ _ t638 _ _ t639 _ _ t640 1 t641 _ ?s1 ?s2 ?s3 ?s4 ?s5 ?s6 A101.out).mono ?_); (case s1 => exact cr HO_619002); (case s2 => rw [show t638.length = t608.length from (Kd.R_reads' HO_619002.out).1.symm]; exact r1 HO_619002); (case s3 => exact cr HO_619003); (case s4 => rw [show t639.length = t611.length from (Kd.R_reads' HO_619003.out).1.symm]; exact r1 HO_619003); (case s5 => exact cr HO_619004); (case s6 => rw [show t640.length = t614.length from (Kd.R_reads' HO_619004.out).1.symm]; exact r1 HO_619004); rintro e w109 ⟨rfl, hb⟩; refine ⟨_, rfl, ?_⟩; replace HO_594002 := rb HO_594002 hb; replace HO_594003 := rb HO_594003 hb; replace HO_594004 := rb HO_594004 hb; replace HO_606002 := rb HO_606002 hb; replace HO_606003 := rb HO_606003 hb; replace HO_606004 := rb HO_606004 hb; replace HO_619002 := rb HO_619002 hb; replace HO_619003 := rb HO_619003 hb; replace HO_619004 := rb HO_619004 hb; replace BK568 := zb BK568 hb; replace BK593 := zb BK593 hb; replace BK605 := zb BK605 hb; replace BK618 := zb BK618 hb; replace HB := sb hb; (try clear hb)))
          go_ret
          exact ⟨eq_, bq⟩
         ·rw [if_neg c102] at H
          have c102b0 : decide (t641 < 0) = false := decide_eq_false c102
          clear c102
          by_cases c110 : t641 = t637
          ·rw [if_pos c110] at H
           have c110b0 : (t641 == t637) = true := beq_iff_eq.mpr c110
           have c110b1 : (t641 != t637) = false := bne_eq_false_iff_eq.mpr c110
           clear c110
           obtain ⟨⟨t642, t643, t644, t647, t650⟩, A111, H⟩ := bindq H
           try dsimp only at H
           obtain ⟨⟨t653, t654, t655, t658, t661, t664⟩, A112, H⟩ := bindq H
           try dsimp only at H
           have HC113 := Aside0.mk H
           clear H
           have hnb114 := NB618_568.out
           have hnc114 := NB568_618.out
           have hnb115 := NB618_593.out
           have hnc115 := NB593_618.out
           have hnb116 := NB618_605.out
           have hnc116 := NB605_618.out
           have ⟨hcz117_0, hcz117_1, hcz117_2, hcz117_3, hcz117_4, hfz117_0, hfz117_1, hfz117_2, hfz117_3, hfz117_4⟩ := bc5 BK618
           go_upto_region 25 with (first | ((with_reducible refine gate_callee (f := 25) rfl ?_); refine goesQ (some 64) Try.func25 #[.agg #[.int .i64 t606, .int .i64 t607, .slice Ao42 t608.length co42, .slice Ao43 t611.length co43, .slice Ao44 t614.length co44], .int .i64 1] ?_; (with_reducible refine (laws_markSession.calls kj67 t606 t607 (fun k_ => some k_ = (.slice Ao42 t608.length co42 : Value).ownBlock) (.slice Ao42 t608.length co42) t608 (fun k_ => some k_ = (.slice Ao43 t611.length co43 : Value).ownBlock) (.slice Ao43 t611.length co43) t611 (fun k_ => some k_ = (.slice Ao44 t614.length co44 : Value).ownBlock) (.slice Ao44 t614.length co44) t614 1 t637 t638 t639 t640 w _ ?s1 ?s2 ?s3 ?s4 ?s5 ?s6 A100.out).mono ?_); (case s1 => repeat (first | (with_reducible first | exact HB.out | apply below_alloc | apply pw_below_drewN | apply below_drew1 | refine below_set ?_ GE568.out | refine below_set ?_ GE593.out | refine below_set ?_ GE605.out | refine below_set ?_ GE618.out) | exact HB.out)); (case s2 => exact Kd.R_tight rfl HO_619002.out); (case s3 => exact Kd.R_tight rfl HO_619003.out); (case s4 => exact fun k_ e_ => (HO_619003.out.1 k_ e_.symm).2.2.2.2); (case s5 => exact Kd.R_tight rfl HO_619004.out); (case s6 => exact fun k_ e_ => (HO_619004.out.1 k_ e_.symm).2.2.2.2); rintro e w118 ⟨rfl, hy0, hy1, hy2, hb, hkp⟩; refine ⟨_, rfl, ?_⟩; replace HO_594002 := Aside0.mk (Kd.R_mono (ok' := fun k_ => some k_ ≠ (.slice Ao33 t633.length co33 : Value).ownBlock ∧ some k_ ≠ (.slice Ao42 t608.length co42 : Value).ownBlock) (Kd.R_keptB ((Kd.R_apart' (Kd.R_apart' HO_594002.out (Kd.R_typed HO_619003.out) (by decide)) (Kd.R_typed HO_619004.out) (by decide))) hkp (fun k_ hk_ hs_ => Or.elim hs_ (fun e_ => (hk_.1.1.2) e_) (fun e_ => Or.elim e_ (fun e_ => (hk_.1.2) e_) (fun e_ => (hk_.2) e_)))) (fun k_ hk_ => ⟨hk_.1.1.1.1, hk_.1.1.1.2⟩)); replace HO_594003 := Aside0.mk (Kd.R_mono (ok' := fun k_ => some k_ ≠ (.slice Ao26 t589.length co26 : Value).ownBlock ∧ some k_ ≠ (.slice Ao34 t634.length co34 : Value).ownBlock ∧ some k_ ≠ (.slice Ao35 t635.length co35 : Value).ownBlock ∧ some k_ ≠ (.slice Ao43 t611.length co43 : Value).ownBlock ∧ some k_ ≠ (.slice Ao44 t614.length co44 : Value).ownBlock) (Kd.R_keptB ((Kd.R_apart' HO_594003.out (Kd.R_typed HO_619002.out) (by decide))) hkp (fun k_ hk_ hs_ => Or.elim hs_ (fun e_ => (hk_.2) e_) (fun e_ => Or.elim e_ (fun e_ => (hk_.1.2.2.2.1) e_) (fun e_ => (hk_.1.2.2.2.2) e_)))) (fun k_ hk_ => ⟨hk_.1.1.1, hk_.1.1.2.1, hk_.1.1.2.2.1, hk_.1.1.2.2.2.1, hk_.1.1.2.2.2.2⟩)); replace HO_594004 := Aside0.mk (Kd.R_mono (ok' := fun k_ => some k_ ≠ (.slice Ao25 t586.length co25 : Value).ownBlock ∧ some k_ ≠ (.slice Ao34 t634.length co34 : Value).ownBlock ∧ some k_ ≠ (.slice Ao35 t635.length co35 : Value).ownBlock ∧ some k_ ≠ (.slice Ao43 t611.length co43 : Value).ownBlock ∧ some k_ ≠ (.slice Ao44 t614.length co44 : Value).ownBlock) (Kd.R_keptB ((Kd.R_apart' HO_594004.out (Kd.R_typed HO_619002.out) (by decide))) hkp (fun k_ hk_ hs_ => Or.elim hs_ (fun e_ => (hk_.2) e_) (fun e_ => Or.elim e_ (fun e_ => (hk_.1.2.2.2.1) e_) (fun e_ => (hk_.1.2.2.2.2) e_)))) (fun k_ hk_ => ⟨hk_.1.1.1, hk_.1.1.2.1, hk_.1.1.2.2.1, hk_.1.1.2.2.2.1, hk_.1.1.2.2.2.2⟩)); replace HO_606002 := Aside0.mk (Kd.R_mono (ok' := fun k_ => some k_ ≠ (.slice Ao24 t583.length co24 : Value).ownBlock ∧ some k_ ≠ (.slice Ao42 t608.length co42 : Value).ownBlock) (Kd.R_keptB ((Kd.R_apart' (Kd.R_apart' HO_606002.out (Kd.R_typed HO_619003.out) (by decide)) (Kd.R_typed HO_619004.out) (by decide))) hkp (fun k_ hk_ hs_ => Or.elim hs_ (fun e_ => (hk_.1.1.2) e_) (fun e_ => Or.elim e_ (fun e_ => (hk_.1.2) e_) (fun e_ => (hk_.2) e_)))) (fun k_ hk_ => ⟨hk_.1.1.1.1, hk_.1.1.1.2⟩)); replace HO_606003 := Aside0.mk (Kd.R_mono (ok' := fun k_ => some k_ ≠ (.slice Ao25 t586.length co25 : Value).ownBlock ∧ some k_ ≠ (.slice Ao26 t589.length co26 : Value).ownBlock ∧ some k_ ≠ (.slice Ao35 t635.length co35 : Value).ownBlock ∧ some k_ ≠ (.slice Ao43 t611.length co43 : Value).ownBlock ∧ some k_ ≠ (.slice Ao44 t614.length co44 : Value).ownBlock) (Kd.R_keptB ((Kd.R_apart' HO_606003.out (Kd.R_typed HO_619002.out) (by decide))) hkp (fun k_ hk_ hs_ => Or.elim hs_ (fun e_ => (hk_.2) e_) (fun e_ => Or.elim e_ (fun e_ => (hk_.1.2.2.2.1) e_) (fun e_ => (hk_.1.2.2.2.2) e_)))) (fun k_ hk_ => ⟨hk_.1.1.1, hk_.1.1.2.1, hk_.1.1.2.2.1, hk_.1.1.2.2.2.1, hk_.1.1.2.2.2.2⟩)); replace HO_606004 := Aside0.mk (Kd.R_mono (ok' := fun k_ => some k_ ≠ (.slice Ao25 t586.length co25 : Value).ownBlock ∧ some k_ ≠ (.slice Ao26 t589.length co26 : Value).ownBlock ∧ some k_ ≠ (.slice Ao34 t634.length co34 : Value).ownBlock ∧ some k_ ≠ (.slice Ao43 t611.length co43 : Value).ownBlock ∧ some k_ ≠ (.slice Ao44 t614.length co44 : Value).ownBlock) (Kd.R_keptB ((Kd.R_apart' HO_606004.out (Kd.R_typed HO_619002.out) (by decide))) hkp (fun k_ hk_ hs_ => Or.elim hs_ (fun e_ => (hk_.2) e_) (fun e_ => Or.elim e_ (fun e_ => (hk_.1.2.2.2.1) e_) (fun e_ => (hk_.1.2.2.2.2) e_)))) (fun k_ hk_ => ⟨hk_.1.1.1, hk_.1.1.2.1, hk_.1.1.2.2.1, hk_.1.1.2.2.2.1, hk_.1.1.2.2.2.2⟩)); replace BK568 := Aside0.mk (blk_kept (zq BK568) hkp (fun hs_ => Or.elim hs_ (fun e_ => (fun e_ => (Kd.R_ne HO_619002.out BK568.out (by decide)) e_) e_) (fun e_ => Or.elim e_ (fun e_ => (fun e_ => (Kd.R_ne HO_619003.out BK568.out (by decide)) e_) e_) (fun e_ => (fun e_ => (Kd.R_ne HO_619004.out BK568.out (by decide)) e_) e_)))); replace BK593 := Aside0.mk (blk_kept (zq BK593) hkp (fun hs_ => Or.elim hs_ (fun e_ => (fun e_ => (Kd.R_ne HO_619002.out BK593.out (by decide)) e_) e_) (fun e_ => Or.elim e_ (fun e_ => (fun e_ => (Kd.R_ne HO_619003.out BK593.out (by decide)) e_) e_) (fun e_ => (fun e_ => (Kd.R_ne HO_619004.out BK593.out (by decide)) e_) e_)))); replace BK605 := Aside0.mk (blk_kept (zq BK605) hkp (fun hs_ => Or.elim hs_ (fun e_ => (fun e_ => (Kd.R_ne HO_619002.out BK605.out (by decide)) e_) e_) (fun e_ => Or.elim e_ (fun e_ => (fun e_ => (Kd.R_ne HO_619003.out BK605.out (by decide)) e_) e_) (fun e_ => (fun e_ => (Kd.R_ne HO_619004.out BK605.out (by decide)) e_) e_)))); replace BK618 := Aside0.mk (blk_kept (zq BK618) hkp (fun hs_ => Or.elim hs_ (fun e_ => (fun e_ => (Kd.R_ne HO_619002.out BK618.out (by decide)) e_) e_) (fun e_ => Or.elim e_ (fun e_ => (fun e_ => (Kd.R_ne HO_619003.out BK618.out (by decide)) e_) e_) (fun e_ => (fun e_ => (Kd.R_ne HO_619004.out BK618.out (by decide)) e_) e_)))); replace HO_619002 := Aside0.mk (Kd.R_reok rfl hy0 (fun k_ e_ => HO_619002.out.1 k_ e_)); replace HO_619003 := Aside0.mk (Kd.R_reok rfl hy1 (fun k_ e_ => HO_619003.out.1 k_ e_)); replace HO_619004 := Aside0.mk (Kd.R_reok rfl hy2 (fun k_ e_ => HO_619004.out.1 k_ e_)); replace HB := Aside0.mk (hb); (try clear hb hkp hy0 hy1 hy2); have ⟨hcz119_0, hcz119_1, hcz119_2, hcz119_3, hcz119_4, hfz119_0, hfz119_1, hfz119_2, hfz119_3, hfz119_4⟩ := bc5 BK618) | ((with_reducible refine gate_callee (f := 26) rfl ?_); refine goesL_ (some 67) rfl rfl Try.func26 (by kernel_rfl) rfl #[.agg #[.int .i64 t606, .int .i64 t607, .slice Ao42 t638.length co42, .slice Ao43 t639.length co43, .slice Ao44 t640.length co44], .int .i64 1] rfl (by (try simp only [List.map_toArray, List.map_cons, List.map_nil]); first | done | (rw [show t638.length = t608.length from (Kd.R_reads' HO_619002.out).1.symm, show t639.length = t611.length from (Kd.R_reads' HO_619003.out).1.symm, show t640.length = t614.length from (Kd.R_reads' HO_619004.out).1.symm] <;> rfl) | rfl | (simp only [List.length_drop, List.length_take]; rfl)) ?_; (with_reducible refine (laws_heldSession.calls kj67 t606 t607 _ _ t638 _ _ t639 _ _ t640 1 t641 _ ?s1 ?s2 ?s3 ?s4 ?s5 ?s6 A101.out).mono ?_); (case s1 => exact cr HO_619002); (case s2 => rw [show t638.length = t608.length from (Kd.R_reads' HO_619002.out).1.symm]; exact r1 HO_619002); (case s3 => exact cr HO_619003); (case s4 => rw [show t639.length = t611.length from (Kd.R_reads' HO_619003.out).1.symm]; exact r1 HO_619003); (case s5 => exact cr HO_619004); (case s6 => rw [show t640.length = t614.length from (Kd.R_reads' HO_619004.out).1.symm]; exact r1 HO_619004); rintro e w120 ⟨rfl, hb⟩; refine ⟨_, rfl, ?_⟩; replace HO_594002 := rb HO_594002 hb; replace HO_594003 := rb HO_594003 hb; replace HO_594004 := rb HO_594004 hb; replace HO_606002 := rb HO_606002 hb; replace HO_606003 := rb HO_606003 hb; replace HO_606004 := rb HO_606004 hb; replace HO_619002 := rb HO_619002 hb; replace HO_619003 := rb HO_619003 hb; replace HO_619004 := rb HO_619004 hb; replace BK568 := zb BK568 hb; replace BK593 := zb BK593 hb; replace BK605 := zb BK605 hb; replace BK618 := zb BK618 hb; replace HB := sb hb; (try clear hb); have hnb121 := NB568_593.out; have hnc121 := NB593_568.out; have hnb122 := NB568_605.out; have hnc122 := NB605_568.out; have ⟨hcz123_0, hcz123_1, hcz123_2, hcz123_3, hcz123_4, hfz123_0, hfz123_1, hfz123_2, hfz123_3, hfz123_4⟩ := bc5 BK568) | ((with_reducible refine gate_callee (f := 16) rfl ?_); refine goesQ (some 75) Try.func16 #[.agg #[.int .i64 a0_0, .int .i64 a0_1, .slice A0_2 l0_2.length c0_2, .slice A0_3 l0_3.length c0_3, .slice A0_4 l0_4.length c0_4]] ?_; (with_reducible refine (laws_toSession.calls kj67 a0_0 a0_1 _ _ l0_2 _ _ l0_3 _ _ l0_4 t642 t643 t644 t647 t650 _ ?s1 ?s2 ?s3 ?s4 ?s5 ?s6 A111.out).mono ?_); (case s1 => exact cq (Kd.C_below HR0_2.out HB.out)); (case s2 => exact HC0_2.out); (case s3 => exact cq (Kd.C_below HR0_3.out HB.out)); (case s4 => exact HC0_3.out); (case s5 => exact cq (Kd.C_below HR0_4.out HB.out)); (case s6 => exact HC0_4.out); rintro e w124 ⟨v645, v648, v651, rfl, ho0, ho1, ho2, hb⟩; refine ⟨_, rfl, ?_⟩; have HO646 := Aside0.mk (Kd.R_lower (Kd.R_new' (Kd.R_new' (Kd.R_new' ho0 (Kd.R_lt (rq HO_594002))) (Kd.R_lt (rq HO_606002))) (Kd.R_lt (rq HO_619002))) (below_size bq)); replace HO_594002 := Aside0.mk (Kd.R_elder' (rq HO_594002) (Kd.R_base ho0) hb); replace HO_606002 := Aside0.mk (Kd.R_elder' (rq HO_606002) (Kd.R_base ho0) hb); replace HO_619002 := Aside0.mk (Kd.R_elder' (rq HO_619002) (Kd.R_base ho0) hb); have HO649 := Aside0.mk (Kd.R_lower (Kd.R_new' (Kd.R_new' (Kd.R_new' (Kd.R_new' (Kd.R_new' (Kd.R_new' ho1 (Kd.R_lt (rq HO_594003))) (Kd.R_lt (rq HO_594004))) (Kd.R_lt (rq HO_606003))) (Kd.R_lt (rq HO_606004))) (Kd.R_lt (rq HO_619003))) (Kd.R_lt (rq HO_619004))) (below_size bq)); have HO652 := Aside0.mk (Kd.R_lower (Kd.R_new' (Kd.R_new' (Kd.R_new' (Kd.R_new' (Kd.R_new' (Kd.R_new' ho2 (Kd.R_lt (rq HO_594003))) (Kd.R_lt (rq HO_594004))) (Kd.R_lt (rq HO_606003))) (Kd.R_lt (rq HO_606004))) (Kd.R_lt (rq HO_619003))) (Kd.R_lt (rq HO_619004))) (below_size bq)); replace HO_594003 := Aside0.mk (Kd.R_mono (Kd.R_told (Kd.R_told (Kd.R_old (rq HO_594003) hb) (Kd.R_base ho1)) (Kd.R_base ho2)) (fun _ h_ => h_.1)); replace HO_594004 := Aside0.mk (Kd.R_mono (Kd.R_told (Kd.R_told (Kd.R_old (rq HO_594004) hb) (Kd.R_base ho1)) (Kd.R_base ho2)) (fun _ h_ => h_.1)); replace HO_606003 := Aside0.mk (Kd.R_mono (Kd.R_told (Kd.R_told (Kd.R_old (rq HO_606003) hb) (Kd.R_base ho1)) (Kd.R_base ho2)) (fun _ h_ => h_.1)); replace HO_606004 := Aside0.mk (Kd.R_mono (Kd.R_told (Kd.R_told (Kd.R_old (rq HO_606004) hb) (Kd.R_base ho1)) (Kd.R_base ho2)) (fun _ h_ => h_.1)); replace HO_619003 := Aside0.mk (Kd.R_mono (Kd.R_told (Kd.R_told (Kd.R_old (rq HO_619003) hb) (Kd.R_base ho1)) (Kd.R_base ho2)) (fun _ h_ => h_.1)); replace HO_619004 := Aside0.mk (Kd.R_mono (Kd.R_told (Kd.R_told (Kd.R_old (rq HO_619004) hb) (Kd.R_base ho1)) (Kd.R_base ho2)) (fun _ h_ => h_.1)); replace BK568 := zb BK568 hb; replace BK593 := zb BK593 hb; replace BK605 := zb BK605 hb; replace BK618 := zb BK618 hb; replace HB := sb hb; (try clear hb ho0 ho1 ho2); obtain ⟨Ao125, co125, eo125⟩ := Kd.R_slice HO646.out; subst eo125; obtain ⟨Ao126, co126, eo126⟩ := Kd.R_slice HO649.out; subst eo126; obtain ⟨Ao127, co127, eo127⟩ := Kd.R_slice HO652.out; subst eo127) | ((with_reducible refine gate_callee (f := 35) rfl ?_); refine goesQ (some 76) Try.func35 #[.agg #[.int .i64 t642, .int .i64 t643, .slice Ao125 t644.length co125, .slice Ao126 t647.length co126, .slice Ao127 t650.length co127]] ?_; (with_reducible refine (impl_UndoAct.calls kj67 t642 t643 _ _ t644 _ _ t647 _ _ t650 t653 t654 t655 t658 t661 t664 _ ?s1 ?s2 ?s3 ?s4 ?s5 ?s6 A112.out).mono ?_); (case s1 => exact cr HO646); (case s2 => exact r1 HO646); (case s3 => exact cr HO649); (case s4 => exact r1 HO649); (case s5 => exact cr HO652); (case s6 => exact r1 HO652); rintro e w128 ⟨v656, v659, v662, rfl, ho0, ho1, ho2, hb⟩; refine ⟨_, rfl, ?_⟩; have HO657 := Aside0.mk (Kd.R_lower (Kd.R_new' (Kd.R_new' (Kd.R_new' (Kd.R_new' ho0 (Kd.R_lt (rq HO_594002))) (Kd.R_lt (rq HO_606002))) (Kd.R_lt (rq HO_619002))) (Kd.R_lt (rq HO646))) (below_size bq)); replace HO_594002 := Aside0.mk (Kd.R_elder' (rq HO_594002) (Kd.R_base ho0) hb); replace HO_606002 := Aside0.mk (Kd.R_elder' (rq HO_606002) (Kd.R_base ho0) hb); replace HO_619002 := Aside0.mk (Kd.R_elder' (rq HO_619002) (Kd.R_base ho0) hb); have HO660 := Aside0.mk (Kd.R_lower (Kd.R_new' (Kd.R_new' (Kd.R_new' (Kd.R_new' (Kd.R_new' (Kd.R_new' (Kd.R_new' (Kd.R_new' ho1 (Kd.R_lt (rq HO_594003))) (Kd.R_lt (rq HO_594004))) (Kd.R_lt (rq HO_606003))) (Kd.R_lt (rq HO_606004))) (Kd.R_lt (rq HO_619003))) (Kd.R_lt (rq HO_619004))) (Kd.R_lt (rq HO649))) (Kd.R_lt (rq HO652))) (below_size bq)); have HO663 := Aside0.mk (Kd.R_lower (Kd.R_new' (Kd.R_new' (Kd.R_new' (Kd.R_new' (Kd.R_new' (Kd.R_new' (Kd.R_new' (Kd.R_new' ho2 (Kd.R_lt (rq HO_594003))) (Kd.R_lt (rq HO_594004))) (Kd.R_lt (rq HO_606003))) (Kd.R_lt (rq HO_606004))) (Kd.R_lt (rq HO_619003))) (Kd.R_lt (rq HO_619004))) (Kd.R_lt (rq HO649))) (Kd.R_lt (rq HO652))) (below_size bq)); replace HO_594003 := Aside0.mk (Kd.R_mono (Kd.R_told (Kd.R_told (Kd.R_old (rq HO_594003) hb) (Kd.R_base ho1)) (Kd.R_base ho2)) (fun _ h_ => h_.1)); replace HO_594004 := Aside0.mk (Kd.R_mono (Kd.R_told (Kd.R_told (Kd.R_old (rq HO_594004) hb) (Kd.R_base ho1)) (Kd.R_base ho2)) (fun _ h_ => h_.1)); replace HO_606003 := Aside0.mk (Kd.R_mono (Kd.R_told (Kd.R_told (Kd.R_old (rq HO_606003) hb) (Kd.R_base ho1)) (Kd.R_base ho2)) (fun _ h_ => h_.1)); replace HO_606004 := Aside0.mk (Kd.R_mono (Kd.R_told (Kd.R_told (Kd.R_old (rq HO_606004) hb) (Kd.R_base ho1)) (Kd.R_base ho2)) (fun _ h_ => h_.1)); replace HO_619003 := Aside0.mk (Kd.R_mono (Kd.R_told (Kd.R_told (Kd.R_old (rq HO_619003) hb) (Kd.R_base ho1)) (Kd.R_base ho2)) (fun _ h_ => h_.1)); replace HO_619004 := Aside0.mk (Kd.R_mono (Kd.R_told (Kd.R_told (Kd.R_old (rq HO_619004) hb) (Kd.R_base ho1)) (Kd.R_base ho2)) (fun _ h_ => h_.1)); replace BK568 := zb BK568 hb; replace BK593 := zb BK593 hb; replace BK605 := zb BK605 hb; replace BK618 := zb BK618 hb; replace HB := sb hb; (try clear hb ho0 ho1 ho2)) | ((with_reducible refine gate_dst (N := 12) rfl ?_); refine box_event ?hg (N := 12) ?hd (cs := #[.int .i64 0, .int .i64 0, .slice none 0 0, .slice none 0 0, .slice none 0 0]) (t := 35) ?hr ?_; (case hd => rfl); (case hg => rfl); (case hr => first | (go_simp; done) | (go_simp; rfl)); intro gb665 hg w129 hbox hb; replace HO_594002 := rb HO_594002 hb; replace HO_594003 := rb HO_594003 hb; replace HO_594004 := rb HO_594004 hb; replace HO_606002 := rb HO_606002 hb; replace HO_606003 := rb HO_606003 hb; replace HO_606004 := rb HO_606004 hb; replace HO_619002 := rb HO_619002 hb; replace HO_619003 := rb HO_619003 hb; replace HO_619004 := rb HO_619004 hb; replace HO657 := rb HO657 hb; replace HO660 := rb HO660 hb; replace HO663 := rb HO663 hb; have BK665 := Aside0.mk (hbox); have GE665 := Aside0.mk (gq hg); replace HB := sb hb; have NB568_665 := nl hg BK568; have NB665_568 := ng hg BK568; replace BK568 := zb BK568 hb; have NB593_665 := nl hg BK593; have NB665_593 := ng hg BK593; replace BK593 := zb BK593 hb; have NB605_665 := nl hg BK605; have NB665_605 := ng hg BK605; replace BK605 := zb BK605 hb; have NB618_665 := nl hg BK618; have NB665_618 := ng hg BK618; replace BK618 := zb BK618 hb; clear hb hbox hg; have hnb130 := NB665_568.out; have hnc130 := NB568_665.out; have hnb131 := NB665_593.out; have hnc131 := NB593_665.out; have hnb132 := NB665_605.out; have hnc132 := NB605_665.out; have hnb133 := NB665_618.out; have hnc133 := NB618_665.out; have ⟨hcz134_0, hcz134_1, hcz134_2, hcz134_3, hcz134_4, hfz134_0, hfz134_1, hfz134_2, hfz134_3, hfz134_4⟩ := bc5 BK665; obtain ⟨Ao135, co135, eo135⟩ := Kd.R_slice HO657.out; subst eo135; obtain ⟨Ao136, co136, eo136⟩ := Kd.R_slice HO660.out; subst eo136; obtain ⟨Ao137, co137, eo137⟩ := Kd.R_slice HO663.out; subst eo137))
           (try simp only [Act.put, List.setIfInBounds_toArray, List.set_cons_zero, List.set_cons_succ])
           go_cut [87] (fun v87 wc => ∃ (kq : Nat) (x87_112 : Bool), v87 = .bool x87_112 ∧ Aside0 (laws_FnExactUndoAct.j2 kq t637 x87_112 t606 t607 t638 t639 t640 = some r) ∧ Aside0 (kq ≤ kj67) ∧ Aside0 (Kd.R k58 58 wc w.heap.size (fun k_ => some k_ ≠ ((.slice Ao33 t633.length co33) : Value).ownBlock ∧ some k_ ≠ ((.slice Ao42 t608.length co42) : Value).ownBlock ∧ some k_ ≠ ((.slice Ao135 t655.length co135) : Value).ownBlock) (.slice Ao24 t583.length co24) t583) ∧ Aside0 (Kd.R k60 60 wc w.heap.size (fun k_ => some k_ ≠ ((.slice Ao26 t589.length co26) : Value).ownBlock ∧ some k_ ≠ ((.slice Ao34 t634.length co34) : Value).ownBlock ∧ some k_ ≠ ((.slice Ao35 t635.length co35) : Value).ownBlock ∧ some k_ ≠ ((.slice Ao43 t611.length co43) : Value).ownBlock ∧ some k_ ≠ ((.slice Ao44 t614.length co44) : Value).ownBlock ∧ some k_ ≠ ((.slice Ao136 t658.length co136) : Value).ownBlock ∧ some k_ ≠ ((.slice Ao137 t661.length co137) : Value).ownBlock) (.slice Ao25 t586.length co25) t586) ∧ Aside0 (Kd.R k60 60 wc w.heap.size (fun k_ => some k_ ≠ ((.slice Ao25 t586.length co25) : Value).ownBlock ∧ some k_ ≠ ((.slice Ao34 t634.length co34) : Value).ownBlock ∧ some k_ ≠ ((.slice Ao35 t635.length co35) : Value).ownBlock ∧ some k_ ≠ ((.slice Ao43 t611.length co43) : Value).ownBlock ∧ some k_ ≠ ((.slice Ao44 t614.length co44) : Value).ownBlock ∧ some k_ ≠ ((.slice Ao136 t658.length co136) : Value).ownBlock ∧ some k_ ≠ ((.slice Ao137 t661.length co137) : Value).ownBlock) (.slice Ao26 t589.length co26) t589) ∧ Aside0 (Kd.R k58 58 wc w.heap.size (fun k_ => some k_ ≠ ((.slice Ao24 t583.length co24) : Value).ownBlock ∧ some k_ ≠ ((.slice Ao42 t608.length co42) : Value).ownBlock ∧ some k_ ≠ ((.slice Ao135 t655.length co135) : Value).ownBlock) (.slice Ao33 t633.length co33) t633) ∧ Aside0 (Kd.R k60 60 wc w.heap.size (fun k_ => some k_ ≠ ((.slice Ao25 t586.length co25) : Value).ownBlock ∧ some k_ ≠ ((.slice Ao26 t589.length co26) : Value).ownBlock ∧ some k_ ≠ ((.slice Ao35 t635.length co35) : Value).ownBlock ∧ some k_ ≠ ((.slice Ao43 t611.length co43) : Value).ownBlock ∧ some k_ ≠ ((.slice Ao44 t614.length co44) : Value).ownBlock ∧ some k_ ≠ ((.slice Ao136 t658.length co136) : Value).ownBlock ∧ some k_ ≠ ((.slice Ao137 t661.length co137) : Value).ownBlock) (.slice Ao34 t634.length co34) t634) ∧ Aside0 (Kd.R k60 60 wc w.heap.size (fun k_ => some k_ ≠ ((.slice Ao25 t586.length co25) : Value).ownBlock ∧ some k_ ≠ ((.slice Ao26 t589.length co26) : Value).ownBlock ∧ some k_ ≠ ((.slice Ao34 t634.length co34) : Value).ownBlock ∧ some k_ ≠ ((.slice Ao43 t611.length co43) : Value).ownBlock ∧ some k_ ≠ ((.slice Ao44 t614.length co44) : Value).ownBlock ∧ some k_ ≠ ((.slice Ao136 t658.length co136) : Value).ownBlock ∧ some k_ ≠ ((.slice Ao137 t661.length co137) : Value).ownBlock) (.slice Ao35 t635.length co35) t635) ∧ Aside0 (Kd.R k58 58 wc w.heap.size (fun k_ => some k_ ≠ ((.slice Ao24 t583.length co24) : Value).ownBlock ∧ some k_ ≠ ((.slice Ao33 t633.length co33) : Value).ownBlock ∧ some k_ ≠ ((.slice Ao135 t655.length co135) : Value).ownBlock) (.slice Ao42 t608.length co42) t638) ∧ Aside0 (Kd.R k60 60 wc w.heap.size (fun k_ => some k_ ≠ ((.slice Ao25 t586.length co25) : Value).ownBlock ∧ some k_ ≠ ((.slice Ao26 t589.length co26) : Value).ownBlock ∧ some k_ ≠ ((.slice Ao34 t634.length co34) : Value).ownBlock ∧ some k_ ≠ ((.slice Ao35 t635.length co35) : Value).ownBlock ∧ some k_ ≠ ((.slice Ao44 t614.length co44) : Value).ownBlock ∧ some k_ ≠ ((.slice Ao136 t658.length co136) : Value).ownBlock ∧ some k_ ≠ ((.slice Ao137 t661.length co137) : Value).ownBlock) (.slice Ao43 t611.length co43) t639) ∧ Aside0 (Kd.R k60 60 wc w.heap.size (fun k_ => some k_ ≠ ((.slice Ao25 t586.length co25) : Value).ownBlock ∧ some k_ ≠ ((.slice Ao26 t589.length co26) : Value).ownBlock ∧ some k_ ≠ ((.slice Ao34 t634.length co34) : Value).ownBlock ∧ some k_ ≠ ((.slice Ao35 t635.length co35) : Value).ownBlock ∧ some k_ ≠ ((.slice Ao43 t611.length co43) : Value).ownBlock ∧ some k_ ≠ ((.slice Ao136 t658.length co136) : Value).ownBlock ∧ some k_ ≠ ((.slice Ao137 t661.length co137) : Value).ownBlock) (.slice Ao44 t614.length co44) t640) ∧ Aside0 (Kd.R k58 58 wc w.heap.size (fun k_ => some k_ ≠ ((.slice Ao24 t583.length co24) : Value).ownBlock ∧ some k_ ≠ ((.slice Ao33 t633.length co33) : Value).ownBlock ∧ some k_ ≠ ((.slice Ao42 t608.length co42) : Value).ownBlock) (.slice Ao135 t655.length co135) t655) ∧ Aside0 (Kd.R k60 60 wc w.heap.size (fun k_ => some k_ ≠ ((.slice Ao25 t586.length co25) : Value).ownBlock ∧ some k_ ≠ ((.slice Ao26 t589.length co26) : Value).ownBlock ∧ some k_ ≠ ((.slice Ao34 t634.length co34) : Value).ownBlock ∧ some k_ ≠ ((.slice Ao35 t635.length co35) : Value).ownBlock ∧ some k_ ≠ ((.slice Ao43 t611.length co43) : Value).ownBlock ∧ some k_ ≠ ((.slice Ao44 t614.length co44) : Value).ownBlock ∧ some k_ ≠ ((.slice Ao137 t661.length co137) : Value).ownBlock) (.slice Ao136 t658.length co136) t658) ∧ Aside0 (Kd.R k60 60 wc w.heap.size (fun k_ => some k_ ≠ ((.slice Ao25 t586.length co25) : Value).ownBlock ∧ some k_ ≠ ((.slice Ao26 t589.length co26) : Value).ownBlock ∧ some k_ ≠ ((.slice Ao34 t634.length co34) : Value).ownBlock ∧ some k_ ≠ ((.slice Ao35 t635.length co35) : Value).ownBlock ∧ some k_ ≠ ((.slice Ao43 t611.length co43) : Value).ownBlock ∧ some k_ ≠ ((.slice Ao44 t614.length co44) : Value).ownBlock ∧ some k_ ≠ ((.slice Ao136 t658.length co136) : Value).ownBlock) (.slice Ao137 t661.length co137) t661) ∧ Aside0 (wc.heap[gb568]? = some (.cells #[.int .i64 a0_0, .int .i64 a0_1, (.slice A0_2 l0_2.length c0_2), (.slice A0_3 l0_3.length c0_3), (.slice A0_4 l0_4.length c0_4)] 27 (0, 0))) ∧ Aside0 (wc.heap[gb593]? = some (.cells #[.int .i64 t581, .int .i64 t582, (.slice Ao24 t583.length co24), (.slice Ao25 t586.length co25), (.slice Ao26 t589.length co26)] 35 (0, 0))) ∧ Aside0 (wc.heap[gb605]? = some (.cells #[.int .i64 t594, .int .i64 t595, (.slice Ao33 t633.length co33), (.slice Ao34 t634.length co34), (.slice Ao35 t635.length co35)] 35 (0, 0))) ∧ Aside0 (wc.heap[gb618]? = some (.cells #[.int .i64 t606, .int .i64 t607, (.slice Ao42 t608.length co42), (.slice Ao43 t611.length co43), (.slice Ao44 t614.length co44)] 35 (0, 0))) ∧ Aside0 (wc.heap[gb665]? = some (.cells #[.int .i64 t653, .int .i64 t654, (.slice Ao135 t655.length co135), (.slice Ao136 t658.length co136), (.slice Ao137 t661.length co137)] 35 (0, 0))) ∧ Aside0 (Below w.heap.size w wc))
           case first =>
            have H := HC113.out
            clear HC113
            obtain ⟨t666, A138, H⟩ := bindq H
            try dsimp only at H
            by_cases c139 : t666 = true
            ·subst c139
             rw [if_pos rfl] at H
             try dsimp only at H
             have H' := Aside0.mk H
             clear H
             have hnb140 := NB665_568.out
             have hnc140 := NB568_665.out
             have hnb141 := NB665_593.out
             have hnc141 := NB593_665.out
             have hnb142 := NB665_605.out
             have hnc142 := NB605_665.out
             have hnb143 := NB665_618.out
             have hnc143 := NB618_665.out
             have ⟨hcz144_0, hcz144_1, hcz144_2, hcz144_3, hcz144_4, hfz144_0, hfz144_1, hfz144_2, hfz144_3, hfz144_4⟩ := bc5 BK665
             have hnb145 := NB593_568.out
             have hnc145 := NB568_593.out
             have hnb146 := NB593_605.out
             have hnc146 := NB605_593.out
             have hnb147 := NB593_618.out
             have hnc147 := NB618_593.out
             have ⟨hcz148_0, hcz148_1, hcz148_2, hcz148_3, hcz148_4, hfz148_0, hfz148_1, hfz148_2, hfz148_3, hfz148_4⟩ := bc5 BK593
             go_wp2_with (first | ((with_reducible refine gate_callee (f := 18) rfl ?_); refine goesQ (some 81) Try.func18 #[.agg #[.int .i64 t653, .int .i64 t654, .slice Ao135 t655.length co135, .slice Ao136 t658.length co136, .slice Ao137 t661.length co137], .agg #[.int .i64 t581, .int .i64 t582, .slice Ao24 t583.length co24, .slice Ao25 t586.length co25, .slice Ao26 t589.length co26]] ?_; (with_reducible refine (laws_eqSession.calls kj67 t653 t654 _ _ t655 _ _ t658 _ _ t661 t581 t582 _ _ t583 _ _ t586 _ _ t589 true _ ?s1 ?s2 ?s3 ?s4 ?s5 ?s6 ?s7 ?s8 ?s9 ?s10 ?s11 ?s12 A138.out).mono ?_); (case s1 => refine (Kd.R_reads' (e := 58) (base := w.heap.size) (ok := fun k_ => ((((True ∧ some k_ ≠ (.slice Ao24 t583.length co24 : Value).ownBlock) ∧ some k_ ≠ (.slice Ao33 t633.length co33 : Value).ownBlock) ∧ some k_ ≠ (.slice Ao42 t608.length co42 : Value).ownBlock) ∧ some k_ ≠ (.slice Ao125 t644.length co125 : Value).ownBlock)) (n := t655.length) (c := co135) ?_).2.2; exact (by (with_reducible repeat (first | apply Kd.R_alloc | apply Kd.R_drewN | apply Kd.R_drew)); exact (Kd.R_mono (Kd.R_far (p := ⟨gb665, 4, none⟩) (Kd.R_far (p := ⟨gb665, 3, none⟩) (Kd.R_far (p := ⟨gb665, 2, none⟩) (Kd.R_far (p := ⟨gb665, 1, none⟩) (Kd.R_far (p := ⟨gb665, 0, none⟩) (Kd.R_types HO657.out BK665.out (by decide)) (fun _ hk => hk.2) (.int .i64 t653)) (fun _ hk => hk.2) (.int .i64 t654)) (fun _ hk => hk.2) (.slice Ao135 t655.length co135)) (fun _ hk => hk.2) (.slice Ao136 t658.length co136)) (fun _ hk => hk.2) (.slice Ao137 t661.length co137)) (fun _ h_ => h_.1)))); (case s2 => exact r1 HO657); (case s3 => refine (Kd.R_reads' (e := 60) (base := w.heap.size) (ok := fun k_ => ((((((((some k_ ≠ (.slice Ao137 t661.length co137 : Value).ownBlock ∧ some k_ ≠ (.slice Ao25 t586.length co25 : Value).ownBlock) ∧ some k_ ≠ (.slice Ao26 t589.length co26 : Value).ownBlock) ∧ some k_ ≠ (.slice Ao34 t634.length co34 : Value).ownBlock) ∧ some k_ ≠ (.slice Ao35 t635.length co35 : Value).ownBlock) ∧ some k_ ≠ (.slice Ao43 t611.length co43 : Value).ownBlock) ∧ some k_ ≠ (.slice Ao44 t614.length co44 : Value).ownBlock) ∧ some k_ ≠ (.slice Ao126 t647.length co126 : Value).ownBlock) ∧ some k_ ≠ (.slice Ao127 t650.length co127 : Value).ownBlock)) (n := t658.length) (c := co136) ?_).2.2; exact (by (with_reducible repeat (first | apply Kd.R_alloc | apply Kd.R_drewN | apply Kd.R_drew)); exact (Kd.R_mono (Kd.R_far (p := ⟨gb665, 4, none⟩) (Kd.R_far (p := ⟨gb665, 3, none⟩) (Kd.R_far (p := ⟨gb665, 2, none⟩) (Kd.R_far (p := ⟨gb665, 1, none⟩) (Kd.R_far (p := ⟨gb665, 0, none⟩) (Kd.R_types HO660.out BK665.out (by decide)) (fun _ hk => hk.2) (.int .i64 t653)) (fun _ hk => hk.2) (.int .i64 t654)) (fun _ hk => hk.2) (.slice Ao135 t655.length co135)) (fun _ hk => hk.2) (.slice Ao136 t658.length co136)) (fun _ hk => hk.2) (.slice Ao137 t661.length co137)) (fun _ h_ => h_.1)))); (case s4 => exact r1 HO660); (case s5 => refine (Kd.R_reads' (e := 60) (base := w.heap.size) (ok := fun k_ => ((((((((some k_ ≠ (.slice Ao136 t658.length co136 : Value).ownBlock ∧ some k_ ≠ (.slice Ao25 t586.length co25 : Value).ownBlock) ∧ some k_ ≠ (.slice Ao26 t589.length co26 : Value).ownBlock) ∧ some k_ ≠ (.slice Ao34 t634.length co34 : Value).ownBlock) ∧ some k_ ≠ (.slice Ao35 t635.length co35 : Value).ownBlock) ∧ some k_ ≠ (.slice Ao43 t611.length co43 : Value).ownBlock) ∧ some k_ ≠ (.slice Ao44 t614.length co44 : Value).ownBlock) ∧ some k_ ≠ (.slice Ao126 t647.length co126 : Value).ownBlock) ∧ some k_ ≠ (.slice Ao127 t650.length co127 : Value).ownBlock)) (n := t661.length) (c := co137) ?_).2.2; exact (by (with_reducible repeat (first | apply Kd.R_alloc | apply Kd.R_drewN | apply Kd.R_drew)); exact (Kd.R_mono (Kd.R_far (p := ⟨gb665, 4, none⟩) (Kd.R_far (p := ⟨gb665, 3, none⟩) (Kd.R_far (p := ⟨gb665, 2, none⟩) (Kd.R_far (p := ⟨gb665, 1, none⟩) (Kd.R_far (p := ⟨gb665, 0, none⟩) (Kd.R_types HO663.out BK665.out (by decide)) (fun _ hk => hk.2) (.int .i64 t653)) (fun _ hk => hk.2) (.int .i64 t654)) (fun _ hk => hk.2) (.slice Ao135 t655.length co135)) (fun _ hk => hk.2) (.slice Ao136 t658.length co136)) (fun _ hk => hk.2) (.slice Ao137 t661.length co137)) (fun _ h_ => h_.1)))); (case s6 => exact r1 HO663); (case s7 => refine (Kd.R_reads' (e := 58) (base := w.heap.size) (ok := fun k_ => (((some k_ ≠ (.slice Ao33 t633.length co33 : Value).ownBlock ∧ some k_ ≠ (.slice Ao42 t608.length co42 : Value).ownBlock) ∧ some k_ ≠ (.slice Ao125 t644.length co125 : Value).ownBlock) ∧ some k_ ≠ (.slice Ao135 t655.length co135 : Value).ownBlock)) (n := t583.length) (c := co24) ?_).2.2; exact (by (with_reducible repeat (first | apply Kd.R_alloc | apply Kd.R_drewN | apply Kd.R_drew)); exact (Kd.R_mono (Kd.R_far (p := ⟨gb665, 4, none⟩) (Kd.R_far (p := ⟨gb665, 3, none⟩) (Kd.R_far (p := ⟨gb665, 2, none⟩) (Kd.R_far (p := ⟨gb665, 1, none⟩) (Kd.R_far (p := ⟨gb665, 0, none⟩) (Kd.R_types HO_594002.out BK665.out (by decide)) (fun _ hk => hk.2) (.int .i64 t653)) (fun _ hk => hk.2) (.int .i64 t654)) (fun _ hk => hk.2) (.slice Ao135 t655.length co135)) (fun _ hk => hk.2) (.slice Ao136 t658.length co136)) (fun _ hk => hk.2) (.slice Ao137 t661.length co137)) (fun _ h_ => h_.1)))); (case s8 => exact r1 HO_594002); (case s9 => refine (Kd.R_reads' (e := 60) (base := w.heap.size) (ok := fun k_ => (((((some k_ ≠ (.slice Ao26 t589.length co26 : Value).ownBlock ∧ (some k_ ≠ (.slice Ao34 t634.length co34 : Value).ownBlock ∧ (some k_ ≠ (.slice Ao35 t635.length co35 : Value).ownBlock ∧ (some k_ ≠ (.slice Ao43 t611.length co43 : Value).ownBlock ∧ some k_ ≠ (.slice Ao44 t614.length co44 : Value).ownBlock)))) ∧ some k_ ≠ (.slice Ao126 t647.length co126 : Value).ownBlock) ∧ some k_ ≠ (.slice Ao127 t650.length co127 : Value).ownBlock) ∧ some k_ ≠ (.slice Ao136 t658.length co136 : Value).ownBlock) ∧ some k_ ≠ (.slice Ao137 t661.length co137 : Value).ownBlock)) (n := t586.length) (c := co25) ?_).2.2; exact (by (with_reducible repeat (first | apply Kd.R_alloc | apply Kd.R_drewN | apply Kd.R_drew)); exact (Kd.R_mono (Kd.R_far (p := ⟨gb665, 4, none⟩) (Kd.R_far (p := ⟨gb665, 3, none⟩) (Kd.R_far (p := ⟨gb665, 2, none⟩) (Kd.R_far (p := ⟨gb665, 1, none⟩) (Kd.R_far (p := ⟨gb665, 0, none⟩) (Kd.R_types HO_594003.out BK665.out (by decide)) (fun _ hk => hk.2) (.int .i64 t653)) (fun _ hk => hk.2) (.int .i64 t654)) (fun _ hk => hk.2) (.slice Ao135 t655.length co135)) (fun _ hk => hk.2) (.slice Ao136 t658.length co136)) (fun _ hk => hk.2) (.slice Ao137 t661.length co137)) (fun _ h_ => h_.1)))); (case s10 => exact r1 HO_594003); (case s11 => refine (Kd.R_reads' (e := 60) (base := w.heap.size) (ok := fun k_ => (((((some k_ ≠ (.slice Ao25 t586.length co25 : Value).ownBlock ∧ (some k_ ≠ (.slice Ao34 t634.length co34 : Value).ownBlock ∧ (some k_ ≠ (.slice Ao35 t635.length co35 : Value).ownBlock ∧ (some k_ ≠ (.slice Ao43 t611.length co43 : Value).ownBlock ∧ some k_ ≠ (.slice Ao44 t614.length co44 : Value).ownBlock)))) ∧ some k_ ≠ (.slice Ao126 t647.length co126 : Value).ownBlock) ∧ some k_ ≠ (.slice Ao127 t650.length co127 : Value).ownBlock) ∧ some k_ ≠ (.slice Ao136 t658.length co136 : Value).ownBlock) ∧ some k_ ≠ (.slice Ao137 t661.length co137 : Value).ownBlock)) (n := t589.length) (c := co26) ?_).2.2; exact (by (with_reducible repeat (first | apply Kd.R_alloc | apply Kd.R_drewN | apply Kd.R_drew)); exact (Kd.R_mono (Kd.R_far (p := ⟨gb665, 4, none⟩) (Kd.R_far (p := ⟨gb665, 3, none⟩) (Kd.R_far (p := ⟨gb665, 2, none⟩) (Kd.R_far (p := ⟨gb665, 1, none⟩) (Kd.R_far (p := ⟨gb665, 0, none⟩) (Kd.R_types HO_594004.out BK665.out (by decide)) (fun _ hk => hk.2) (.int .i64 t653)) (fun _ hk => hk.2) (.int .i64 t654)) (fun _ hk => hk.2) (.slice Ao135 t655.length co135)) (fun _ hk => hk.2) (.slice Ao136 t658.length co136)) (fun _ hk => hk.2) (.slice Ao137 t661.length co137)) (fun _ h_ => h_.1)))); (case s12 => exact r1 HO_594004); rintro e w149 ⟨rfl, hb⟩; refine ⟨_, rfl, ?_⟩; replace HO_594002 := Aside0.mk (Kd.R_below (by (with_reducible repeat (first | apply Kd.R_alloc | apply Kd.R_drewN | apply Kd.R_drew)); exact (Kd.R_mono (Kd.R_far (p := ⟨gb665, 4, none⟩) (Kd.R_far (p := ⟨gb665, 3, none⟩) (Kd.R_far (p := ⟨gb665, 2, none⟩) (Kd.R_far (p := ⟨gb665, 1, none⟩) (Kd.R_far (p := ⟨gb665, 0, none⟩) (Kd.R_types HO_594002.out BK665.out (by decide)) (fun _ hk => hk.2) (.int .i64 t653)) (fun _ hk => hk.2) (.int .i64 t654)) (fun _ hk => hk.2) (.slice Ao135 t655.length co135)) (fun _ hk => hk.2) (.slice Ao136 t658.length co136)) (fun _ hk => hk.2) (.slice Ao137 t661.length co137)) (fun _ h_ => h_.1))) hb); replace HO_594003 := Aside0.mk (Kd.R_below (by (with_reducible repeat (first | apply Kd.R_alloc | apply Kd.R_drewN | apply Kd.R_drew)); exact (Kd.R_mono (Kd.R_far (p := ⟨gb665, 4, none⟩) (Kd.R_far (p := ⟨gb665, 3, none⟩) (Kd.R_far (p := ⟨gb665, 2, none⟩) (Kd.R_far (p := ⟨gb665, 1, none⟩) (Kd.R_far (p := ⟨gb665, 0, none⟩) (Kd.R_types HO_594003.out BK665.out (by decide)) (fun _ hk => hk.2) (.int .i64 t653)) (fun _ hk => hk.2) (.int .i64 t654)) (fun _ hk => hk.2) (.slice Ao135 t655.length co135)) (fun _ hk => hk.2) (.slice Ao136 t658.length co136)) (fun _ hk => hk.2) (.slice Ao137 t661.length co137)) (fun _ h_ => h_.1))) hb); replace HO_594004 := Aside0.mk (Kd.R_below (by (with_reducible repeat (first | apply Kd.R_alloc | apply Kd.R_drewN | apply Kd.R_drew)); exact (Kd.R_mono (Kd.R_far (p := ⟨gb665, 4, none⟩) (Kd.R_far (p := ⟨gb665, 3, none⟩) (Kd.R_far (p := ⟨gb665, 2, none⟩) (Kd.R_far (p := ⟨gb665, 1, none⟩) (Kd.R_far (p := ⟨gb665, 0, none⟩) (Kd.R_types HO_594004.out BK665.out (by decide)) (fun _ hk => hk.2) (.int .i64 t653)) (fun _ hk => hk.2) (.int .i64 t654)) (fun _ hk => hk.2) (.slice Ao135 t655.length co135)) (fun _ hk => hk.2) (.slice Ao136 t658.length co136)) (fun _ hk => hk.2) (.slice Ao137 t661.length co137)) (fun _ h_ => h_.1))) hb); replace HO_606002 := Aside0.mk (Kd.R_below (by (with_reducible repeat (first | apply Kd.R_alloc | apply Kd.R_drewN | apply Kd.R_drew)); exact (Kd.R_mono (Kd.R_far (p := ⟨gb665, 4, none⟩) (Kd.R_far (p := ⟨gb665, 3, none⟩) (Kd.R_far (p := ⟨gb665, 2, none⟩) (Kd.R_far (p := ⟨gb665, 1, none⟩) (Kd.R_far (p := ⟨gb665, 0, none⟩) (Kd.R_types HO_606002.out BK665.out (by decide)) (fun _ hk => hk.2) (.int .i64 t653)) (fun _ hk => hk.2) (.int .i64 t654)) (fun _ hk => hk.2) (.slice Ao135 t655.length co135)) (fun _ hk => hk.2) (.slice Ao136 t658.length co136)) (fun _ hk => hk.2) (.slice Ao137 t661.length co137)) (fun _ h_ => h_.1))) hb); replace HO_606003 := Aside0.mk (Kd.R_below (by (with_reducible repeat (first | apply Kd.R_alloc | apply Kd.R_drewN | apply Kd.R_drew)); exact (Kd.R_mono (Kd.R_far (p := ⟨gb665, 4, none⟩) (Kd.R_far (p := ⟨gb665, 3, none⟩) (Kd.R_far (p := ⟨gb665, 2, none⟩) (Kd.R_far (p := ⟨gb665, 1, none⟩) (Kd.R_far (p := ⟨gb665, 0, none⟩) (Kd.R_types HO_606003.out BK665.out (by decide)) (fun _ hk => hk.2) (.int .i64 t653)) (fun _ hk => hk.2) (.int .i64 t654)) (fun _ hk => hk.2) (.slice Ao135 t655.length co135)) (fun _ hk => hk.2) (.slice Ao136 t658.length co136)) (fun _ hk => hk.2) (.slice Ao137 t661.length co137)) (fun _ h_ => h_.1))) hb); replace HO_606004 := Aside0.mk (Kd.R_below (by (with_reducible repeat (first | apply Kd.R_alloc | apply Kd.R_drewN | apply Kd.R_drew)); exact (Kd.R_mono (Kd.R_far (p := ⟨gb665, 4, none⟩) (Kd.R_far (p := ⟨gb665, 3, none⟩) (Kd.R_far (p := ⟨gb665, 2, none⟩) (Kd.R_far (p := ⟨gb665, 1, none⟩) (Kd.R_far (p := ⟨gb665, 0, none⟩) (Kd.R_types HO_606004.out BK665.out (by decide)) (fun _ hk => hk.2) (.int .i64 t653)) (fun _ hk => hk.2) (.int .i64 t654)) (fun _ hk => hk.2) (.slice Ao135 t655.length co135)) (fun _ hk => hk.2) (.slice Ao136 t658.length co136)) (fun _ hk => hk.2) (.slice Ao137 t661.length co137)) (fun _ h_ => h_.1))) hb); replace HO_619002 := Aside0.mk (Kd.R_below (by (with_reducible repeat (first | apply Kd.R_alloc | apply Kd.R_drewN | apply Kd.R_drew)); exact (Kd.R_mono (Kd.R_far (p := ⟨gb665, 4, none⟩) (Kd.R_far (p := ⟨gb665, 3, none⟩) (Kd.R_far (p := ⟨gb665, 2, none⟩) (Kd.R_far (p := ⟨gb665, 1, none⟩) (Kd.R_far (p := ⟨gb665, 0, none⟩) (Kd.R_types HO_619002.out BK665.out (by decide)) (fun _ hk => hk.2) (.int .i64 t653)) (fun _ hk => hk.2) (.int .i64 t654)) (fun _ hk => hk.2) (.slice Ao135 t655.length co135)) (fun _ hk => hk.2) (.slice Ao136 t658.length co136)) (fun _ hk => hk.2) (.slice Ao137 t661.length co137)) (fun _ h_ => h_.1))) hb); replace HO_619003 := Aside0.mk (Kd.R_below (by (with_reducible repeat (first | apply Kd.R_alloc | apply Kd.R_drewN | apply Kd.R_drew)); exact (Kd.R_mono (Kd.R_far (p := ⟨gb665, 4, none⟩) (Kd.R_far (p := ⟨gb665, 3, none⟩) (Kd.R_far (p := ⟨gb665, 2, none⟩) (Kd.R_far (p := ⟨gb665, 1, none⟩) (Kd.R_far (p := ⟨gb665, 0, none⟩) (Kd.R_types HO_619003.out BK665.out (by decide)) (fun _ hk => hk.2) (.int .i64 t653)) (fun _ hk => hk.2) (.int .i64 t654)) (fun _ hk => hk.2) (.slice Ao135 t655.length co135)) (fun _ hk => hk.2) (.slice Ao136 t658.length co136)) (fun _ hk => hk.2) (.slice Ao137 t661.length co137)) (fun _ h_ => h_.1))) hb); replace HO_619004 := Aside0.mk (Kd.R_below (by (with_reducible repeat (first | apply Kd.R_alloc | apply Kd.R_drewN | apply Kd.R_drew)); exact (Kd.R_mono (Kd.R_far (p := ⟨gb665, 4, none⟩) (Kd.R_far (p := ⟨gb665, 3, none⟩) (Kd.R_far (p := ⟨gb665, 2, none⟩) (Kd.R_far (p := ⟨gb665, 1, none⟩) (Kd.R_far (p := ⟨gb665, 0, none⟩) (Kd.R_types HO_619004.out BK665.out (by decide)) (fun _ hk => hk.2) (.int .i64 t653)) (fun _ hk => hk.2) (.int .i64 t654)) (fun _ hk => hk.2) (.slice Ao135 t655.length co135)) (fun _ hk => hk.2) (.slice Ao136 t658.length co136)) (fun _ hk => hk.2) (.slice Ao137 t661.length co137)) (fun _ h_ => h_.1))) hb); replace HO657 := Aside0.mk (Kd.R_below (by (with_reducible repeat (first | apply Kd.R_alloc | apply Kd.R_drewN | apply Kd.R_drew)); exact (Kd.R_mono (Kd.R_far (p := ⟨gb665, 4, none⟩) (Kd.R_far (p := ⟨gb665, 3, none⟩) (Kd.R_far (p := ⟨gb665, 2, none⟩) (Kd.R_far (p := ⟨gb665, 1, none⟩) (Kd.R_far (p := ⟨gb665, 0, none⟩) (Kd.R_types HO657.out BK665.out (by decide)) (fun _ hk => hk.2) (.int .i64 t653)) (fun _ hk => hk.2) (.int .i64 t654)) (fun _ hk => hk.2) (.slice Ao135 t655.length co135)) (fun _ hk => hk.2) (.slice Ao136 t658.length co136)) (fun _ hk => hk.2) (.slice Ao137 t661.length co137)) (fun _ h_ => h_.1))) hb); replace HO660 := Aside0.mk (Kd.R_below (by (with_reducible repeat (first | apply Kd.R_alloc | apply Kd.R_drewN | apply Kd.R_drew)); exact (Kd.R_mono (Kd.R_far (p := ⟨gb665, 4, none⟩) (Kd.R_far (p := ⟨gb665, 3, none⟩) (Kd.R_far (p := ⟨gb665, 2, none⟩) (Kd.R_far (p := ⟨gb665, 1, none⟩) (Kd.R_far (p := ⟨gb665, 0, none⟩) (Kd.R_types HO660.out BK665.out (by decide)) (fun _ hk => hk.2) (.int .i64 t653)) (fun _ hk => hk.2) (.int .i64 t654)) (fun _ hk => hk.2) (.slice Ao135 t655.length co135)) (fun _ hk => hk.2) (.slice Ao136 t658.length co136)) (fun _ hk => hk.2) (.slice Ao137 t661.length co137)) (fun _ h_ => h_.1))) hb); replace HO663 := Aside0.mk (Kd.R_below (by (with_reducible repeat (first | apply Kd.R_alloc | apply Kd.R_drewN | apply Kd.R_drew)); exact (Kd.R_mono (Kd.R_far (p := ⟨gb665, 4, none⟩) (Kd.R_far (p := ⟨gb665, 3, none⟩) (Kd.R_far (p := ⟨gb665, 2, none⟩) (Kd.R_far (p := ⟨gb665, 1, none⟩) (Kd.R_far (p := ⟨gb665, 0, none⟩) (Kd.R_types HO663.out BK665.out (by decide)) (fun _ hk => hk.2) (.int .i64 t653)) (fun _ hk => hk.2) (.int .i64 t654)) (fun _ hk => hk.2) (.slice Ao135 t655.length co135)) (fun _ hk => hk.2) (.slice Ao136 t658.length co136)) (fun _ hk => hk.2) (.slice Ao137 t661.length co137)) (fun _ h_ => h_.1))) hb); replace BK568 := Aside0.mk (blk_below (g := gb568) (o := .cells #[.int .i64 a0_0, .int .i64 a0_1, .slice A0_2 l0_2.length c0_2, .slice A0_3 l0_3.length c0_3, .slice A0_4 l0_4.length c0_4] 27 (0, 0)) (by (with_reducible repeat (first | refine blk_drewN ?_ _ | refine blk_drew ?_ | refine blk_alloc ?_ _)); refine blk_far ?_ NB568_665.out _; (with_reducible repeat (first | refine blk_drewN ?_ _ | refine blk_drew ?_ | refine blk_alloc ?_ _)); refine blk_far ?_ NB568_665.out _; (with_reducible repeat (first | refine blk_drewN ?_ _ | refine blk_drew ?_ | refine blk_alloc ?_ _)); refine blk_far ?_ NB568_665.out _; (with_reducible repeat (first | refine blk_drewN ?_ _ | refine blk_drew ?_ | refine blk_alloc ?_ _)); refine blk_far ?_ NB568_665.out _; (with_reducible repeat (first | refine blk_drewN ?_ _ | refine blk_drew ?_ | refine blk_alloc ?_ _)); refine blk_far ?_ NB568_665.out _; (with_reducible repeat (first | refine blk_drewN ?_ _ | refine blk_drew ?_ | refine blk_alloc ?_ _)); exact BK568.out) hb); replace BK593 := Aside0.mk (blk_below (g := gb593) (o := .cells #[.int .i64 t581, .int .i64 t582, .slice Ao24 t583.length co24, .slice Ao25 t586.length co25, .slice Ao26 t589.length co26] 35 (0, 0)) (by (with_reducible repeat (first | refine blk_drewN ?_ _ | refine blk_drew ?_ | refine blk_alloc ?_ _)); refine blk_far ?_ NB593_665.out _; (with_reducible repeat (first | refine blk_drewN ?_ _ | refine blk_drew ?_ | refine blk_alloc ?_ _)); refine blk_far ?_ NB593_665.out _; (with_reducible repeat (first | refine blk_drewN ?_ _ | refine blk_drew ?_ | refine blk_alloc ?_ _)); refine blk_far ?_ NB593_665.out _; (with_reducible repeat (first | refine blk_drewN ?_ _ | refine blk_drew ?_ | refine blk_alloc ?_ _)); refine blk_far ?_ NB593_665.out _; (with_reducible repeat (first | refine blk_drewN ?_ _ | refine blk_drew ?_ | refine blk_alloc ?_ _)); refine blk_far ?_ NB593_665.out _; (with_reducible repeat (first | refine blk_drewN ?_ _ | refine blk_drew ?_ | refine blk_alloc ?_ _)); exact BK593.out) hb); replace BK605 := Aside0.mk (blk_below (g := gb605) (o := .cells #[.int .i64 t594, .int .i64 t595, .slice Ao33 t633.length co33, .slice Ao34 t634.length co34, .slice Ao35 t635.length co35] 35 (0, 0)) (by (with_reducible repeat (first | refine blk_drewN ?_ _ | refine blk_drew ?_ | refine blk_alloc ?_ _)); refine blk_far ?_ NB605_665.out _; (with_reducible repeat (first | refine blk_drewN ?_ _ | refine blk_drew ?_ | refine blk_alloc ?_ _)); refine blk_far ?_ NB605_665.out _; (with_reducible repeat (first | refine blk_drewN ?_ _ | refine blk_drew ?_ | refine blk_alloc ?_ _)); refine blk_far ?_ NB605_665.out _; (with_reducible repeat (first | refine blk_drewN ?_ _ | refine blk_drew ?_ | refine blk_alloc ?_ _)); refine blk_far ?_ NB605_665.out _; (with_reducible repeat (first | refine blk_drewN ?_ _ | refine blk_drew ?_ | refine blk_alloc ?_ _)); refine blk_far ?_ NB605_665.out _; (with_reducible repeat (first | refine blk_drewN ?_ _ | refine blk_drew ?_ | refine blk_alloc ?_ _)); exact BK605.out) hb); replace BK618 := Aside0.mk (blk_below (g := gb618) (o := .cells #[.int .i64 t606, .int .i64 t607, .slice Ao42 t608.length co42, .slice Ao43 t611.length co43, .slice Ao44 t614.length co44] 35 (0, 0)) (by (with_reducible repeat (first | refine blk_drewN ?_ _ | refine blk_drew ?_ | refine blk_alloc ?_ _)); refine blk_far ?_ NB618_665.out _; (with_reducible repeat (first | refine blk_drewN ?_ _ | refine blk_drew ?_ | refine blk_alloc ?_ _)); refine blk_far ?_ NB618_665.out _; (with_reducible repeat (first | refine blk_drewN ?_ _ | refine blk_drew ?_ | refine blk_alloc ?_ _)); refine blk_far ?_ NB618_665.out _; (with_reducible repeat (first | refine blk_drewN ?_ _ | refine blk_drew ?_ | refine blk_alloc ?_ _)); refine blk_far ?_ NB618_665.out _; (with_reducible repeat (first | refine blk_drewN ?_ _ | refine blk_drew ?_ | refine blk_alloc ?_ _)); refine blk_far ?_ NB618_665.out _; (with_reducible repeat (first | refine blk_drewN ?_ _ | refine blk_drew ?_ | refine blk_alloc ?_ _)); exact BK618.out) hb); replace BK665 := Aside0.mk (blk_below (g := gb665) (o := .cells #[.int .i64 t653, .int .i64 t654, .slice Ao135 t655.length co135, .slice Ao136 t658.length co136, .slice Ao137 t661.length co137] 35 (0, 0)) (by (with_reducible repeat (first | refine blk_drewN ?_ _ | refine blk_drew ?_ | refine blk_alloc ?_ _)); refine blk_put (cs := #[.int .i64 t653, .int .i64 t654, .slice Ao135 t655.length co135, .slice Ao136 t658.length co136, .slice none 0 0]) ?_ 4 _ rfl; (with_reducible repeat (first | refine blk_drewN ?_ _ | refine blk_drew ?_ | refine blk_alloc ?_ _)); refine blk_put (cs := #[.int .i64 t653, .int .i64 t654, .slice Ao135 t655.length co135, .slice none 0 0, .slice none 0 0]) ?_ 3 _ rfl; (with_reducible repeat (first | refine blk_drewN ?_ _ | refine blk_drew ?_ | refine blk_alloc ?_ _)); refine blk_put (cs := #[.int .i64 t653, .int .i64 t654, .slice none 0 0, .slice none 0 0, .slice none 0 0]) ?_ 2 _ rfl; (with_reducible repeat (first | refine blk_drewN ?_ _ | refine blk_drew ?_ | refine blk_alloc ?_ _)); refine blk_put (cs := #[.int .i64 t653, .int .i64 0, .slice none 0 0, .slice none 0 0, .slice none 0 0]) ?_ 1 _ rfl; (with_reducible repeat (first | refine blk_drewN ?_ _ | refine blk_drew ?_ | refine blk_alloc ?_ _)); refine blk_put (cs := #[.int .i64 0, .int .i64 0, .slice none 0 0, .slice none 0 0, .slice none 0 0]) ?_ 0 _ rfl; (with_reducible repeat (first | refine blk_drewN ?_ _ | refine blk_drew ?_ | refine blk_alloc ?_ _)); exact BK665.out) hb); replace HB := sb hb; (try clear hb hb2 hk hi)))
             go_meet
             case rel => exact ⟨_, ((t664 != t592)), sq, H', ⟨by have := HJ10.out; have := HJ67.out; first | omega | exact Nat.le_refl _⟩, ⟨by (try simp only [hl606002_67]); (try simp only [hl606003_67]); (try simp only [hl606004_67]); (with_reducible repeat (first | apply Kd.R_alloc | apply Kd.R_drewN | apply Kd.R_drew)); exact Kd.R_mono HO_594002.out (fun _ hk => ⟨hk.1.1.1, ⟨hk.1.1.2, hk.2⟩⟩)⟩, ⟨by (try simp only [hl606002_67]); (try simp only [hl606003_67]); (try simp only [hl606004_67]); (with_reducible repeat (first | apply Kd.R_alloc | apply Kd.R_drewN | apply Kd.R_drew)); exact Kd.R_mono HO_594003.out (fun _ hk => ⟨hk.1.1.1.1.1, ⟨hk.1.1.1.1.2.1, ⟨hk.1.1.1.1.2.2.1, ⟨hk.1.1.1.1.2.2.2.1, ⟨hk.1.1.1.1.2.2.2.2, ⟨hk.1.2, hk.2⟩⟩⟩⟩⟩⟩)⟩, ⟨by (try simp only [hl606002_67]); (try simp only [hl606003_67]); (try simp only [hl606004_67]); (with_reducible repeat (first | apply Kd.R_alloc | apply Kd.R_drewN | apply Kd.R_drew)); exact Kd.R_mono HO_594004.out (fun _ hk => ⟨hk.1.1.1.1.1, ⟨hk.1.1.1.1.2.1, ⟨hk.1.1.1.1.2.2.1, ⟨hk.1.1.1.1.2.2.2.1, ⟨hk.1.1.1.1.2.2.2.2, ⟨hk.1.2, hk.2⟩⟩⟩⟩⟩⟩)⟩, ⟨by (try simp only [hl606002_67]); (try simp only [hl606003_67]); (try simp only [hl606004_67]); (with_reducible repeat (first | apply Kd.R_alloc | apply Kd.R_drewN | apply Kd.R_drew)); exact Kd.R_mono HO_606002.out (fun _ hk => ⟨hk.1.1.1, ⟨hk.1.1.2, hk.2⟩⟩)⟩, ⟨by (try simp only [hl606002_67]); (try simp only [hl606003_67]); (try simp only [hl606004_67]); (with_reducible repeat (first | apply Kd.R_alloc | apply Kd.R_drewN | apply Kd.R_drew)); exact Kd.R_mono HO_606003.out (fun _ hk => ⟨hk.1.1.1.1.1, ⟨hk.1.1.1.1.2.1, ⟨hk.1.1.1.1.2.2.1, ⟨hk.1.1.1.1.2.2.2.1, ⟨hk.1.1.1.1.2.2.2.2, ⟨hk.1.2, hk.2⟩⟩⟩⟩⟩⟩)⟩, ⟨by (try simp only [hl606002_67]); (try simp only [hl606003_67]); (try simp only [hl606004_67]); (with_reducible repeat (first | apply Kd.R_alloc | apply Kd.R_drewN | apply Kd.R_drew)); exact Kd.R_mono HO_606004.out (fun _ hk => ⟨hk.1.1.1.1.1, ⟨hk.1.1.1.1.2.1, ⟨hk.1.1.1.1.2.2.1, ⟨hk.1.1.1.1.2.2.2.1, ⟨hk.1.1.1.1.2.2.2.2, ⟨hk.1.2, hk.2⟩⟩⟩⟩⟩⟩)⟩, ⟨by (try simp only [hl606002_67]); (try simp only [hl606003_67]); (try simp only [hl606004_67]); (with_reducible repeat (first | apply Kd.R_alloc | apply Kd.R_drewN | apply Kd.R_drew)); exact Kd.R_mono HO_619002.out (fun _ hk => ⟨hk.1.1.1, ⟨hk.1.1.2, hk.2⟩⟩)⟩, ⟨by (try simp only [hl606002_67]); (try simp only [hl606003_67]); (try simp only [hl606004_67]); (with_reducible repeat (first | apply Kd.R_alloc | apply Kd.R_drewN | apply Kd.R_drew)); exact Kd.R_mono HO_619003.out (fun _ hk => ⟨hk.1.1.1.1.1, ⟨hk.1.1.1.1.2.1, ⟨hk.1.1.1.1.2.2.1, ⟨hk.1.1.1.1.2.2.2.1, ⟨hk.1.1.1.1.2.2.2.2, ⟨hk.1.2, hk.2⟩⟩⟩⟩⟩⟩)⟩, ⟨by (try simp only [hl606002_67]); (try simp only [hl606003_67]); (try simp only [hl606004_67]); (with_reducible repeat (first | apply Kd.R_alloc | apply Kd.R_drewN | apply Kd.R_drew)); exact Kd.R_mono HO_619004.out (fun _ hk => ⟨hk.1.1.1.1.1, ⟨hk.1.1.1.1.2.1, ⟨hk.1.1.1.1.2.2.1, ⟨hk.1.1.1.1.2.2.2.1, ⟨hk.1.1.1.1.2.2.2.2, ⟨hk.1.2, hk.2⟩⟩⟩⟩⟩⟩)⟩, ⟨by (try simp only [hl606002_67]); (try simp only [hl606003_67]); (try simp only [hl606004_67]); (with_reducible repeat (first | apply Kd.R_alloc | apply Kd.R_drewN | apply Kd.R_drew)); exact Kd.R_mono HO657.out (fun _ hk => ⟨hk.1.1.1.2, ⟨hk.1.1.2, hk.1.2⟩⟩)⟩, ⟨by (try simp only [hl606002_67]); (try simp only [hl606003_67]); (try simp only [hl606004_67]); (with_reducible repeat (first | apply Kd.R_alloc | apply Kd.R_drewN | apply Kd.R_drew)); exact Kd.R_mono HO660.out (fun _ hk => ⟨hk.1.1.1.1.1.1.1.2, ⟨hk.1.1.1.1.1.1.2, ⟨hk.1.1.1.1.1.2, ⟨hk.1.1.1.1.2, ⟨hk.1.1.1.2, ⟨hk.1.1.2, hk.1.1.1.1.1.1.1.1⟩⟩⟩⟩⟩⟩)⟩, ⟨by (try simp only [hl606002_67]); (try simp only [hl606003_67]); (try simp only [hl606004_67]); (with_reducible repeat (first | apply Kd.R_alloc | apply Kd.R_drewN | apply Kd.R_drew)); exact Kd.R_mono HO663.out (fun _ hk => ⟨hk.1.1.1.1.1.1.1.2, ⟨hk.1.1.1.1.1.1.2, ⟨hk.1.1.1.1.1.2, ⟨hk.1.1.1.1.2, ⟨hk.1.1.1.2, ⟨hk.1.1.2, hk.1.1.1.1.1.1.1.1⟩⟩⟩⟩⟩⟩)⟩, ⟨by (try simp only [hl606002_67]); (try simp only [hl606003_67]); (try simp only [hl606004_67]); (with_reducible repeat (first | refine blk_drewN ?_ _ | refine blk_drew ?_ | refine blk_alloc ?_ _)); exact BK568.out⟩, ⟨by (try simp only [hl606002_67]); (try simp only [hl606003_67]); (try simp only [hl606004_67]); (with_reducible repeat (first | refine blk_drewN ?_ _ | refine blk_drew ?_ | refine blk_alloc ?_ _)); exact BK593.out⟩, ⟨by (try simp only [hl606002_67]); (try simp only [hl606003_67]); (try simp only [hl606004_67]); (with_reducible repeat (first | refine blk_drewN ?_ _ | refine blk_drew ?_ | refine blk_alloc ?_ _)); exact BK605.out⟩, ⟨by (try simp only [hl606002_67]); (try simp only [hl606003_67]); (try simp only [hl606004_67]); (with_reducible repeat (first | refine blk_drewN ?_ _ | refine blk_drew ?_ | refine blk_alloc ?_ _)); exact BK618.out⟩, ⟨by (try simp only [hl606002_67]); (try simp only [hl606003_67]); (try simp only [hl606004_67]); (with_reducible repeat (first | refine blk_drewN ?_ _ | refine blk_drew ?_ | refine blk_alloc ?_ _)); exact BK665.out⟩, ⟨bq⟩⟩
            ·replace c139 := Bool.eq_false_iff.mpr c139
             subst c139
             rw [if_neg (show ¬ (false = true) by decide)] at H
             try dsimp only at H
             have H' := Aside0.mk H
             clear H
             have hnb150 := NB665_568.out
             have hnc150 := NB568_665.out
             have hnb151 := NB665_593.out
             have hnc151 := NB593_665.out
             have hnb152 := NB665_605.out
             have hnc152 := NB605_665.out
             have hnb153 := NB665_618.out
             have hnc153 := NB618_665.out
             have ⟨hcz154_0, hcz154_1, hcz154_2, hcz154_3, hcz154_4, hfz154_0, hfz154_1, hfz154_2, hfz154_3, hfz154_4⟩ := bc5 BK665
             have hnb155 := NB593_568.out
             have hnc155 := NB568_593.out
             have hnb156 := NB593_605.out
             have hnc156 := NB605_593.out
             have hnb157 := NB593_618.out
             have hnc157 := NB618_593.out
             have ⟨hcz158_0, hcz158_1, hcz158_2, hcz158_3, hcz158_4, hfz158_0, hfz158_1, hfz158_2, hfz158_3, hfz158_4⟩ := bc5 BK593
             go_wp2_with (first | ((with_reducible refine gate_callee (f := 18) rfl ?_); refine goesQ (some 81) Try.func18 #[.agg #[.int .i64 t653, .int .i64 t654, .slice Ao135 t655.length co135, .slice Ao136 t658.length co136, .slice Ao137 t661.length co137], .agg #[.int .i64 t581, .int .i64 t582, .slice Ao24 t583.length co24, .slice Ao25 t586.length co25, .slice Ao26 t589.length co26]] ?_; (with_reducible refine (laws_eqSession.calls kj67 t653 t654 _ _ t655 _ _ t658 _ _ t661 t581 t582 _ _ t583 _ _ t586 _ _ t589 false _ ?s1 ?s2 ?s3 ?s4 ?s5 ?s6 ?s7 ?s8 ?s9 ?s10 ?s11 ?s12 A138.out).mono ?_); (case s1 => refine (Kd.R_reads' (e := 58) (base := w.heap.size) (ok := fun k_ => ((((True ∧ some k_ ≠ (.slice Ao24 t583.length co24 : Value).ownBlock) ∧ some k_ ≠ (.slice Ao33 t633.length co33 : Value).ownBlock) ∧ some k_ ≠ (.slice Ao42 t608.length co42 : Value).ownBlock) ∧ some k_ ≠ (.slice Ao125 t644.length co125 : Value).ownBlock)) (n := t655.length) (c := co135) ?_).2.2; exact (by (with_reducible repeat (first | apply Kd.R_alloc | apply Kd.R_drewN | apply Kd.R_drew)); exact (Kd.R_mono (Kd.R_far (p := ⟨gb665, 4, none⟩) (Kd.R_far (p := ⟨gb665, 3, none⟩) (Kd.R_far (p := ⟨gb665, 2, none⟩) (Kd.R_far (p := ⟨gb665, 1, none⟩) (Kd.R_far (p := ⟨gb665, 0, none⟩) (Kd.R_types HO657.out BK665.out (by decide)) (fun _ hk => hk.2) (.int .i64 t653)) (fun _ hk => hk.2) (.int .i64 t654)) (fun _ hk => hk.2) (.slice Ao135 t655.length co135)) (fun _ hk => hk.2) (.slice Ao136 t658.length co136)) (fun _ hk => hk.2) (.slice Ao137 t661.length co137)) (fun _ h_ => h_.1)))); (case s2 => exact r1 HO657); (case s3 => refine (Kd.R_reads' (e := 60) (base := w.heap.size) (ok := fun k_ => ((((((((some k_ ≠ (.slice Ao137 t661.length co137 : Value).ownBlock ∧ some k_ ≠ (.slice Ao25 t586.length co25 : Value).ownBlock) ∧ some k_ ≠ (.slice Ao26 t589.length co26 : Value).ownBlock) ∧ some k_ ≠ (.slice Ao34 t634.length co34 : Value).ownBlock) ∧ some k_ ≠ (.slice Ao35 t635.length co35 : Value).ownBlock) ∧ some k_ ≠ (.slice Ao43 t611.length co43 : Value).ownBlock) ∧ some k_ ≠ (.slice Ao44 t614.length co44 : Value).ownBlock) ∧ some k_ ≠ (.slice Ao126 t647.length co126 : Value).ownBlock) ∧ some k_ ≠ (.slice Ao127 t650.length co127 : Value).ownBlock)) (n := t658.length) (c := co136) ?_).2.2; exact (by (with_reducible repeat (first | apply Kd.R_alloc | apply Kd.R_drewN | apply Kd.R_drew)); exact (Kd.R_mono (Kd.R_far (p := ⟨gb665, 4, none⟩) (Kd.R_far (p := ⟨gb665, 3, none⟩) (Kd.R_far (p := ⟨gb665, 2, none⟩) (Kd.R_far (p := ⟨gb665, 1, none⟩) (Kd.R_far (p := ⟨gb665, 0, none⟩) (Kd.R_types HO660.out BK665.out (by decide)) (fun _ hk => hk.2) (.int .i64 t653)) (fun _ hk => hk.2) (.int .i64 t654)) (fun _ hk => hk.2) (.slice Ao135 t655.length co135)) (fun _ hk => hk.2) (.slice Ao136 t658.length co136)) (fun _ hk => hk.2) (.slice Ao137 t661.length co137)) (fun _ h_ => h_.1)))); (case s4 => exact r1 HO660); (case s5 => refine (Kd.R_reads' (e := 60) (base := w.heap.size) (ok := fun k_ => ((((((((some k_ ≠ (.slice Ao136 t658.length co136 : Value).ownBlock ∧ some k_ ≠ (.slice Ao25 t586.length co25 : Value).ownBlock) ∧ some k_ ≠ (.slice Ao26 t589.length co26 : Value).ownBlock) ∧ some k_ ≠ (.slice Ao34 t634.length co34 : Value).ownBlock) ∧ some k_ ≠ (.slice Ao35 t635.length co35 : Value).ownBlock) ∧ some k_ ≠ (.slice Ao43 t611.length co43 : Value).ownBlock) ∧ some k_ ≠ (.slice Ao44 t614.length co44 : Value).ownBlock) ∧ some k_ ≠ (.slice Ao126 t647.length co126 : Value).ownBlock) ∧ some k_ ≠ (.slice Ao127 t650.length co127 : Value).ownBlock)) (n := t661.length) (c := co137) ?_).2.2; exact (by (with_reducible repeat (first | apply Kd.R_alloc | apply Kd.R_drewN | apply Kd.R_drew)); exact (Kd.R_mono (Kd.R_far (p := ⟨gb665, 4, none⟩) (Kd.R_far (p := ⟨gb665, 3, none⟩) (Kd.R_far (p := ⟨gb665, 2, none⟩) (Kd.R_far (p := ⟨gb665, 1, none⟩) (Kd.R_far (p := ⟨gb665, 0, none⟩) (Kd.R_types HO663.out BK665.out (by decide)) (fun _ hk => hk.2) (.int .i64 t653)) (fun _ hk => hk.2) (.int .i64 t654)) (fun _ hk => hk.2) (.slice Ao135 t655.length co135)) (fun _ hk => hk.2) (.slice Ao136 t658.length co136)) (fun _ hk => hk.2) (.slice Ao137 t661.length co137)) (fun _ h_ => h_.1)))); (case s6 => exact r1 HO663); (case s7 => refine (Kd.R_reads' (e := 58) (base := w.heap.size) (ok := fun k_ => (((some k_ ≠ (.slice Ao33 t633.length co33 : Value).ownBlock ∧ some k_ ≠ (.slice Ao42 t608.length co42 : Value).ownBlock) ∧ some k_ ≠ (.slice Ao125 t644.length co125 : Value).ownBlock) ∧ some k_ ≠ (.slice Ao135 t655.length co135 : Value).ownBlock)) (n := t583.length) (c := co24) ?_).2.2; exact (by (with_reducible repeat (first | apply Kd.R_alloc | apply Kd.R_drewN | apply Kd.R_drew)); exact (Kd.R_mono (Kd.R_far (p := ⟨gb665, 4, none⟩) (Kd.R_far (p := ⟨gb665, 3, none⟩) (Kd.R_far (p := ⟨gb665, 2, none⟩) (Kd.R_far (p := ⟨gb665, 1, none⟩) (Kd.R_far (p := ⟨gb665, 0, none⟩) (Kd.R_types HO_594002.out BK665.out (by decide)) (fun _ hk => hk.2) (.int .i64 t653)) (fun _ hk => hk.2) (.int .i64 t654)) (fun _ hk => hk.2) (.slice Ao135 t655.length co135)) (fun _ hk => hk.2) (.slice Ao136 t658.length co136)) (fun _ hk => hk.2) (.slice Ao137 t661.length co137)) (fun _ h_ => h_.1)))); (case s8 => exact r1 HO_594002); (case s9 => refine (Kd.R_reads' (e := 60) (base := w.heap.size) (ok := fun k_ => (((((some k_ ≠ (.slice Ao26 t589.length co26 : Value).ownBlock ∧ (some k_ ≠ (.slice Ao34 t634.length co34 : Value).ownBlock ∧ (some k_ ≠ (.slice Ao35 t635.length co35 : Value).ownBlock ∧ (some k_ ≠ (.slice Ao43 t611.length co43 : Value).ownBlock ∧ some k_ ≠ (.slice Ao44 t614.length co44 : Value).ownBlock)))) ∧ some k_ ≠ (.slice Ao126 t647.length co126 : Value).ownBlock) ∧ some k_ ≠ (.slice Ao127 t650.length co127 : Value).ownBlock) ∧ some k_ ≠ (.slice Ao136 t658.length co136 : Value).ownBlock) ∧ some k_ ≠ (.slice Ao137 t661.length co137 : Value).ownBlock)) (n := t586.length) (c := co25) ?_).2.2; exact (by (with_reducible repeat (first | apply Kd.R_alloc | apply Kd.R_drewN | apply Kd.R_drew)); exact (Kd.R_mono (Kd.R_far (p := ⟨gb665, 4, none⟩) (Kd.R_far (p := ⟨gb665, 3, none⟩) (Kd.R_far (p := ⟨gb665, 2, none⟩) (Kd.R_far (p := ⟨gb665, 1, none⟩) (Kd.R_far (p := ⟨gb665, 0, none⟩) (Kd.R_types HO_594003.out BK665.out (by decide)) (fun _ hk => hk.2) (.int .i64 t653)) (fun _ hk => hk.2) (.int .i64 t654)) (fun _ hk => hk.2) (.slice Ao135 t655.length co135)) (fun _ hk => hk.2) (.slice Ao136 t658.length co136)) (fun _ hk => hk.2) (.slice Ao137 t661.length co137)) (fun _ h_ => h_.1)))); (case s10 => exact r1 HO_594003); (case s11 => refine (Kd.R_reads' (e := 60) (base := w.heap.size) (ok := fun k_ => (((((some k_ ≠ (.slice Ao25 t586.length co25 : Value).ownBlock ∧ (some k_ ≠ (.slice Ao34 t634.length co34 : Value).ownBlock ∧ (some k_ ≠ (.slice Ao35 t635.length co35 : Value).ownBlock ∧ (some k_ ≠ (.slice Ao43 t611.length co43 : Value).ownBlock ∧ some k_ ≠ (.slice Ao44 t614.length co44 : Value).ownBlock)))) ∧ some k_ ≠ (.slice Ao126 t647.length co126 : Value).ownBlock) ∧ some k_ ≠ (.slice Ao127 t650.length co127 : Value).ownBlock) ∧ some k_ ≠ (.slice Ao136 t658.length co136 : Value).ownBlock) ∧ some k_ ≠ (.slice Ao137 t661.length co137 : Value).ownBlock)) (n := t589.length) (c := co26) ?_).2.2; exact (by (with_reducible repeat (first | apply Kd.R_alloc | apply Kd.R_drewN | apply Kd.R_drew)); exact (Kd.R_mono (Kd.R_far (p := ⟨gb665, 4, none⟩) (Kd.R_far (p := ⟨gb665, 3, none⟩) (Kd.R_far (p := ⟨gb665, 2, none⟩) (Kd.R_far (p := ⟨gb665, 1, none⟩) (Kd.R_far (p := ⟨gb665, 0, none⟩) (Kd.R_types HO_594004.out BK665.out (by decide)) (fun _ hk => hk.2) (.int .i64 t653)) (fun _ hk => hk.2) (.int .i64 t654)) (fun _ hk => hk.2) (.slice Ao135 t655.length co135)) (fun _ hk => hk.2) (.slice Ao136 t658.length co136)) (fun _ hk => hk.2) (.slice Ao137 t661.length co137)) (fun _ h_ => h_.1)))); (case s12 => exact r1 HO_594004); rintro e w159 ⟨rfl, hb⟩; refine ⟨_, rfl, ?_⟩; replace HO_594002 := Aside0.mk (Kd.R_below (by (with_reducible repeat (first | apply Kd.R_alloc | apply Kd.R_drewN | apply Kd.R_drew)); exact (Kd.R_mono (Kd.R_far (p := ⟨gb665, 4, none⟩) (Kd.R_far (p := ⟨gb665, 3, none⟩) (Kd.R_far (p := ⟨gb665, 2, none⟩) (Kd.R_far (p := ⟨gb665, 1, none⟩) (Kd.R_far (p := ⟨gb665, 0, none⟩) (Kd.R_types HO_594002.out BK665.out (by decide)) (fun _ hk => hk.2) (.int .i64 t653)) (fun _ hk => hk.2) (.int .i64 t654)) (fun _ hk => hk.2) (.slice Ao135 t655.length co135)) (fun _ hk => hk.2) (.slice Ao136 t658.length co136)) (fun _ hk => hk.2) (.slice Ao137 t661.length co137)) (fun _ h_ => h_.1))) hb); replace HO_594003 := Aside0.mk (Kd.R_below (by (with_reducible repeat (first | apply Kd.R_alloc | apply Kd.R_drewN | apply Kd.R_drew)); exact (Kd.R_mono (Kd.R_far (p := ⟨gb665, 4, none⟩) (Kd.R_far (p := ⟨gb665, 3, none⟩) (Kd.R_far (p := ⟨gb665, 2, none⟩) (Kd.R_far (p := ⟨gb665, 1, none⟩) (Kd.R_far (p := ⟨gb665, 0, none⟩) (Kd.R_types HO_594003.out BK665.out (by decide)) (fun _ hk => hk.2) (.int .i64 t653)) (fun _ hk => hk.2) (.int .i64 t654)) (fun _ hk => hk.2) (.slice Ao135 t655.length co135)) (fun _ hk => hk.2) (.slice Ao136 t658.length co136)) (fun _ hk => hk.2) (.slice Ao137 t661.length co137)) (fun _ h_ => h_.1))) hb); replace HO_594004 := Aside0.mk (Kd.R_below (by (with_reducible repeat (first | apply Kd.R_alloc | apply Kd.R_drewN | apply Kd.R_drew)); exact (Kd.R_mono (Kd.R_far (p := ⟨gb665, 4, none⟩) (Kd.R_far (p := ⟨gb665, 3, none⟩) (Kd.R_far (p := ⟨gb665, 2, none⟩) (Kd.R_far (p := ⟨gb665, 1, none⟩) (Kd.R_far (p := ⟨gb665, 0, none⟩) (Kd.R_types HO_594004.out BK665.out (by decide)) (fun _ hk => hk.2) (.int .i64 t653)) (fun _ hk => hk.2) (.int .i64 t654)) (fun _ hk => hk.2) (.slice Ao135 t655.length co135)) (fun _ hk => hk.2) (.slice Ao136 t658.length co136)) (fun _ hk => hk.2) (.slice Ao137 t661.length co137)) (fun _ h_ => h_.1))) hb); replace HO_606002 := Aside0.mk (Kd.R_below (by (with_reducible repeat (first | apply Kd.R_alloc | apply Kd.R_drewN | apply Kd.R_drew)); exact (Kd.R_mono (Kd.R_far (p := ⟨gb665, 4, none⟩) (Kd.R_far (p := ⟨gb665, 3, none⟩) (Kd.R_far (p := ⟨gb665, 2, none⟩) (Kd.R_far (p := ⟨gb665, 1, none⟩) (Kd.R_far (p := ⟨gb665, 0, none⟩) (Kd.R_types HO_606002.out BK665.out (by decide)) (fun _ hk => hk.2) (.int .i64 t653)) (fun _ hk => hk.2) (.int .i64 t654)) (fun _ hk => hk.2) (.slice Ao135 t655.length co135)) (fun _ hk => hk.2) (.slice Ao136 t658.length co136)) (fun _ hk => hk.2) (.slice Ao137 t661.length co137)) (fun _ h_ => h_.1))) hb); replace HO_606003 := Aside0.mk (Kd.R_below (by (with_reducible repeat (first | apply Kd.R_alloc | apply Kd.R_drewN | apply Kd.R_drew)); exact (Kd.R_mono (Kd.R_far (p := ⟨gb665, 4, none⟩) (Kd.R_far (p := ⟨gb665, 3, none⟩) (Kd.R_far (p := ⟨gb665, 2, none⟩) (Kd.R_far (p := ⟨gb665, 1, none⟩) (Kd.R_far (p := ⟨gb665, 0, none⟩) (Kd.R_types HO_606003.out BK665.out (by decide)) (fun _ hk => hk.2) (.int .i64 t653)) (fun _ hk => hk.2) (.int .i64 t654)) (fun _ hk => hk.2) (.slice Ao135 t655.length co135)) (fun _ hk => hk.2) (.slice Ao136 t658.length co136)) (fun _ hk => hk.2) (.slice Ao137 t661.length co137)) (fun _ h_ => h_.1))) hb); replace HO_606004 := Aside0.mk (Kd.R_below (by (with_reducible repeat (first | apply Kd.R_alloc | apply Kd.R_drewN | apply Kd.R_drew)); exact (Kd.R_mono (Kd.R_far (p := ⟨gb665, 4, none⟩) (Kd.R_far (p := ⟨gb665, 3, none⟩) (Kd.R_far (p := ⟨gb665, 2, none⟩) (Kd.R_far (p := ⟨gb665, 1, none⟩) (Kd.R_far (p := ⟨gb665, 0, none⟩) (Kd.R_types HO_606004.out BK665.out (by decide)) (fun _ hk => hk.2) (.int .i64 t653)) (fun _ hk => hk.2) (.int .i64 t654)) (fun _ hk => hk.2) (.slice Ao135 t655.length co135)) (fun _ hk => hk.2) (.slice Ao136 t658.length co136)) (fun _ hk => hk.2) (.slice Ao137 t661.length co137)) (fun _ h_ => h_.1))) hb); replace HO_619002 := Aside0.mk (Kd.R_below (by (with_reducible repeat (first | apply Kd.R_alloc | apply Kd.R_drewN | apply Kd.R_drew)); exact (Kd.R_mono (Kd.R_far (p := ⟨gb665, 4, none⟩) (Kd.R_far (p := ⟨gb665, 3, none⟩) (Kd.R_far (p := ⟨gb665, 2, none⟩) (Kd.R_far (p := ⟨gb665, 1, none⟩) (Kd.R_far (p := ⟨gb665, 0, none⟩) (Kd.R_types HO_619002.out BK665.out (by decide)) (fun _ hk => hk.2) (.int .i64 t653)) (fun _ hk => hk.2) (.int .i64 t654)) (fun _ hk => hk.2) (.slice Ao135 t655.length co135)) (fun _ hk => hk.2) (.slice Ao136 t658.length co136)) (fun _ hk => hk.2) (.slice Ao137 t661.length co137)) (fun _ h_ => h_.1))) hb); replace HO_619003 := Aside0.mk (Kd.R_below (by (with_reducible repeat (first | apply Kd.R_alloc | apply Kd.R_drewN | apply Kd.R_drew)); exact (Kd.R_mono (Kd.R_far (p := ⟨gb665, 4, none⟩) (Kd.R_far (p := ⟨gb665, 3, none⟩) (Kd.R_far (p := ⟨gb665, 2, none⟩) (Kd.R_far (p := ⟨gb665, 1, none⟩) (Kd.R_far (p := ⟨gb665, 0, none⟩) (Kd.R_types HO_619003.out BK665.out (by decide)) (fun _ hk => hk.2) (.int .i64 t653)) (fun _ hk => hk.2) (.int .i64 t654)) (fun _ hk => hk.2) (.slice Ao135 t655.length co135)) (fun _ hk => hk.2) (.slice Ao136 t658.length co136)) (fun _ hk => hk.2) (.slice Ao137 t661.length co137)) (fun _ h_ => h_.1))) hb); replace HO_619004 := Aside0.mk (Kd.R_below (by (with_reducible repeat (first | apply Kd.R_alloc | apply Kd.R_drewN | apply Kd.R_drew)); exact (Kd.R_mono (Kd.R_far (p := ⟨gb665, 4, none⟩) (Kd.R_far (p := ⟨gb665, 3, none⟩) (Kd.R_far (p := ⟨gb665, 2, none⟩) (Kd.R_far (p := ⟨gb665, 1, none⟩) (Kd.R_far (p := ⟨gb665, 0, none⟩) (Kd.R_types HO_619004.out BK665.out (by decide)) (fun _ hk => hk.2) (.int .i64 t653)) (fun _ hk => hk.2) (.int .i64 t654)) (fun _ hk => hk.2) (.slice Ao135 t655.length co135)) (fun _ hk => hk.2) (.slice Ao136 t658.length co136)) (fun _ hk => hk.2) (.slice Ao137 t661.length co137)) (fun _ h_ => h_.1))) hb); replace HO657 := Aside0.mk (Kd.R_below (by (with_reducible repeat (first | apply Kd.R_alloc | apply Kd.R_drewN | apply Kd.R_drew)); exact (Kd.R_mono (Kd.R_far (p := ⟨gb665, 4, none⟩) (Kd.R_far (p := ⟨gb665, 3, none⟩) (Kd.R_far (p := ⟨gb665, 2, none⟩) (Kd.R_far (p := ⟨gb665, 1, none⟩) (Kd.R_far (p := ⟨gb665, 0, none⟩) (Kd.R_types HO657.out BK665.out (by decide)) (fun _ hk => hk.2) (.int .i64 t653)) (fun _ hk => hk.2) (.int .i64 t654)) (fun _ hk => hk.2) (.slice Ao135 t655.length co135)) (fun _ hk => hk.2) (.slice Ao136 t658.length co136)) (fun _ hk => hk.2) (.slice Ao137 t661.length co137)) (fun _ h_ => h_.1))) hb); replace HO660 := Aside0.mk (Kd.R_below (by (with_reducible repeat (first | apply Kd.R_alloc | apply Kd.R_drewN | apply Kd.R_drew)); exact (Kd.R_mono (Kd.R_far (p := ⟨gb665, 4, none⟩) (Kd.R_far (p := ⟨gb665, 3, none⟩) (Kd.R_far (p := ⟨gb665, 2, none⟩) (Kd.R_far (p := ⟨gb665, 1, none⟩) (Kd.R_far (p := ⟨gb665, 0, none⟩) (Kd.R_types HO660.out BK665.out (by decide)) (fun _ hk => hk.2) (.int .i64 t653)) (fun _ hk => hk.2) (.int .i64 t654)) (fun _ hk => hk.2) (.slice Ao135 t655.length co135)) (fun _ hk => hk.2) (.slice Ao136 t658.length co136)) (fun _ hk => hk.2) (.slice Ao137 t661.length co137)) (fun _ h_ => h_.1))) hb); replace HO663 := Aside0.mk (Kd.R_below (by (with_reducible repeat (first | apply Kd.R_alloc | apply Kd.R_drewN | apply Kd.R_drew)); exact (Kd.R_mono (Kd.R_far (p := ⟨gb665, 4, none⟩) (Kd.R_far (p := ⟨gb665, 3, none⟩) (Kd.R_far (p := ⟨gb665, 2, none⟩) (Kd.R_far (p := ⟨gb665, 1, none⟩) (Kd.R_far (p := ⟨gb665, 0, none⟩) (Kd.R_types HO663.out BK665.out (by decide)) (fun _ hk => hk.2) (.int .i64 t653)) (fun _ hk => hk.2) (.int .i64 t654)) (fun _ hk => hk.2) (.slice Ao135 t655.length co135)) (fun _ hk => hk.2) (.slice Ao136 t658.length co136)) (fun _ hk => hk.2) (.slice Ao137 t661.length co137)) (fun _ h_ => h_.1))) hb); replace BK568 := Aside0.mk (blk_below (g := gb568) (o := .cells #[.int .i64 a0_0, .int .i64 a0_1, .slice A0_2 l0_2.length c0_2, .slice A0_3 l0_3.length c0_3, .slice A0_4 l0_4.length c0_4] 27 (0, 0)) (by (with_reducible repeat (first | refine blk_drewN ?_ _ | refine blk_drew ?_ | refine blk_alloc ?_ _)); refine blk_far ?_ NB568_665.out _; (with_reducible repeat (first | refine blk_drewN ?_ _ | refine blk_drew ?_ | refine blk_alloc ?_ _)); refine blk_far ?_ NB568_665.out _; (with_reducible repeat (first | refine blk_drewN ?_ _ | refine blk_drew ?_ | refine blk_alloc ?_ _)); refine blk_far ?_ NB568_665.out _; (with_reducible repeat (first | refine blk_drewN ?_ _ | refine blk_drew ?_ | refine blk_alloc ?_ _)); refine blk_far ?_ NB568_665.out _; (with_reducible repeat (first | refine blk_drewN ?_ _ | refine blk_drew ?_ | refine blk_alloc ?_ _)); refine blk_far ?_ NB568_665.out _; (with_reducible repeat (first | refine blk_drewN ?_ _ | refine blk_drew ?_ | refine blk_alloc ?_ _)); exact BK568.out) hb); replace BK593 := Aside0.mk (blk_below (g := gb593) (o := .cells #[.int .i64 t581, .int .i64 t582, .slice Ao24 t583.length co24, .slice Ao25 t586.length co25, .slice Ao26 t589.length co26] 35 (0, 0)) (by (with_reducible repeat (first | refine blk_drewN ?_ _ | refine blk_drew ?_ | refine blk_alloc ?_ _)); refine blk_far ?_ NB593_665.out _; (with_reducible repeat (first | refine blk_drewN ?_ _ | refine blk_drew ?_ | refine blk_alloc ?_ _)); refine blk_far ?_ NB593_665.out _; (with_reducible repeat (first | refine blk_drewN ?_ _ | refine blk_drew ?_ | refine blk_alloc ?_ _)); refine blk_far ?_ NB593_665.out _; (with_reducible repeat (first | refine blk_drewN ?_ _ | refine blk_drew ?_ | refine blk_alloc ?_ _)); refine blk_far ?_ NB593_665.out _; (with_reducible repeat (first | refine blk_drewN ?_ _ | refine blk_drew ?_ | refine blk_alloc ?_ _)); refine blk_far ?_ NB593_665.out _; (with_reducible repeat (first | refine blk_drewN ?_ _ | refine blk_drew ?_ | refine blk_alloc ?_ _)); exact BK593.out) hb); replace BK605 := Aside0.mk (blk_below (g := gb605) (o := .cells #[.int .i64 t594, .int .i64 t595, .slice Ao33 t633.length co33, .slice Ao34 t634.length co34, .slice Ao35 t635.length co35] 35 (0, 0)) (by (with_reducible repeat (first | refine blk_drewN ?_ _ | refine blk_drew ?_ | refine blk_alloc ?_ _)); refine blk_far ?_ NB605_665.out _; (with_reducible repeat (first | refine blk_drewN ?_ _ | refine blk_drew ?_ | refine blk_alloc ?_ _)); refine blk_far ?_ NB605_665.out _; (with_reducible repeat (first | refine blk_drewN ?_ _ | refine blk_drew ?_ | refine blk_alloc ?_ _)); refine blk_far ?_ NB605_665.out _; (with_reducible repeat (first | refine blk_drewN ?_ _ | refine blk_drew ?_ | refine blk_alloc ?_ _)); refine blk_far ?_ NB605_665.out _; (with_reducible repeat (first | refine blk_drewN ?_ _ | refine blk_drew ?_ | refine blk_alloc ?_ _)); refine blk_far ?_ NB605_665.out _; (with_reducible repeat (first | refine blk_drewN ?_ _ | refine blk_drew ?_ | refine blk_alloc ?_ _)); exact BK605.out) hb); replace BK618 := Aside0.mk (blk_below (g := gb618) (o := .cells #[.int .i64 t606, .int .i64 t607, .slice Ao42 t608.length co42, .slice Ao43 t611.length co43, .slice Ao44 t614.length co44] 35 (0, 0)) (by (with_reducible repeat (first | refine blk_drewN ?_ _ | refine blk_drew ?_ | refine blk_alloc ?_ _)); refine blk_far ?_ NB618_665.out _; (with_reducible repeat (first | refine blk_drewN ?_ _ | refine blk_drew ?_ | refine blk_alloc ?_ _)); refine blk_far ?_ NB618_665.out _; (with_reducible repeat (first | refine blk_drewN ?_ _ | refine blk_drew ?_ | refine blk_alloc ?_ _)); refine blk_far ?_ NB618_665.out _; (with_reducible repeat (first | refine blk_drewN ?_ _ | refine blk_drew ?_ | refine blk_alloc ?_ _)); refine blk_far ?_ NB618_665.out _; (with_reducible repeat (first | refine blk_drewN ?_ _ | refine blk_drew ?_ | refine blk_alloc ?_ _)); refine blk_far ?_ NB618_665.out _; (with_reducible repeat (first | refine blk_drewN ?_ _ | refine blk_drew ?_ | refine blk_alloc ?_ _)); exact BK618.out) hb); replace BK665 := Aside0.mk (blk_below (g := gb665) (o := .cells #[.int .i64 t653, .int .i64 t654, .slice Ao135 t655.length co135, .slice Ao136 t658.length co136, .slice Ao137 t661.length co137] 35 (0, 0)) (by (with_reducible repeat (first | refine blk_drewN ?_ _ | refine blk_drew ?_ | refine blk_alloc ?_ _)); refine blk_put (cs := #[.int .i64 t653, .int .i64 t654, .slice Ao135 t655.length co135, .slice Ao136 t658.length co136, .slice none 0 0]) ?_ 4 _ rfl; (with_reducible repeat (first | refine blk_drewN ?_ _ | refine blk_drew ?_ | refine blk_alloc ?_ _)); refine blk_put (cs := #[.int .i64 t653, .int .i64 t654, .slice Ao135 t655.length co135, .slice none 0 0, .slice none 0 0]) ?_ 3 _ rfl; (with_reducible repeat (first | refine blk_drewN ?_ _ | refine blk_drew ?_ | refine blk_alloc ?_ _)); refine blk_put (cs := #[.int .i64 t653, .int .i64 t654, .slice none 0 0, .slice none 0 0, .slice none 0 0]) ?_ 2 _ rfl; (with_reducible repeat (first | refine blk_drewN ?_ _ | refine blk_drew ?_ | refine blk_alloc ?_ _)); refine blk_put (cs := #[.int .i64 t653, .int .i64 0, .slice none 0 0, .slice none 0 0, .slice none 0 0]) ?_ 1 _ rfl; (with_reducible repeat (first | refine blk_drewN ?_ _ | refine blk_drew ?_ | refine blk_alloc ?_ _)); refine blk_put (cs := #[.int .i64 0, .int .i64 0, .slice none 0 0, .slice none 0 0, .slice none 0 0]) ?_ 0 _ rfl; (with_reducible repeat (first | refine blk_drewN ?_ _ | refine blk_drew ?_ | refine blk_alloc ?_ _)); exact BK665.out) hb); replace HB := sb hb; (try clear hb hb2 hk hi)))
             go_meet
             case rel => exact ⟨_, (true), sq, H', ⟨by have := HJ10.out; have := HJ67.out; first | omega | exact Nat.le_refl _⟩, ⟨by (try simp only [hl606002_67]); (try simp only [hl606003_67]); (try simp only [hl606004_67]); (with_reducible repeat (first | apply Kd.R_alloc | apply Kd.R_drewN | apply Kd.R_drew)); exact Kd.R_mono HO_594002.out (fun _ hk => ⟨hk.1.1.1, ⟨hk.1.1.2, hk.2⟩⟩)⟩, ⟨by (try simp only [hl606002_67]); (try simp only [hl606003_67]); (try simp only [hl606004_67]); (with_reducible repeat (first | apply Kd.R_alloc | apply Kd.R_drewN | apply Kd.R_drew)); exact Kd.R_mono HO_594003.out (fun _ hk => ⟨hk.1.1.1.1.1, ⟨hk.1.1.1.1.2.1, ⟨hk.1.1.1.1.2.2.1, ⟨hk.1.1.1.1.2.2.2.1, ⟨hk.1.1.1.1.2.2.2.2, ⟨hk.1.2, hk.2⟩⟩⟩⟩⟩⟩)⟩, ⟨by (try simp only [hl606002_67]); (try simp only [hl606003_67]); (try simp only [hl606004_67]); (with_reducible repeat (first | apply Kd.R_alloc | apply Kd.R_drewN | apply Kd.R_drew)); exact Kd.R_mono HO_594004.out (fun _ hk => ⟨hk.1.1.1.1.1, ⟨hk.1.1.1.1.2.1, ⟨hk.1.1.1.1.2.2.1, ⟨hk.1.1.1.1.2.2.2.1, ⟨hk.1.1.1.1.2.2.2.2, ⟨hk.1.2, hk.2⟩⟩⟩⟩⟩⟩)⟩, ⟨by (try simp only [hl606002_67]); (try simp only [hl606003_67]); (try simp only [hl606004_67]); (with_reducible repeat (first | apply Kd.R_alloc | apply Kd.R_drewN | apply Kd.R_drew)); exact Kd.R_mono HO_606002.out (fun _ hk => ⟨hk.1.1.1, ⟨hk.1.1.2, hk.2⟩⟩)⟩, ⟨by (try simp only [hl606002_67]); (try simp only [hl606003_67]); (try simp only [hl606004_67]); (with_reducible repeat (first | apply Kd.R_alloc | apply Kd.R_drewN | apply Kd.R_drew)); exact Kd.R_mono HO_606003.out (fun _ hk => ⟨hk.1.1.1.1.1, ⟨hk.1.1.1.1.2.1, ⟨hk.1.1.1.1.2.2.1, ⟨hk.1.1.1.1.2.2.2.1, ⟨hk.1.1.1.1.2.2.2.2, ⟨hk.1.2, hk.2⟩⟩⟩⟩⟩⟩)⟩, ⟨by (try simp only [hl606002_67]); (try simp only [hl606003_67]); (try simp only [hl606004_67]); (with_reducible repeat (first | apply Kd.R_alloc | apply Kd.R_drewN | apply Kd.R_drew)); exact Kd.R_mono HO_606004.out (fun _ hk => ⟨hk.1.1.1.1.1, ⟨hk.1.1.1.1.2.1, ⟨hk.1.1.1.1.2.2.1, ⟨hk.1.1.1.1.2.2.2.1, ⟨hk.1.1.1.1.2.2.2.2, ⟨hk.1.2, hk.2⟩⟩⟩⟩⟩⟩)⟩, ⟨by (try simp only [hl606002_67]); (try simp only [hl606003_67]); (try simp only [hl606004_67]); (with_reducible repeat (first | apply Kd.R_alloc | apply Kd.R_drewN | apply Kd.R_drew)); exact Kd.R_mono HO_619002.out (fun _ hk => ⟨hk.1.1.1, ⟨hk.1.1.2, hk.2⟩⟩)⟩, ⟨by (try simp only [hl606002_67]); (try simp only [hl606003_67]); (try simp only [hl606004_67]); (with_reducible repeat (first | apply Kd.R_alloc | apply Kd.R_drewN | apply Kd.R_drew)); exact Kd.R_mono HO_619003.out (fun _ hk => ⟨hk.1.1.1.1.1, ⟨hk.1.1.1.1.2.1, ⟨hk.1.1.1.1.2.2.1, ⟨hk.1.1.1.1.2.2.2.1, ⟨hk.1.1.1.1.2.2.2.2, ⟨hk.1.2, hk.2⟩⟩⟩⟩⟩⟩)⟩, ⟨by (try simp only [hl606002_67]); (try simp only [hl606003_67]); (try simp only [hl606004_67]); (with_reducible repeat (first | apply Kd.R_alloc | apply Kd.R_drewN | apply Kd.R_drew)); exact Kd.R_mono HO_619004.out (fun _ hk => ⟨hk.1.1.1.1.1, ⟨hk.1.1.1.1.2.1, ⟨hk.1.1.1.1.2.2.1, ⟨hk.1.1.1.1.2.2.2.1, ⟨hk.1.1.1.1.2.2.2.2, ⟨hk.1.2, hk.2⟩⟩⟩⟩⟩⟩)⟩, ⟨by (try simp only [hl606002_67]); (try simp only [hl606003_67]); (try simp only [hl606004_67]); (with_reducible repeat (first | apply Kd.R_alloc | apply Kd.R_drewN | apply Kd.R_drew)); exact Kd.R_mono HO657.out (fun _ hk => ⟨hk.1.1.1.2, ⟨hk.1.1.2, hk.1.2⟩⟩)⟩, ⟨by (try simp only [hl606002_67]); (try simp only [hl606003_67]); (try simp only [hl606004_67]); (with_reducible repeat (first | apply Kd.R_alloc | apply Kd.R_drewN | apply Kd.R_drew)); exact Kd.R_mono HO660.out (fun _ hk => ⟨hk.1.1.1.1.1.1.1.2, ⟨hk.1.1.1.1.1.1.2, ⟨hk.1.1.1.1.1.2, ⟨hk.1.1.1.1.2, ⟨hk.1.1.1.2, ⟨hk.1.1.2, hk.1.1.1.1.1.1.1.1⟩⟩⟩⟩⟩⟩)⟩, ⟨by (try simp only [hl606002_67]); (try simp only [hl606003_67]); (try simp only [hl606004_67]); (with_reducible repeat (first | apply Kd.R_alloc | apply Kd.R_drewN | apply Kd.R_drew)); exact Kd.R_mono HO663.out (fun _ hk => ⟨hk.1.1.1.1.1.1.1.2, ⟨hk.1.1.1.1.1.1.2, ⟨hk.1.1.1.1.1.2, ⟨hk.1.1.1.1.2, ⟨hk.1.1.1.2, ⟨hk.1.1.2, hk.1.1.1.1.1.1.1.1⟩⟩⟩⟩⟩⟩)⟩, ⟨by (try simp only [hl606002_67]); (try simp only [hl606003_67]); (try simp only [hl606004_67]); (with_reducible repeat (first | refine blk_drewN ?_ _ | refine blk_drew ?_ | refine blk_alloc ?_ _)); exact BK568.out⟩, ⟨by (try simp only [hl606002_67]); (try simp only [hl606003_67]); (try simp only [hl606004_67]); (with_reducible repeat (first | refine blk_drewN ?_ _ | refine blk_drew ?_ | refine blk_alloc ?_ _)); exact BK593.out⟩, ⟨by (try simp only [hl606002_67]); (try simp only [hl606003_67]); (try simp only [hl606004_67]); (with_reducible repeat (first | refine blk_drewN ?_ _ | refine blk_drew ?_ | refine blk_alloc ?_ _)); exact BK605.out⟩, ⟨by (try simp only [hl606002_67]); (try simp only [hl606003_67]); (try simp only [hl606004_67]); (with_reducible repeat (first | refine blk_drewN ?_ _ | refine blk_drew ?_ | refine blk_alloc ?_ _)); exact BK618.out⟩, ⟨by (try simp only [hl606002_67]); (try simp only [hl606003_67]); (try simp only [hl606004_67]); (with_reducible repeat (first | refine blk_drewN ?_ _ | refine blk_drew ?_ | refine blk_alloc ?_ _)); exact BK665.out⟩, ⟨bq⟩⟩
           case rest =>
            clear HC113
            try clear c1
            try clear c2
            try clear p2
            try clear c3
            try clear c3b0
            try clear c4
            try clear c5
            try clear c6
            try clear c7
            try clear c8
            try clear c9
            try clear c10
            try clear c11
            try clear c12
            try clear c13
            try clear c14
            try clear c15
            try clear c16
            try clear c18
            try clear c22
            try clear c25
            try clear c26
            try clear c30
            try clear c31
            try clear c34
            try clear c35
            try clear c38
            try clear c39
            try clear c40
            try clear c46
            try clear c47
            try clear c48
            try clear c49
            try clear c51
            try clear c52
            try clear c55
            try clear c56
            try clear c57
            try clear c59
            try clear c60
            try clear c63
            try clear c66
            try clear c75
            try clear c76
            try clear c77
            try clear c80
            try clear c80b0
            try clear c82
            try clear c83
            try clear c84
            try clear c85
            try clear c87
            try clear c88
            try clear c91
            try clear c92
            try clear c93
            try clear c95
            try clear c96
            try clear c99
            try clear c102
            try clear c102b0
            try clear c103
            try clear c104
            try clear c105
            try clear c110
            try clear c110b0
            try clear c110b1
            try clear c114
            try clear c115
            try clear c116
            try clear c121
            try clear c122
            try clear c130
            try clear c131
            try clear c132
            try clear c133
            try clear c139
            try clear c140
            try clear c141
            try clear c142
            try clear c143
            try clear c145
            try clear c146
            try clear c147
            try clear c150
            try clear c151
            try clear c152
            try clear c153
            try clear c155
            try clear c156
            try clear c157
            try clear hcz106_0
            try clear hcz106_1
            try clear hcz106_2
            try clear hcz106_3
            try clear hcz106_4
            try clear hcz108_0
            try clear hcz108_1
            try clear hcz108_2
            try clear hcz108_3
            try clear hcz108_4
            try clear hcz117_0
            try clear hcz117_1
            try clear hcz117_2
            try clear hcz117_3
            try clear hcz117_4
            try clear hcz119_0
            try clear hcz119_1
            try clear hcz119_2
            try clear hcz119_3
            try clear hcz119_4
            try clear hcz123_0
            try clear hcz123_1
            try clear hcz123_2
            try clear hcz123_3
            try clear hcz123_4
            try clear hcz134_0
            try clear hcz134_1
            try clear hcz134_2
            try clear hcz134_3
            try clear hcz134_4
            try clear hcz13_0
            try clear hcz13_1
            try clear hcz13_2
            try clear hcz13_3
            try clear hcz13_4
            try clear hcz144_0
            try clear hcz144_1
            try clear hcz144_2
            try clear hcz144_3
            try clear hcz144_4
            try clear hcz148_0
            try clear hcz148_1
            try clear hcz148_2
            try clear hcz148_3
            try clear hcz148_4
            try clear hcz154_0
            try clear hcz154_1
            try clear hcz154_2
            try clear hcz154_3
            try clear hcz154_4
            try clear hcz158_0
            try clear hcz158_1
            try clear hcz158_2
            try clear hcz158_3
            try clear hcz158_4
            try clear hcz15_0
            try clear hcz15_1
            try clear hcz15_2
            try clear hcz15_3
            try clear hcz15_4
            try clear hcz23_0
            try clear hcz23_1
            try clear hcz23_2
            try clear hcz23_3
            try clear hcz23_4
            try clear hcz27_0
            try clear hcz27_1
            try clear hcz27_2
            try clear hcz27_3
            try clear hcz27_4
            try clear hcz32_0
            try clear hcz32_1
            try clear hcz32_2
            try clear hcz32_3
            try clear hcz32_4
            try clear hcz41_0
            try clear hcz41_1
            try clear hcz41_2
            try clear hcz41_3
            try clear hcz41_4
            try clear hcz50_0
            try clear hcz50_1
            try clear hcz50_2
            try clear hcz50_3
            try clear hcz50_4
            try clear hcz53_0
            try clear hcz53_1
            try clear hcz53_2
            try clear hcz53_3
            try clear hcz53_4
            try clear hcz58_0
            try clear hcz58_1
            try clear hcz58_2
            try clear hcz58_3
            try clear hcz58_4
            try clear hcz5_0
            try clear hcz5_1
            try clear hcz5_2
            try clear hcz5_3
            try clear hcz5_4
            try clear hcz61_0
            try clear hcz61_1
            try clear hcz61_2
            try clear hcz61_3
            try clear hcz61_4
            try clear hcz78_0
            try clear hcz78_1
            try clear hcz78_2
            try clear hcz78_3
            try clear hcz78_4
            try clear hcz86_0
            try clear hcz86_1
            try clear hcz86_2
            try clear hcz86_3
            try clear hcz86_4
            try clear hcz89_0
            try clear hcz89_1
            try clear hcz89_2
            try clear hcz89_3
            try clear hcz89_4
            try clear hcz94_0
            try clear hcz94_1
            try clear hcz94_2
            try clear hcz94_3
            try clear hcz94_4
            try clear hcz97_0
            try clear hcz97_1
            try clear hcz97_2
            try clear hcz97_3
            try clear hcz97_4
            try clear hfz106_0
            try clear hfz106_1
            try clear hfz106_2
            try clear hfz106_3
            try clear hfz106_4
            try clear hfz108_0
            try clear hfz108_1
            try clear hfz108_2
            try clear hfz108_3
            try clear hfz108_4
            try clear hfz117_0
            try clear hfz117_1
            try clear hfz117_2
            try clear hfz117_3
            try clear hfz117_4
            try clear hfz119_0
            try clear hfz119_1
            try clear hfz119_2
            try clear hfz119_3
            try clear hfz119_4
            try clear hfz123_0
            try clear hfz123_1
            try clear hfz123_2
            try clear hfz123_3
            try clear hfz123_4
            try clear hfz134_0
            try clear hfz134_1
            try clear hfz134_2
            try clear hfz134_3
            try clear hfz134_4
            try clear hfz13_0
            try clear hfz13_1
            try clear hfz13_2
            try clear hfz13_3
            try clear hfz13_4
            try clear hfz144_0
            try clear hfz144_1
            try clear hfz144_2
            try clear hfz144_3
            try clear hfz144_4
            try clear hfz148_0
            try clear hfz148_1
            try clear hfz148_2
            try clear hfz148_3
            try clear hfz148_4
            try clear hfz154_0
            try clear hfz154_1
            try clear hfz154_2
            try clear hfz154_3
            try clear hfz154_4
            try clear hfz158_0
            try clear hfz158_1
            try clear hfz158_2
            try clear hfz158_3
            try clear hfz158_4
            try clear hfz15_0
            try clear hfz15_1
            try clear hfz15_2
            try clear hfz15_3
            try clear hfz15_4
            try clear hfz23_0
            try clear hfz23_1
            try clear hfz23_2
            try clear hfz23_3
            try clear hfz23_4
            try clear hfz27_0
            try clear hfz27_1
            try clear hfz27_2
            try clear hfz27_3
            try clear hfz27_4
            try clear hfz32_0
            try clear hfz32_1
            try clear hfz32_2
            try clear hfz32_3
            try clear hfz32_4
            try clear hfz41_0
            try clear hfz41_1
            try clear hfz41_2
            try clear hfz41_3
            try clear hfz41_4
            try clear hfz50_0
            try clear hfz50_1
            try clear hfz50_2
            try clear hfz50_3
            try clear hfz50_4
            try clear hfz53_0
            try clear hfz53_1
            try clear hfz53_2
            try clear hfz53_3
            try clear hfz53_4
            try clear hfz58_0
            try clear hfz58_1
            try clear hfz58_2
            try clear hfz58_3
            try clear hfz58_4
            try clear hfz5_0
            try clear hfz5_1
            try clear hfz5_2
            try clear hfz5_3
            try clear hfz5_4
            try clear hfz61_0
            try clear hfz61_1
            try clear hfz61_2
            try clear hfz61_3
            try clear hfz61_4
            try clear hfz78_0
            try clear hfz78_1
            try clear hfz78_2
            try clear hfz78_3
            try clear hfz78_4
            try clear hfz86_0
            try clear hfz86_1
            try clear hfz86_2
            try clear hfz86_3
            try clear hfz86_4
            try clear hfz89_0
            try clear hfz89_1
            try clear hfz89_2
            try clear hfz89_3
            try clear hfz89_4
            try clear hfz94_0
            try clear hfz94_1
            try clear hfz94_2
            try clear hfz94_3
            try clear hfz94_4
            try clear hfz97_0
            try clear hfz97_1
            try clear hfz97_2
            try clear hfz97_3
            try clear hfz97_4
            try clear p2
            obtain ⟨kq, x87_112, rfl, HA, HJ112, HO_594002, HO_594003, HO_594004, HO_606002, HO_606003, HO_606004, HO_619002, HO_619003, HO_619004, HO_666002, HO_666003, HO_666004, BK568, BK593, BK605, BK618, BK665, HB⟩ := hcut
            have hl619002_112 := (Kd.R_reads' HO_619002.out).1
            rw [hl619002_112] at HO_619002
            (try simp only [hl619002_112])
            (try simp only [hl619002_112] at BK568)
            (try simp only [hl619002_112] at BK593)
            (try simp only [hl619002_112] at BK605)
            (try simp only [hl619002_112] at BK618)
            (try simp only [hl619002_112] at BK665)
            (try simp only [hl619002_112] at HO_594002)
            (try simp only [hl619002_112] at HO_594003)
            (try simp only [hl619002_112] at HO_594004)
            (try simp only [hl619002_112] at HO_606002)
            (try simp only [hl619002_112] at HO_606003)
            (try simp only [hl619002_112] at HO_606004)
            (try simp only [hl619002_112] at HO_619003)
            (try simp only [hl619002_112] at HO_619004)
            (try simp only [hl619002_112] at HO_666002)
            (try simp only [hl619002_112] at HO_666003)
            (try simp only [hl619002_112] at HO_666004)
            have hl619003_112 := (Kd.R_reads' HO_619003.out).1
            rw [hl619003_112] at HO_619003
            (try simp only [hl619003_112])
            (try simp only [hl619003_112] at BK568)
            (try simp only [hl619003_112] at BK593)
            (try simp only [hl619003_112] at BK605)
            (try simp only [hl619003_112] at BK618)
            (try simp only [hl619003_112] at BK665)
            (try simp only [hl619003_112] at HO_594002)
            (try simp only [hl619003_112] at HO_594003)
            (try simp only [hl619003_112] at HO_594004)
            (try simp only [hl619003_112] at HO_606002)
            (try simp only [hl619003_112] at HO_606003)
            (try simp only [hl619003_112] at HO_606004)
            (try simp only [hl619003_112] at HO_619002)
            (try simp only [hl619003_112] at HO_619004)
            (try simp only [hl619003_112] at HO_666002)
            (try simp only [hl619003_112] at HO_666003)
            (try simp only [hl619003_112] at HO_666004)
            have hl619004_112 := (Kd.R_reads' HO_619004.out).1
            rw [hl619004_112] at HO_619004
            (try simp only [hl619004_112])
            (try simp only [hl619004_112] at BK568)
            (try simp only [hl619004_112] at BK593)
            (try simp only [hl619004_112] at BK605)
            (try simp only [hl619004_112] at BK618)
            (try simp only [hl619004_112] at BK665)
            (try simp only [hl619004_112] at HO_594002)
            (try simp only [hl619004_112] at HO_594003)
            (try simp only [hl619004_112] at HO_594004)
            (try simp only [hl619004_112] at HO_606002)
            (try simp only [hl619004_112] at HO_606003)
            (try simp only [hl619004_112] at HO_606004)
            (try simp only [hl619004_112] at HO_619002)
            (try simp only [hl619004_112] at HO_619003)
            (try simp only [hl619004_112] at HO_666002)
            (try simp only [hl619004_112] at HO_666003)
            (try simp only [hl619004_112] at HO_666004)
            cases kq with
            | zero => exact absurd HA.out (by simp [laws_FnExactUndoAct.j2])
            | succ kj112 =>
             have H := HA.out
             clear HA
             simp only [laws_FnExactUndoAct.j2] at H
             by_cases c160 : x87_112 = true
             ·subst c160
              rw [if_pos rfl] at H
              try dsimp only at H
              obtain rfl := Option.some.inj H
              go_wp2
              go_ret
              exact ⟨eq_, bq⟩
             ·replace c160 := Bool.eq_false_iff.mpr c160
              subst c160
              rw [if_neg (show ¬ (false = true) by decide)] at H
              try dsimp only at H
              obtain ⟨t667, A161, H⟩ := bindq H
              try dsimp only at H
              by_cases c162 : t667 < 0
              ·rw [if_pos c162] at H
               have c162b0 : decide (t667 < 0) = true := decide_eq_true c162
               clear c162
               obtain rfl := Option.some.inj H
               have hnb163 := NB618_568.out
               have hnc163 := NB568_618.out
               have hnb164 := NB618_593.out
               have hnc164 := NB593_618.out
               have hnb165 := NB618_605.out
               have hnc165 := NB605_618.out
               have hnb166 := NB618_665.out
               have hnc166 := NB665_618.out
               have ⟨hcz167_0, hcz167_1, hcz167_2, hcz167_3, hcz167_4, hfz167_0, hfz167_1, hfz167_2, hfz167_3, hfz167_4⟩ := bc5 BK618
               go_wp2_with (first | ((with_reducible refine gate_callee (f := 26) rfl ?_); refine goesQ (some 90) Try.func26 #[.agg #[.int .i64 t606, .int .i64 t607, .slice Ao42 t638.length co42, .slice Ao43 t639.length co43, .slice Ao44 t640.length co44], .int .i64 1] ?_; (with_reducible refine (laws_heldSession.calls kj112 t606 t607 _ _ t638 _ _ t639 _ _ t640 1 t667 _ ?s1 ?s2 ?s3 ?s4 ?s5 ?s6 A161.out).mono ?_); (case s1 => exact cr HO_619002); (case s2 => exact r1 HO_619002); (case s3 => exact cr HO_619003); (case s4 => exact r1 HO_619003); (case s5 => exact cr HO_619004); (case s6 => exact r1 HO_619004); rintro e w168 ⟨rfl, hb⟩; refine ⟨_, rfl, ?_⟩; replace HO_594002 := rb HO_594002 hb; replace HO_594003 := rb HO_594003 hb; replace HO_594004 := rb HO_594004 hb; replace HO_606002 := rb HO_606002 hb; replace HO_606003 := rb HO_606003 hb; replace HO_606004 := rb HO_606004 hb; replace HO_619002 := rb HO_619002 hb; replace HO_619003 := rb HO_619003 hb; replace HO_619004 := rb HO_619004 hb; replace BK568 := zb BK568 hb; replace BK605 := zb BK605 hb; replace BK618 := zb BK618 hb; replace HB := sb hb; (try clear hb)))
               go_ret
               exact ⟨eq_, bq⟩
              ·rw [if_neg c162] at H
               have c162b0 : decide (t667 < 0) = false := decide_eq_false c162
               clear c162
               by_cases c169 : t667 = t637
               ·rw [if_pos c169] at H
                have c169b0 : (t667 == t637) = true := beq_iff_eq.mpr c169
                have c169b1 : (t667 != t637) = false := bne_eq_false_iff_eq.mpr c169
                clear c169
                obtain rfl := Option.some.inj H
                have hnb170 := NB618_568.out
                have hnc170 := NB568_618.out
                have hnb171 := NB618_593.out
                have hnc171 := NB593_618.out
                have hnb172 := NB618_605.out
                have hnc172 := NB605_618.out
                have hnb173 := NB618_665.out
                have hnc173 := NB665_618.out
                have ⟨hcz174_0, hcz174_1, hcz174_2, hcz174_3, hcz174_4, hfz174_0, hfz174_1, hfz174_2, hfz174_3, hfz174_4⟩ := bc5 BK618
                go_wp2_with (first | ((with_reducible refine gate_callee (f := 26) rfl ?_); refine goesQ (some 90) Try.func26 #[.agg #[.int .i64 t606, .int .i64 t607, .slice Ao42 t638.length co42, .slice Ao43 t639.length co43, .slice Ao44 t640.length co44], .int .i64 1] ?_; (with_reducible refine (laws_heldSession.calls kj112 t606 t607 _ _ t638 _ _ t639 _ _ t640 1 t667 _ ?s1 ?s2 ?s3 ?s4 ?s5 ?s6 A161.out).mono ?_); (case s1 => exact cr HO_619002); (case s2 => exact r1 HO_619002); (case s3 => exact cr HO_619003); (case s4 => exact r1 HO_619003); (case s5 => exact cr HO_619004); (case s6 => exact r1 HO_619004); rintro e w175 ⟨rfl, hb⟩; refine ⟨_, rfl, ?_⟩; replace HO_594002 := rb HO_594002 hb; replace HO_594003 := rb HO_594003 hb; replace HO_594004 := rb HO_594004 hb; replace HO_606002 := rb HO_606002 hb; replace HO_606003 := rb HO_606003 hb; replace HO_606004 := rb HO_606004 hb; replace HO_619002 := rb HO_619002 hb; replace HO_619003 := rb HO_619003 hb; replace HO_619004 := rb HO_619004 hb; replace BK568 := zb BK568 hb; replace BK605 := zb BK605 hb; replace BK618 := zb BK618 hb; replace HB := sb hb; (try clear hb)))
                go_ret
                exact ⟨eq_, bq⟩
               ·rw [if_neg c169] at H
                have c169b0 : (t667 == t637) = false := beq_eq_false_iff_ne.mpr c169
                have c169b1 : (t667 != t637) = true := bne_iff_ne.mpr c169
                obtain rfl := Option.some.inj H
                have hnb176 := NB618_568.out
                have hnc176 := NB568_618.out
                have hnb177 := NB618_593.out
                have hnc177 := NB593_618.out
                have hnb178 := NB618_605.out
                have hnc178 := NB605_618.out
                have hnb179 := NB618_665.out
                have hnc179 := NB665_618.out
                have ⟨hcz180_0, hcz180_1, hcz180_2, hcz180_3, hcz180_4, hfz180_0, hfz180_1, hfz180_2, hfz180_3, hfz180_4⟩ := bc5 BK618
                go_wp2_with (first | ((with_reducible refine gate_callee (f := 26) rfl ?_); refine goesQ (some 90) Try.func26 #[.agg #[.int .i64 t606, .int .i64 t607, .slice Ao42 t638.length co42, .slice Ao43 t639.length co43, .slice Ao44 t640.length co44], .int .i64 1] ?_; (with_reducible refine (laws_heldSession.calls kj112 t606 t607 _ _ t638 _ _ t639 _ _ t640 1 t667 _ ?s1 ?s2 ?s3 ?s4 ?s5 ?s6 A161.out).mono ?_); (case s1 => exact cr HO_619002); (case s2 => exact r1 HO_619002); (case s3 => exact cr HO_619003); (case s4 => exact r1 HO_619003); (case s5 => exact cr HO_619004); (case s6 => exact r1 HO_619004); rintro e w181 ⟨rfl, hb⟩; refine ⟨_, rfl, ?_⟩; replace HO_594002 := rb HO_594002 hb; replace HO_594003 := rb HO_594003 hb; replace HO_594004 := rb HO_594004 hb; replace HO_606002 := rb HO_606002 hb; replace HO_606003 := rb HO_606003 hb; replace HO_606004 := rb HO_606004 hb; replace HO_619002 := rb HO_619002 hb; replace HO_619003 := rb HO_619003 hb; replace HO_619004 := rb HO_619004 hb; replace BK568 := zb BK568 hb; replace BK605 := zb BK605 hb; replace BK618 := zb BK618 hb; replace HB := sb hb; (try clear hb)))
                go_ret
                exact ⟨eq_, bq⟩
          ·rw [if_neg c110] at H
           have c110b0 : (t641 == t637) = false := beq_eq_false_iff_ne.mpr c110
           have c110b1 : (t641 != t637) = true := bne_iff_ne.mpr c110
           obtain rfl := Option.some.inj H
           have hnb182 := NB618_568.out
           have hnc182 := NB568_618.out
           have hnb183 := NB618_593.out
           have hnc183 := NB593_618.out
           have hnb184 := NB618_605.out
           have hnc184 := NB605_618.out
           have ⟨hcz185_0, hcz185_1, hcz185_2, hcz185_3, hcz185_4, hfz185_0, hfz185_1, hfz185_2, hfz185_3, hfz185_4⟩ := bc5 BK618
           go_wp2_with (first | ((with_reducible refine gate_callee (f := 25) rfl ?_); refine goesQ (some 64) Try.func25 #[.agg #[.int .i64 t606, .int .i64 t607, .slice Ao42 t608.length co42, .slice Ao43 t611.length co43, .slice Ao44 t614.length co44], .int .i64 1] ?_; (with_reducible refine (laws_markSession.calls kj67 t606 t607 (fun k_ => some k_ = (.slice Ao42 t608.length co42 : Value).ownBlock) (.slice Ao42 t608.length co42) t608 (fun k_ => some k_ = (.slice Ao43 t611.length co43 : Value).ownBlock) (.slice Ao43 t611.length co43) t611 (fun k_ => some k_ = (.slice Ao44 t614.length co44 : Value).ownBlock) (.slice Ao44 t614.length co44) t614 1 t637 t638 t639 t640 w _ ?s1 ?s2 ?s3 ?s4 ?s5 ?s6 A100.out).mono ?_); (case s1 => repeat (first | (with_reducible first | exact HB.out | apply below_alloc | apply pw_below_drewN | apply below_drew1 | refine below_set ?_ GE568.out | refine below_set ?_ GE593.out | refine below_set ?_ GE605.out | refine below_set ?_ GE618.out) | exact HB.out)); (case s2 => exact Kd.R_tight rfl HO_619002.out); (case s3 => exact Kd.R_tight rfl HO_619003.out); (case s4 => exact fun k_ e_ => (HO_619003.out.1 k_ e_.symm).2.2.2.2); (case s5 => exact Kd.R_tight rfl HO_619004.out); (case s6 => exact fun k_ e_ => (HO_619004.out.1 k_ e_.symm).2.2.2.2); rintro e w186 ⟨rfl, hy0, hy1, hy2, hb, hkp⟩; refine ⟨_, rfl, ?_⟩; replace HO_594002 := Aside0.mk (Kd.R_mono (ok' := fun k_ => some k_ ≠ (.slice Ao33 t633.length co33 : Value).ownBlock ∧ some k_ ≠ (.slice Ao42 t608.length co42 : Value).ownBlock) (Kd.R_keptB ((Kd.R_apart' (Kd.R_apart' HO_594002.out (Kd.R_typed HO_619003.out) (by decide)) (Kd.R_typed HO_619004.out) (by decide))) hkp (fun k_ hk_ hs_ => Or.elim hs_ (fun e_ => (hk_.1.1.2) e_) (fun e_ => Or.elim e_ (fun e_ => (hk_.1.2) e_) (fun e_ => (hk_.2) e_)))) (fun k_ hk_ => ⟨hk_.1.1.1.1, hk_.1.1.1.2⟩)); replace HO_594003 := Aside0.mk (Kd.R_mono (ok' := fun k_ => some k_ ≠ (.slice Ao26 t589.length co26 : Value).ownBlock ∧ some k_ ≠ (.slice Ao34 t634.length co34 : Value).ownBlock ∧ some k_ ≠ (.slice Ao35 t635.length co35 : Value).ownBlock ∧ some k_ ≠ (.slice Ao43 t611.length co43 : Value).ownBlock ∧ some k_ ≠ (.slice Ao44 t614.length co44 : Value).ownBlock) (Kd.R_keptB ((Kd.R_apart' HO_594003.out (Kd.R_typed HO_619002.out) (by decide))) hkp (fun k_ hk_ hs_ => Or.elim hs_ (fun e_ => (hk_.2) e_) (fun e_ => Or.elim e_ (fun e_ => (hk_.1.2.2.2.1) e_) (fun e_ => (hk_.1.2.2.2.2) e_)))) (fun k_ hk_ => ⟨hk_.1.1.1, hk_.1.1.2.1, hk_.1.1.2.2.1, hk_.1.1.2.2.2.1, hk_.1.1.2.2.2.2⟩)); replace HO_594004 := Aside0.mk (Kd.R_mono (ok' := fun k_ => some k_ ≠ (.slice Ao25 t586.length co25 : Value).ownBlock ∧ some k_ ≠ (.slice Ao34 t634.length co34 : Value).ownBlock ∧ some k_ ≠ (.slice Ao35 t635.length co35 : Value).ownBlock ∧ some k_ ≠ (.slice Ao43 t611.length co43 : Value).ownBlock ∧ some k_ ≠ (.slice Ao44 t614.length co44 : Value).ownBlock) (Kd.R_keptB ((Kd.R_apart' HO_594004.out (Kd.R_typed HO_619002.out) (by decide))) hkp (fun k_ hk_ hs_ => Or.elim hs_ (fun e_ => (hk_.2) e_) (fun e_ => Or.elim e_ (fun e_ => (hk_.1.2.2.2.1) e_) (fun e_ => (hk_.1.2.2.2.2) e_)))) (fun k_ hk_ => ⟨hk_.1.1.1, hk_.1.1.2.1, hk_.1.1.2.2.1, hk_.1.1.2.2.2.1, hk_.1.1.2.2.2.2⟩)); replace HO_606002 := Aside0.mk (Kd.R_mono (ok' := fun k_ => some k_ ≠ (.slice Ao24 t583.length co24 : Value).ownBlock ∧ some k_ ≠ (.slice Ao42 t608.length co42 : Value).ownBlock) (Kd.R_keptB ((Kd.R_apart' (Kd.R_apart' HO_606002.out (Kd.R_typed HO_619003.out) (by decide)) (Kd.R_typed HO_619004.out) (by decide))) hkp (fun k_ hk_ hs_ => Or.elim hs_ (fun e_ => (hk_.1.1.2) e_) (fun e_ => Or.elim e_ (fun e_ => (hk_.1.2) e_) (fun e_ => (hk_.2) e_)))) (fun k_ hk_ => ⟨hk_.1.1.1.1, hk_.1.1.1.2⟩)); replace HO_606003 := Aside0.mk (Kd.R_mono (ok' := fun k_ => some k_ ≠ (.slice Ao25 t586.length co25 : Value).ownBlock ∧ some k_ ≠ (.slice Ao26 t589.length co26 : Value).ownBlock ∧ some k_ ≠ (.slice Ao35 t635.length co35 : Value).ownBlock ∧ some k_ ≠ (.slice Ao43 t611.length co43 : Value).ownBlock ∧ some k_ ≠ (.slice Ao44 t614.length co44 : Value).ownBlock) (Kd.R_keptB ((Kd.R_apart' HO_606003.out (Kd.R_typed HO_619002.out) (by decide))) hkp (fun k_ hk_ hs_ => Or.elim hs_ (fun e_ => (hk_.2) e_) (fun e_ => Or.elim e_ (fun e_ => (hk_.1.2.2.2.1) e_) (fun e_ => (hk_.1.2.2.2.2) e_)))) (fun k_ hk_ => ⟨hk_.1.1.1, hk_.1.1.2.1, hk_.1.1.2.2.1, hk_.1.1.2.2.2.1, hk_.1.1.2.2.2.2⟩)); replace HO_606004 := Aside0.mk (Kd.R_mono (ok' := fun k_ => some k_ ≠ (.slice Ao25 t586.length co25 : Value).ownBlock ∧ some k_ ≠ (.slice Ao26 t589.length co26 : Value).ownBlock ∧ some k_ ≠ (.slice Ao34 t634.length co34 : Value).ownBlock ∧ some k_ ≠ (.slice Ao43 t611.length co43 : Value).ownBlock ∧ some k_ ≠ (.slice Ao44 t614.length co44 : Value).ownBlock) (Kd.R_keptB ((Kd.R_apart' HO_606004.out (Kd.R_typed HO_619002.out) (by decide))) hkp (fun k_ hk_ hs_ => Or.elim hs_ (fun e_ => (hk_.2) e_) (fun e_ => Or.elim e_ (fun e_ => (hk_.1.2.2.2.1) e_) (fun e_ => (hk_.1.2.2.2.2) e_)))) (fun k_ hk_ => ⟨hk_.1.1.1, hk_.1.1.2.1, hk_.1.1.2.2.1, hk_.1.1.2.2.2.1, hk_.1.1.2.2.2.2⟩)); replace BK568 := Aside0.mk (blk_kept (zq BK568) hkp (fun hs_ => Or.elim hs_ (fun e_ => (fun e_ => (Kd.R_ne HO_619002.out BK568.out (by decide)) e_) e_) (fun e_ => Or.elim e_ (fun e_ => (fun e_ => (Kd.R_ne HO_619003.out BK568.out (by decide)) e_) e_) (fun e_ => (fun e_ => (Kd.R_ne HO_619004.out BK568.out (by decide)) e_) e_)))); replace BK605 := Aside0.mk (blk_kept (zq BK605) hkp (fun hs_ => Or.elim hs_ (fun e_ => (fun e_ => (Kd.R_ne HO_619002.out BK605.out (by decide)) e_) e_) (fun e_ => Or.elim e_ (fun e_ => (fun e_ => (Kd.R_ne HO_619003.out BK605.out (by decide)) e_) e_) (fun e_ => (fun e_ => (Kd.R_ne HO_619004.out BK605.out (by decide)) e_) e_)))); replace BK618 := Aside0.mk (blk_kept (zq BK618) hkp (fun hs_ => Or.elim hs_ (fun e_ => (fun e_ => (Kd.R_ne HO_619002.out BK618.out (by decide)) e_) e_) (fun e_ => Or.elim e_ (fun e_ => (fun e_ => (Kd.R_ne HO_619003.out BK618.out (by decide)) e_) e_) (fun e_ => (fun e_ => (Kd.R_ne HO_619004.out BK618.out (by decide)) e_) e_)))); replace HO_619002 := Aside0.mk (Kd.R_reok rfl hy0 (fun k_ e_ => HO_619002.out.1 k_ e_)); replace HO_619003 := Aside0.mk (Kd.R_reok rfl hy1 (fun k_ e_ => HO_619003.out.1 k_ e_)); replace HO_619004 := Aside0.mk (Kd.R_reok rfl hy2 (fun k_ e_ => HO_619004.out.1 k_ e_)); replace HB := Aside0.mk (hb); (try clear hb hkp hy0 hy1 hy2); have ⟨hcz187_0, hcz187_1, hcz187_2, hcz187_3, hcz187_4, hfz187_0, hfz187_1, hfz187_2, hfz187_3, hfz187_4⟩ := bc5 BK618) | ((with_reducible refine gate_callee (f := 26) rfl ?_); refine goesL_ (some 67) rfl rfl Try.func26 (by kernel_rfl) rfl #[.agg #[.int .i64 t606, .int .i64 t607, .slice Ao42 t638.length co42, .slice Ao43 t639.length co43, .slice Ao44 t640.length co44], .int .i64 1] rfl (by (try simp only [List.map_toArray, List.map_cons, List.map_nil]); first | done | (rw [show t638.length = t608.length from (Kd.R_reads' HO_619002.out).1.symm, show t639.length = t611.length from (Kd.R_reads' HO_619003.out).1.symm, show t640.length = t614.length from (Kd.R_reads' HO_619004.out).1.symm] <;> rfl) | rfl | (simp only [List.length_drop, List.length_take]; rfl)) ?_; (with_reducible refine (laws_heldSession.calls kj67 t606 t607 _ _ t638 _ _ t639 _ _ t640 1 t641 _ ?s1 ?s2 ?s3 ?s4 ?s5 ?s6 A101.out).mono ?_); (case s1 => exact cr HO_619002); (case s2 => rw [show t638.length = t608.length from (Kd.R_reads' HO_619002.out).1.symm]; exact r1 HO_619002); (case s3 => exact cr HO_619003); (case s4 => rw [show t639.length = t611.length from (Kd.R_reads' HO_619003.out).1.symm]; exact r1 HO_619003); (case s5 => exact cr HO_619004); (case s6 => rw [show t640.length = t614.length from (Kd.R_reads' HO_619004.out).1.symm]; exact r1 HO_619004); rintro e w188 ⟨rfl, hb⟩; refine ⟨_, rfl, ?_⟩; replace HO_594002 := rb HO_594002 hb; replace HO_594003 := rb HO_594003 hb; replace HO_594004 := rb HO_594004 hb; replace HO_606002 := rb HO_606002 hb; replace HO_606003 := rb HO_606003 hb; replace HO_606004 := rb HO_606004 hb; replace HO_619002 := rb HO_619002 hb; replace HO_619003 := rb HO_619003 hb; replace HO_619004 := rb HO_619004 hb; replace BK568 := zb BK568 hb; replace BK605 := zb BK605 hb; replace HB := sb hb; (try clear hb)))
           go_ret
           exact ⟨eq_, bq⟩
     ·replace c66 := Bool.eq_false_iff.mpr c66
      subst c66
      rw [if_neg (show ¬ (false = true) by decide)] at H
      try dsimp only at H
      obtain rfl := Option.some.inj H
      try go_wp2
      replace HO_594002 := Aside0.mk (Kd.R_drew HO_594002.out)
      replace HO_594003 := Aside0.mk (Kd.R_drew HO_594003.out)
      replace HO_594004 := Aside0.mk (Kd.R_drew HO_594004.out)
      replace HO_606002 := Aside0.mk (Kd.R_drew HO_606002.out)
      replace HO_606003 := Aside0.mk (Kd.R_drew HO_606003.out)
      replace HO_606004 := Aside0.mk (Kd.R_drew HO_606004.out)
      replace HO_619002 := Aside0.mk (Kd.R_drew HO_619002.out)
      replace HO_619003 := Aside0.mk (Kd.R_drew HO_619003.out)
      replace HO_619004 := Aside0.mk (Kd.R_drew HO_619004.out)
      replace BK568 := Aside0.mk (blk_drew BK568.out)
      replace BK605 := Aside0.mk (blk_drew BK605.out)
      replace HB := Aside0.mk (below_drew1 HB.out)
      refine start_ (n := 5) (S := fun w' => w'.cell? ⟨gb605, 0, none⟩ = some (.int .i64 t594) ∧ w'.cell? ⟨gb605, 1, none⟩ = some (.int .i64 t595) ∧ w'.cell? ⟨gb605, 2, none⟩ = some (.slice Ao33 t596.length co33) ∧ w'.cell? ⟨gb605, 3, none⟩ = some (.slice Ao34 t599.length co34) ∧ w'.cell? ⟨gb605, 4, none⟩ = some (.slice Ao35 t602.length co35) ∧ w'.cell? ⟨gb568, 0, none⟩ = some (.int .i64 a0_0) ∧ w'.cell? ⟨gb568, 1, none⟩ = some (.int .i64 a0_1) ∧ w'.cell? ⟨gb568, 2, none⟩ = some (.slice A0_2 l0_2.length c0_2) ∧ w'.cell? ⟨gb568, 3, none⟩ = some (.slice A0_3 l0_3.length c0_3) ∧ w'.cell? ⟨gb568, 4, none⟩ = some (.slice A0_4 l0_4.length c0_4)) (ds := []) #[false, false, false, false, false] (by kernel_rfl) rfl rfl ⟨(blk_cell BK605.out 0).trans rfl, (blk_cell BK605.out 1).trans rfl, (blk_cell BK605.out 2).trans rfl, (blk_cell BK605.out 3).trans rfl, (blk_cell BK605.out 4).trans rfl, (blk_cell BK568.out 0).trans rfl, (blk_cell BK568.out 1).trans rfl, (blk_cell BK568.out 2).trans rfl, (blk_cell BK568.out 3).trans rfl, (blk_cell BK568.out 4).trans rfl⟩ (fun hHeld => ?_)
      generalize wc.drew = w189 at HO_594002 HO_594003 HO_594004 HO_606002 HO_606003 HO_606004 HO_619002 HO_619003 HO_619004 BK568 BK605 HB hHeld ⊢
      refine take_ (i := 0) (N := some 41) (v := ?_) (a' := ?_) #[true, false, false, false, false] rfl rfl (by kernel_rfl) (fun _ _ _ h => h) (Or.inl ⟨by rfl, ?_⟩) hHeld ?_ ?_
      rotate_left
      ·rintro w' ⟨s0, s1, s2, s3, s4, s5, s6, s7, s8, s9⟩
       go_simp
       with_reducible rfl
      rotate_left
      ·simp only [Act.put, List.setIfInBounds_toArray, List.set_cons_zero, List.set_cons_succ, i64_w, i32_w]
       rfl
      refine take_ (i := 1) (N := some 42) (v := ?_) (a' := ?_) #[true, true, false, false, false] rfl rfl (by kernel_rfl) (fun _ _ _ h => h) (Or.inl ⟨by rfl, ?_⟩) hHeld ?_ ?_
      rotate_left
      ·rintro w' ⟨s0, s1, s2, s3, s4, s5, s6, s7, s8, s9⟩
       go_simp
       with_reducible rfl
      rotate_left
      ·simp only [Act.put, List.setIfInBounds_toArray, List.set_cons_zero, List.set_cons_succ, i64_w, i32_w]
       rfl
      refine one_ (i := 2) (N := some 43) #[true, true, true, false, false] rfl rfl (by kernel_rfl) (by decide) (fun K hK => ?_)
      refine goes_ Try.func16 (by kernel_rfl) rfl #[.agg #[.int .i64 a0_0, .int .i64 a0_1, .slice A0_2 l0_2.length c0_2, .slice A0_3 l0_3.length c0_3, .slice A0_4 l0_4.length c0_4]] (by rfl) rfl rfl mq ?_
      with_reducible refine (laws_toSession.calls kj10 a0_0 a0_1 _ _ l0_2 _ _ l0_3 _ _ l0_4 t620 t621 t622 t625 t628 _ ?s1 ?s2 ?s3 ?s4 ?s5 ?s6 A64.out).mono ?_
      (case s1 => exact cq (Kd.C_below HR0_2.out HB.out))
      (case s2 => exact HC0_2.out)
      (case s3 => exact cq (Kd.C_below HR0_3.out HB.out))
      (case s4 => exact HC0_3.out)
      (case s5 => exact cq (Kd.C_below HR0_4.out HB.out))
      (case s6 => exact HC0_4.out)
      rintro e w190 ⟨v623, v626, v629, rfl, ho0, ho1, ho2, hb⟩
      refine ⟨_, rfl, ?_⟩
      have HO624 := Aside0.mk (Kd.R_lower (Kd.R_new' (Kd.R_new' (Kd.R_new' ho0 (Kd.R_lt (rq HO_594002))) (Kd.R_lt (rq HO_606002))) (Kd.R_lt (rq HO_619002))) (below_size bq))
      replace HO_606002 := Aside0.mk (Kd.R_elder' (rq HO_606002) (Kd.R_base ho0) hb)
      have HO627 := Aside0.mk (Kd.R_lower (Kd.R_new' (Kd.R_new' (Kd.R_new' (Kd.R_new' (Kd.R_new' (Kd.R_new' ho1 (Kd.R_lt (rq HO_594003))) (Kd.R_lt (rq HO_594004))) (Kd.R_lt (rq HO_606003))) (Kd.R_lt (rq HO_606004))) (Kd.R_lt (rq HO_619003))) (Kd.R_lt (rq HO_619004))) (below_size bq))
      have HO630 := Aside0.mk (Kd.R_lower (Kd.R_new' (Kd.R_new' (Kd.R_new' (Kd.R_new' (Kd.R_new' (Kd.R_new' ho2 (Kd.R_lt (rq HO_594003))) (Kd.R_lt (rq HO_594004))) (Kd.R_lt (rq HO_606003))) (Kd.R_lt (rq HO_606004))) (Kd.R_lt (rq HO_619003))) (Kd.R_lt (rq HO_619004))) (below_size bq))
      replace HO_606003 := Aside0.mk (Kd.R_mono (Kd.R_told (Kd.R_told (Kd.R_old (rq HO_606003) hb) (Kd.R_base ho1)) (Kd.R_base ho2)) (fun _ h_ => h_.1))
      replace HO_606004 := Aside0.mk (Kd.R_mono (Kd.R_told (Kd.R_told (Kd.R_old (rq HO_606004) hb) (Kd.R_base ho1)) (Kd.R_base ho2)) (fun _ h_ => h_.1))
      replace BK568 := zb BK568 hb
      replace BK605 := zb BK605 hb
      replace HB := sb hb
      (try clear hb ho0 ho1 ho2)
      obtain ⟨Ao191, co191, eo191⟩ := Kd.R_slice HO624.out
      (first | subst eo191 | (injection eo191 with f1_ f2_ f3_; have f4_ := f1_.symm; have f5_ := f3_.symm; clear f1_ f2_ f3_; subst f4_; subst f5_))
      obtain ⟨Ao192, co192, eo192⟩ := Kd.R_slice HO627.out
      (first | subst eo192 | (injection eo192 with f1_ f2_ f3_; have f4_ := f1_.symm; have f5_ := f3_.symm; clear f1_ f2_ f3_; subst f4_; subst f5_))
      obtain ⟨Ao193, co193, eo193⟩ := Kd.R_slice HO630.out
      (first | subst eo193 | (injection eo193 with f1_ f2_ f3_; have f4_ := f1_.symm; have f5_ := f3_.symm; clear f1_ f2_ f3_; subst f4_; subst f5_))
      refine hK.out _ _ ⟨(blk_cell BK605.out 0).trans rfl, (blk_cell BK605.out 1).trans rfl, (blk_cell BK605.out 2).trans rfl, (blk_cell BK605.out 3).trans rfl, (blk_cell BK605.out 4).trans rfl, (blk_cell BK568.out 0).trans rfl, (blk_cell BK568.out 1).trans rfl, (blk_cell BK568.out 2).trans rfl, (blk_cell BK568.out 3).trans rfl, (blk_cell BK568.out 4).trans rfl⟩ (fun hHeld => ?_)
      clear hK K
      refine norm_ (a' := ?_) ?_ ?_
      rotate_left
      ·show Act.put _ (some 43) _ = _
       simp only [Act.put, List.setIfInBounds_toArray, List.set_cons_zero, List.set_cons_succ, i64_w, i32_w]
       rfl
      refine one_ (i := 3) (N := some 44) #[true, true, true, true, false] rfl rfl (by kernel_rfl) (by decide) (fun K hK => ?_)
      refine goes_ Try.func18 (by kernel_rfl) rfl #[.agg #[.int .i64 t594, .int .i64 t595, .slice Ao33 t596.length co33, .slice Ao34 t599.length co34, .slice Ao35 t602.length co35], .agg #[.int .i64 t620, .int .i64 t621, .slice Ao191 t622.length co191, .slice Ao192 t625.length co192, .slice Ao193 t628.length co193]] (by rfl) rfl rfl mq ?_
      with_reducible refine (laws_eqSession.calls kj10 t594 t595 _ _ t596 _ _ t599 _ _ t602 t620 t621 _ _ t622 _ _ t625 _ _ t628 false _ ?s1 ?s2 ?s3 ?s4 ?s5 ?s6 ?s7 ?s8 ?s9 ?s10 ?s11 ?s12 A65.out).mono ?_
      (case s1 => exact cr HO_606002)
      (case s2 => exact r1 HO_606002)
      (case s3 => exact cr HO_606003)
      (case s4 => exact r1 HO_606003)
      (case s5 => exact cr HO_606004)
      (case s6 => exact r1 HO_606004)
      (case s7 => exact cr HO624)
      (case s8 => exact r1 HO624)
      (case s9 => exact cr HO627)
      (case s10 => exact r1 HO627)
      (case s11 => exact cr HO630)
      (case s12 => exact r1 HO630)
      rintro e w194 ⟨rfl, hb⟩
      refine ⟨_, rfl, ?_⟩
      replace BK568 := zb BK568 hb
      replace BK605 := zb BK605 hb
      replace HB := sb hb
      (try clear hb)
      refine hK.out _ _ ⟨(blk_cell BK605.out 0).trans rfl, (blk_cell BK605.out 1).trans rfl, (blk_cell BK605.out 2).trans rfl, (blk_cell BK605.out 3).trans rfl, (blk_cell BK605.out 4).trans rfl, (blk_cell BK568.out 0).trans rfl, (blk_cell BK568.out 1).trans rfl, (blk_cell BK568.out 2).trans rfl, (blk_cell BK568.out 3).trans rfl, (blk_cell BK568.out 4).trans rfl⟩ (fun hHeld => ?_)
      clear hK K
      refine norm_ (a' := ?_) ?_ ?_
      rotate_left
      ·show Act.put _ (some 44) _ = _
       simp only [Act.put, List.setIfInBounds_toArray, List.set_cons_zero, List.set_cons_succ, i64_w, i32_w]
       rfl
      refine pure_ (i := 4) (N := some 45) (v := ?_) (a' := ?_) #[true, true, true, true, true] rfl rfl (by kernel_rfl) (fun _ _ _ h => h) (Or.inl ⟨by rfl, ?_⟩) ?_ ?_
      rotate_left
      ·intro w'
       go_simp
       with_reducible rfl
      rotate_left
      ·simp only [Act.put, List.setIfInBounds_toArray, List.set_cons_zero, List.set_cons_succ, i64_w, i32_w]
       rfl
      refine done_ (by kernel_rfl) ?_
      try go_wp2
      go_ret
      exact ⟨eq_, bq⟩




end Go.Proofs.Ytkkgjljcgnegpaa.Pall
