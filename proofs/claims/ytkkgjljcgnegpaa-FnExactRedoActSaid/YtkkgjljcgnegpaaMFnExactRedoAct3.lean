-- written by the kit's print program, put together by a program
import Derived.Test.YtkkgjljcgnegpaaMFnExactRedoAct2
namespace Go.Proofs.Ytkkgjljcgnegpaa.Pall
open Go.RowKit Go.Proofs.YtkkgjljcgnegpaaW.PrintWords Go.Proofs.YtkkgjljcgnegpaaW.PrintLast Go.Proofs.YtkkgjljcgnegpaaW.PrintMore
attribute [local go_sem] max2_int min2_int max_two min_two max_three min_three max_four min_four   -- for this text's walks alone
set_option linter.unusedVariables false
set_option linter.unusedSimpArgs false
/-! ### laws_FnExactRedoAct: function 6 -/
mutual
def laws_FnExactRedoAct.j0 : Nat → Bool → Bool → Bool → Int → Int → List (S54) → List (S56) → List (S56) → Int → Int → List (S58) → List (S60) → List (S60) → Int → Int → List (S58) → List (S60) → List (S60) → Int → Int → List (S58) → List (S60) → List (S60) → Option (Bool)
 | 0, _, _, _, _, _, _, _, _, _, _, _, _, _, _, _, _, _, _, _, _, _, _, _ => none
 | k + 1, x5, x8, x40, x714000, x714001, x714002, x714003, x714004, x739000, x739001, x739002, x739003, x739004, x751000, x751001, x751002, x751003, x751004, x764000, x764001, x764002, x764003, x764004 => if x40 = true then (some false) else ((laws_toSession.f k x714000 x714001 x714002 x714003 x714004).bind fun bt765 => ((laws_eqSession.f k x751000 x751001 x751002 x751003 x751004 bt765.1 bt765.2.1 bt765.2.2.1 bt765.2.2.2.1 bt765.2.2.2.2).bind fun t776 => (if t776 = true then ((laws_markSession.f k x751000 x751001 x751002 x751003 x751004 1).bind fun bt777 => (if bt777.1 < 0 then (laws_FnExactRedoAct.j1 k x5 true x714000 x714001 x714002 x714003 x714004 x739000 x739001 x739002 x739003 x739004 x764000 x764001 x764002 x764003 x764004) else ((laws_eqSession.f k x764000 x764001 x764002 x764003 x764004 x739000 x739001 x739002 x739003 x739004).bind fun t781 => (if t781 = true then (laws_FnExactRedoAct.j1 k x5 (x8 != x5) x714000 x714001 x714002 x714003 x714004 x739000 x739001 x739002 x739003 x739004 x764000 x764001 x764002 x764003 x764004) else (laws_FnExactRedoAct.j1 k x5 true x714000 x714001 x714002 x714003 x714004 x739000 x739001 x739002 x739003 x739004 x764000 x764001 x764002 x764003 x764004))))) else (some false))))
def laws_FnExactRedoAct.j1 : Nat → Bool → Bool → Int → Int → List (S54) → List (S56) → List (S56) → Int → Int → List (S58) → List (S60) → List (S60) → Int → Int → List (S58) → List (S60) → List (S60) → Option (Bool)
 | 0, _, _, _, _, _, _, _, _, _, _, _, _, _, _, _, _, _ => none
 | k + 1, x5, x61, x714000, x714001, x714002, x714003, x714004, x739000, x739001, x739002, x739003, x739004, x764000, x764001, x764002, x764003, x764004 => if x61 = true then (some false) else ((laws_markSession.f k x764000 x764001 x764002 x764003 x764004 1).bind fun bt782 => ((laws_heldSession.f k x764000 x764001 bt782.2.1 bt782.2.2.1 bt782.2.2.2 1).bind fun t786 => (if t786 < 0 then (some false) else (if t786 = bt782.1 then ((laws_toSession.f k x714000 x714001 x714002 x714003 x714004).bind fun bt787 => ((impl_RedoAct.f k bt787.1 bt787.2.1 bt787.2.2.1 bt787.2.2.2.1 bt787.2.2.2.2).bind fun bt798 => ((laws_eqSession.f k bt798.1 bt798.2.1 bt798.2.2.1 bt798.2.2.2.1 bt798.2.2.2.2.1 x739000 x739001 x739002 x739003 x739004).bind fun t811 => (if t811 = true then (laws_FnExactRedoAct.j2 k bt782.1 (bt798.2.2.2.2.2 != x5) x764000 x764001 bt782.2.1 bt782.2.2.1 bt782.2.2.2) else (laws_FnExactRedoAct.j2 k bt782.1 true x764000 x764001 bt782.2.1 bt782.2.2.1 bt782.2.2.2))))) else (some false)))))
def laws_FnExactRedoAct.j2 : Nat → Int → Bool → Int → Int → List (S58) → List (S60) → List (S60) → Option (Bool)
 | 0, _, _, _, _, _, _, _ => none
 | k + 1, x10, x87, x764000, x764001, x764002, x764003, x764004 => if x87 = true then (some false) else ((laws_heldSession.f k x764000 x764001 x764002 x764003 x764004 1).bind fun t812 => (if t812 < 0 then (some false) else (if t812 = x10 then (some true) else (some false))))
end
def laws_FnExactRedoAct.f (k : Nat) (a0_0 : Int) (a0_1 : Int) (l0_2 : List (S54)) (l0_3 : List (S56)) (l0_4 : List (S56)) : Option (Bool) := (laws_szSession.f a0_0 a0_1 l0_2 l0_3 l0_4 1048576).bind fun t714 => (if t714 < 0 then (some true) else ((laws_toSession.f k a0_0 a0_1 l0_2 l0_3 l0_4).bind fun bt715 => ((spec_RedoAct.f k bt715.1 bt715.2.1 bt715.2.2.1 bt715.2.2.2.1 bt715.2.2.2.2).bind fun bt726 => ((laws_toSession.f k a0_0 a0_1 l0_2 l0_3 l0_4).bind fun bt739 => ((impl_RedoAct.f k bt739.1 bt739.2.1 bt739.2.2.1 bt739.2.2.2.1 bt739.2.2.2.2).bind fun bt751 => ((laws_eqSession.f k bt751.1 bt751.2.1 bt751.2.2.1 bt751.2.2.2.1 bt751.2.2.2.2.1 bt726.1 bt726.2.1 bt726.2.2.1 bt726.2.2.2.1 bt726.2.2.2.2.1).bind fun t764 => (if t764 = true then (laws_FnExactRedoAct.j0 k bt726.2.2.2.2.2 bt751.2.2.2.2.2 (bt751.2.2.2.2.2 != bt726.2.2.2.2.2) a0_0 a0_1 l0_2 l0_3 l0_4 bt726.1 bt726.2.1 bt726.2.2.1 bt726.2.2.2.1 bt726.2.2.2.2.1 bt739.1 bt739.2.1 bt739.2.2.1 bt739.2.2.2.1 bt739.2.2.2.2 bt751.1 bt751.2.1 bt751.2.2.1 bt751.2.2.2.1 bt751.2.2.2.2.1) else (laws_FnExactRedoAct.j0 k bt726.2.2.2.2.2 bt751.2.2.2.2.2 true a0_0 a0_1 l0_2 l0_3 l0_4 bt726.1 bt726.2.1 bt726.2.2.1 bt726.2.2.2.1 bt726.2.2.2.2.1 bt739.1 bt739.2.1 bt739.2.2.1 bt739.2.2.2.1 bt739.2.2.2.2 bt751.1 bt751.2.1 bt751.2.2.1 bt751.2.2.2.1 bt751.2.2.2.2.1))))))))
theorem laws_FnExactRedoAct.mono_l : ∀ k, (∀ y0 y1 y2 y3 y4 y5 y6 y7 y8 y9 y10 y11 y12 y13 y14 y15 y16 y17 y18 y19 y20 y21 y22, LeO (laws_FnExactRedoAct.j0 k y0 y1 y2 y3 y4 y5 y6 y7 y8 y9 y10 y11 y12 y13 y14 y15 y16 y17 y18 y19 y20 y21 y22) (laws_FnExactRedoAct.j0 (k + 1) y0 y1 y2 y3 y4 y5 y6 y7 y8 y9 y10 y11 y12 y13 y14 y15 y16 y17 y18 y19 y20 y21 y22)) ∧ (∀ y0 y1 y2 y3 y4 y5 y6 y7 y8 y9 y10 y11 y12 y13 y14 y15 y16, LeO (laws_FnExactRedoAct.j1 k y0 y1 y2 y3 y4 y5 y6 y7 y8 y9 y10 y11 y12 y13 y14 y15 y16) (laws_FnExactRedoAct.j1 (k + 1) y0 y1 y2 y3 y4 y5 y6 y7 y8 y9 y10 y11 y12 y13 y14 y15 y16)) ∧ (∀ y0 y1 y2 y3 y4 y5 y6, LeO (laws_FnExactRedoAct.j2 k y0 y1 y2 y3 y4 y5 y6) (laws_FnExactRedoAct.j2 (k + 1) y0 y1 y2 y3 y4 y5 y6))
 | 0 => ⟨fun _ _ _ _ _ _ _ _ _ _ _ _ _ _ _ _ _ _ _ _ _ _ _ r h => by simp [laws_FnExactRedoAct.j0] at h, fun _ _ _ _ _ _ _ _ _ _ _ _ _ _ _ _ _ r h => by simp [laws_FnExactRedoAct.j1] at h, fun _ _ _ _ _ _ _ r h => by simp [laws_FnExactRedoAct.j2] at h⟩
 | k + 1 => by
  obtain ⟨ih0, ih1, ih2⟩ := laws_FnExactRedoAct.mono_l k
  refine ⟨?_, ?_, ?_⟩
  ·intro y0 y1 y2 y3 y4 y5 y6 y7 y8 y9 y10 y11 y12 y13 y14 y15 y16 y17 y18 y19 y20 y21 y22
   unfold laws_FnExactRedoAct.j0
   repeat' first
   | (with_reducible exact ih0 _ _ _ _ _ _ _ _ _ _ _ _ _ _ _ _ _ _ _ _ _ _ _)
   | (with_reducible exact ih1 _ _ _ _ _ _ _ _ _ _ _ _ _ _ _ _ _)
   | (with_reducible exact ih2 _ _ _ _ _ _ _)
   | (with_reducible exact impl_RedoAct.mono _ _ _ _ _ _)
   | (with_reducible exact laws_eqSession.mono _ _ _ _ _ _ _ _ _ _ _)
   | (with_reducible exact laws_heldSession.mono _ _ _ _ _ _ _)
   | (with_reducible exact laws_markSession.mono _ _ _ _ _ _ _)
   | (with_reducible exact laws_toSession.mono _ _ _ _ _ _)
   | (with_reducible exact spec_RedoAct.mono _ _ _ _ _ _)
   | (with_reducible exact LeO.refl _)
   | (with_reducible exact LeO.none _)
   | (with_reducible refine LeO.ite ?_ ?_)
   | (with_reducible refine LeO.bind ?_ (fun _ => ?_))
   | exact ih0 _ _ _ _ _ _ _ _ _ _ _ _ _ _ _ _ _ _ _ _ _ _ _
   | exact ih1 _ _ _ _ _ _ _ _ _ _ _ _ _ _ _ _ _
   | exact ih2 _ _ _ _ _ _ _
   | exact impl_RedoAct.mono _ _ _ _ _ _
   | exact laws_eqSession.mono _ _ _ _ _ _ _ _ _ _ _
   | exact laws_heldSession.mono _ _ _ _ _ _ _
   | exact laws_markSession.mono _ _ _ _ _ _ _
   | exact laws_toSession.mono _ _ _ _ _ _
   | exact spec_RedoAct.mono _ _ _ _ _ _
   | exact LeO.none _
   | refine LeO.ite ?_ ?_
   | refine LeO.bind ?_ (fun _ => ?_)
  ·intro y0 y1 y2 y3 y4 y5 y6 y7 y8 y9 y10 y11 y12 y13 y14 y15 y16
   unfold laws_FnExactRedoAct.j1
   repeat' first
   | (with_reducible exact ih0 _ _ _ _ _ _ _ _ _ _ _ _ _ _ _ _ _ _ _ _ _ _ _)
   | (with_reducible exact ih1 _ _ _ _ _ _ _ _ _ _ _ _ _ _ _ _ _)
   | (with_reducible exact ih2 _ _ _ _ _ _ _)
   | (with_reducible exact impl_RedoAct.mono _ _ _ _ _ _)
   | (with_reducible exact laws_eqSession.mono _ _ _ _ _ _ _ _ _ _ _)
   | (with_reducible exact laws_heldSession.mono _ _ _ _ _ _ _)
   | (with_reducible exact laws_markSession.mono _ _ _ _ _ _ _)
   | (with_reducible exact laws_toSession.mono _ _ _ _ _ _)
   | (with_reducible exact spec_RedoAct.mono _ _ _ _ _ _)
   | (with_reducible exact LeO.refl _)
   | (with_reducible exact LeO.none _)
   | (with_reducible refine LeO.ite ?_ ?_)
   | (with_reducible refine LeO.bind ?_ (fun _ => ?_))
   | exact ih0 _ _ _ _ _ _ _ _ _ _ _ _ _ _ _ _ _ _ _ _ _ _ _
   | exact ih1 _ _ _ _ _ _ _ _ _ _ _ _ _ _ _ _ _
   | exact ih2 _ _ _ _ _ _ _
   | exact impl_RedoAct.mono _ _ _ _ _ _
   | exact laws_eqSession.mono _ _ _ _ _ _ _ _ _ _ _
   | exact laws_heldSession.mono _ _ _ _ _ _ _
   | exact laws_markSession.mono _ _ _ _ _ _ _
   | exact laws_toSession.mono _ _ _ _ _ _
   | exact spec_RedoAct.mono _ _ _ _ _ _
   | exact LeO.none _
   | refine LeO.ite ?_ ?_
   | refine LeO.bind ?_ (fun _ => ?_)
  ·intro y0 y1 y2 y3 y4 y5 y6
   unfold laws_FnExactRedoAct.j2
   repeat' first
   | (with_reducible exact ih0 _ _ _ _ _ _ _ _ _ _ _ _ _ _ _ _ _ _ _ _ _ _ _)
   | (with_reducible exact ih1 _ _ _ _ _ _ _ _ _ _ _ _ _ _ _ _ _)
   | (with_reducible exact ih2 _ _ _ _ _ _ _)
   | (with_reducible exact impl_RedoAct.mono _ _ _ _ _ _)
   | (with_reducible exact laws_eqSession.mono _ _ _ _ _ _ _ _ _ _ _)
   | (with_reducible exact laws_heldSession.mono _ _ _ _ _ _ _)
   | (with_reducible exact laws_markSession.mono _ _ _ _ _ _ _)
   | (with_reducible exact laws_toSession.mono _ _ _ _ _ _)
   | (with_reducible exact spec_RedoAct.mono _ _ _ _ _ _)
   | (with_reducible exact LeO.refl _)
   | (with_reducible exact LeO.none _)
   | (with_reducible refine LeO.ite ?_ ?_)
   | (with_reducible refine LeO.bind ?_ (fun _ => ?_))
   | exact ih0 _ _ _ _ _ _ _ _ _ _ _ _ _ _ _ _ _ _ _ _ _ _ _
   | exact ih1 _ _ _ _ _ _ _ _ _ _ _ _ _ _ _ _ _
   | exact ih2 _ _ _ _ _ _ _
   | exact impl_RedoAct.mono _ _ _ _ _ _
   | exact laws_eqSession.mono _ _ _ _ _ _ _ _ _ _ _
   | exact laws_heldSession.mono _ _ _ _ _ _ _
   | exact laws_markSession.mono _ _ _ _ _ _ _
   | exact laws_toSession.mono _ _ _ _ _ _
   | exact spec_RedoAct.mono _ _ _ _ _ _
   | exact LeO.none _
   | refine LeO.ite ?_ ?_
   | refine LeO.bind ?_ (fun _ => ?_)
theorem laws_FnExactRedoAct.mono : ∀ a0 a1 a2 a3 a4 k, LeO (laws_FnExactRedoAct.f k a0 a1 a2 a3 a4) (laws_FnExactRedoAct.f (k + 1) a0 a1 a2 a3 a4) := by
 intro a0 a1 a2 a3 a4 k
 obtain ⟨ih0, ih1, ih2⟩ := laws_FnExactRedoAct.mono_l k
 unfold laws_FnExactRedoAct.f
 repeat' first
   | (with_reducible exact ih0 _ _ _ _ _ _ _ _ _ _ _ _ _ _ _ _ _ _ _ _ _ _ _)
   | (with_reducible exact ih1 _ _ _ _ _ _ _ _ _ _ _ _ _ _ _ _ _)
   | (with_reducible exact ih2 _ _ _ _ _ _ _)
   | (with_reducible exact impl_RedoAct.mono _ _ _ _ _ _)
   | (with_reducible exact laws_eqSession.mono _ _ _ _ _ _ _ _ _ _ _)
   | (with_reducible exact laws_heldSession.mono _ _ _ _ _ _ _)
   | (with_reducible exact laws_markSession.mono _ _ _ _ _ _ _)
   | (with_reducible exact laws_toSession.mono _ _ _ _ _ _)
   | (with_reducible exact spec_RedoAct.mono _ _ _ _ _ _)
   | (with_reducible exact LeO.refl _)
   | (with_reducible exact LeO.none _)
   | (with_reducible refine LeO.ite ?_ ?_)
   | (with_reducible refine LeO.bind ?_ (fun _ => ?_))
   | exact ih0 _ _ _ _ _ _ _ _ _ _ _ _ _ _ _ _ _ _ _ _ _ _ _
   | exact ih1 _ _ _ _ _ _ _ _ _ _ _ _ _ _ _ _ _
   | exact ih2 _ _ _ _ _ _ _
   | exact impl_RedoAct.mono _ _ _ _ _ _
   | exact laws_eqSession.mono _ _ _ _ _ _ _ _ _ _ _
   | exact laws_heldSession.mono _ _ _ _ _ _ _
   | exact laws_markSession.mono _ _ _ _ _ _ _
   | exact laws_toSession.mono _ _ _ _ _ _
   | exact spec_RedoAct.mono _ _ _ _ _ _
   | exact LeO.none _
   | refine LeO.ite ?_ ?_
   | refine LeO.bind ?_ (fun _ => ?_)
set_option maxHeartbeats 8000000 in
set_option maxRecDepth 100000 in
theorem laws_FnExactRedoAct.calls (k : Nat) (a0_0 : Int) (a0_1 : Int) (A0_2 : Option Addr) (c0_2 : Nat) (l0_2 : List (S54)) (A0_3 : Option Addr) (c0_3 : Nat) (l0_3 : List (S56)) (A0_4 : Option Addr) (c0_4 : Nat) (l0_4 : List (S56)) (r : Bool) (w : World) (hr0_2 : Kd.C k54 w A0_2 l0_2.length l0_2) (hc0_2 : l0_2.length ≤ c0_2) (hr0_3 : Kd.C k56 w A0_3 l0_3.length l0_3) (hc0_3 : l0_3.length ≤ c0_3) (hr0_4 : Kd.C k56 w A0_4 l0_4.length l0_4) (hc0_4 : l0_4.length ≤ c0_4) (h : laws_FnExactRedoAct.f k a0_0 a0_1 l0_2 l0_3 l0_4 = some r) :
  Calls Try.prog 6 #[.agg #[.int .i64 a0_0, .int .i64 a0_1, .slice A0_2 l0_2.length c0_2, .slice A0_3 l0_3.length c0_3, .slice A0_4 l0_4.length c0_4]] w fun e w' => e = .returned (.bool r) ∧ Below w.heap.size w w' := by
 have hu27 := Try.underlying27
 have hu35 := Try.underlying35
 have HR0_2 := Aside0.mk hr0_2
 have HC0_2 := Aside0.mk hc0_2
 clear hr0_2 hc0_2
 have HR0_3 := Aside0.mk hr0_3
 have HC0_3 := Aside0.mk hc0_3
 clear hr0_3 hc0_3
 have HR0_4 := Aside0.mk hr0_4
 have HC0_4 := Aside0.mk hc0_4
 clear hr0_4 hc0_4
 have HB := Aside0.mk (Below.refl w.heap.size w)
 have H : ((laws_szSession.f a0_0 a0_1 l0_2 l0_3 l0_4 1048576).bind fun t714 => (if t714 < 0 then (some true) else ((laws_toSession.f k a0_0 a0_1 l0_2 l0_3 l0_4).bind fun bt715 => ((spec_RedoAct.f k bt715.1 bt715.2.1 bt715.2.2.1 bt715.2.2.2.1 bt715.2.2.2.2).bind fun bt726 => ((laws_toSession.f k a0_0 a0_1 l0_2 l0_3 l0_4).bind fun bt739 => ((impl_RedoAct.f k bt739.1 bt739.2.1 bt739.2.2.1 bt739.2.2.2.1 bt739.2.2.2.2).bind fun bt751 => ((laws_eqSession.f k bt751.1 bt751.2.1 bt751.2.2.1 bt751.2.2.2.1 bt751.2.2.2.2.1 bt726.1 bt726.2.1 bt726.2.2.1 bt726.2.2.2.1 bt726.2.2.2.2.1).bind fun t764 => (if t764 = true then (laws_FnExactRedoAct.j0 k bt726.2.2.2.2.2 bt751.2.2.2.2.2 (bt751.2.2.2.2.2 != bt726.2.2.2.2.2) a0_0 a0_1 l0_2 l0_3 l0_4 bt726.1 bt726.2.1 bt726.2.2.1 bt726.2.2.2.1 bt726.2.2.2.2.1 bt739.1 bt739.2.1 bt739.2.2.1 bt739.2.2.2.1 bt739.2.2.2.2 bt751.1 bt751.2.1 bt751.2.2.1 bt751.2.2.2.1 bt751.2.2.2.2.1) else (laws_FnExactRedoAct.j0 k bt726.2.2.2.2.2 bt751.2.2.2.2.2 true a0_0 a0_1 l0_2 l0_3 l0_4 bt726.1 bt726.2.1 bt726.2.2.1 bt726.2.2.2.1 bt726.2.2.2.2.1 bt739.1 bt739.2.1 bt739.2.2.1 bt739.2.2.2.1 bt739.2.2.2.2 bt751.1 bt751.2.1 bt751.2.2.1 bt751.2.2.2.1 bt751.2.2.2.2.1))))))))) = some r := h
 clear h
 obtain ⟨t714, A2, H⟩ := bindq H
 try dsimp only at H
 by_cases c3 : t714 < 0
 ·rw [if_pos c3] at H
  have c3b0 : decide (t714 < 0) = true := decide_eq_true c3
  clear c3
  obtain rfl := Option.some.inj H
  go_enter Try.func6, Try.ntmps6
  go_wp2_with (first | ((with_reducible refine gate_dst (N := 1) rfl ?_); refine box_event ?hg (N := 1) ?hd (cs := #[.int .i64 a0_0, .int .i64 a0_1, .slice A0_2 l0_2.length c0_2, .slice A0_3 l0_3.length c0_3, .slice A0_4 l0_4.length c0_4]) (t := 27) ?hr ?_; (case hd => rfl); (case hg => rfl); (case hr => first | (go_simp; done) | (go_simp; rfl)); intro gb713 hg w4 hbox hb; have BK713 := Aside0.mk (hbox); have GE713 := Aside0.mk (gq hg); replace HB := sb hb; clear hb hbox hg; have ⟨hcz5_0, hcz5_1, hcz5_2, hcz5_3, hcz5_4, hfz5_0, hfz5_1, hfz5_2, hfz5_3, hfz5_4⟩ := bc5 BK713) | ((with_reducible refine gate_callee (f := 14) rfl ?_); refine goesQ (some 16) Try.func14 #[.agg #[.int .i64 a0_0, .int .i64 a0_1, .slice A0_2 l0_2.length c0_2, .slice A0_3 l0_3.length c0_3, .slice A0_4 l0_4.length c0_4], .int .i64 1048576] ?_; (with_reducible refine (laws_szSession.calls a0_0 a0_1 _ _ l0_2 _ _ l0_3 _ _ l0_4 1048576 t714 _ ?s1 ?s2 ?s3 ?s4 ?s5 ?s6 A2.out).mono ?_); (case s1 => exact cq (Kd.C_below HR0_2.out HB.out)); (case s2 => exact HC0_2.out); (case s3 => exact cq (Kd.C_below HR0_3.out HB.out)); (case s4 => exact HC0_3.out); (case s5 => exact cq (Kd.C_below HR0_4.out HB.out)); (case s6 => exact HC0_4.out); rintro e w6 ⟨rfl, hb⟩; refine ⟨_, rfl, ?_⟩; replace BK713 := zb BK713 hb; replace HB := sb hb; (try clear hb)))
  go_ret
  exact ⟨eq_, bq⟩
 ·rw [if_neg c3] at H
  have c3b0 : decide (t714 < 0) = false := decide_eq_false c3
  clear c3
  obtain ⟨⟨t715, t716, t717, t720, t723⟩, A7, H⟩ := bindq H
  try dsimp only at H
  obtain ⟨⟨t726, t727, t728, t731, t734, t737⟩, A8, H⟩ := bindq H
  try dsimp only at H
  obtain ⟨⟨t739, t740, t741, t744, t747⟩, A9, H⟩ := bindq H
  try dsimp only at H
  obtain ⟨⟨t751, t752, t753, t756, t759, t762⟩, A10, H⟩ := bindq H
  try dsimp only at H
  have HC11 := Aside0.mk H
  clear H
  go_enter Try.func6, Try.ntmps6
  go_upto_region 8 with (first | ((with_reducible refine gate_dst (N := 1) rfl ?_); refine box_event ?hg (N := 1) ?hd (cs := #[.int .i64 a0_0, .int .i64 a0_1, .slice A0_2 l0_2.length c0_2, .slice A0_3 l0_3.length c0_3, .slice A0_4 l0_4.length c0_4]) (t := 27) ?hr ?_; (case hd => rfl); (case hg => rfl); (case hr => first | (go_simp; done) | (go_simp; rfl)); intro gb713 hg w12 hbox hb; have BK713 := Aside0.mk (hbox); have GE713 := Aside0.mk (gq hg); replace HB := sb hb; clear hb hbox hg; have ⟨hcz13_0, hcz13_1, hcz13_2, hcz13_3, hcz13_4, hfz13_0, hfz13_1, hfz13_2, hfz13_3, hfz13_4⟩ := bc5 BK713) | ((with_reducible refine gate_callee (f := 14) rfl ?_); refine goesQ (some 16) Try.func14 #[.agg #[.int .i64 a0_0, .int .i64 a0_1, .slice A0_2 l0_2.length c0_2, .slice A0_3 l0_3.length c0_3, .slice A0_4 l0_4.length c0_4], .int .i64 1048576] ?_; (with_reducible refine (laws_szSession.calls a0_0 a0_1 _ _ l0_2 _ _ l0_3 _ _ l0_4 1048576 t714 _ ?s1 ?s2 ?s3 ?s4 ?s5 ?s6 A2.out).mono ?_); (case s1 => exact cq (Kd.C_below HR0_2.out HB.out)); (case s2 => exact HC0_2.out); (case s3 => exact cq (Kd.C_below HR0_3.out HB.out)); (case s4 => exact HC0_3.out); (case s5 => exact cq (Kd.C_below HR0_4.out HB.out)); (case s6 => exact HC0_4.out); rintro e w14 ⟨rfl, hb⟩; refine ⟨_, rfl, ?_⟩; replace BK713 := zb BK713 hb; replace HB := sb hb; (try clear hb); have ⟨hcz15_0, hcz15_1, hcz15_2, hcz15_3, hcz15_4, hfz15_0, hfz15_1, hfz15_2, hfz15_3, hfz15_4⟩ := bc5 BK713) | ((with_reducible refine gate_callee (f := 16) rfl ?_); refine goesQ (some 21) Try.func16 #[.agg #[.int .i64 a0_0, .int .i64 a0_1, .slice A0_2 l0_2.length c0_2, .slice A0_3 l0_3.length c0_3, .slice A0_4 l0_4.length c0_4]] ?_; (with_reducible refine (laws_toSession.calls k a0_0 a0_1 _ _ l0_2 _ _ l0_3 _ _ l0_4 t715 t716 t717 t720 t723 _ ?s1 ?s2 ?s3 ?s4 ?s5 ?s6 A7.out).mono ?_); (case s1 => exact cq (Kd.C_below HR0_2.out HB.out)); (case s2 => exact HC0_2.out); (case s3 => exact cq (Kd.C_below HR0_3.out HB.out)); (case s4 => exact HC0_3.out); (case s5 => exact cq (Kd.C_below HR0_4.out HB.out)); (case s6 => exact HC0_4.out); rintro e w16 ⟨v718, v721, v724, rfl, ho0, ho1, ho2, hb⟩; refine ⟨_, rfl, ?_⟩; have HO719 := rl ho0; have HO722 := rl ho1; have HO725 := rl ho2; replace BK713 := zb BK713 hb; replace HB := sb hb; (try clear hb ho0 ho1 ho2); obtain ⟨Ao17, co17, eo17⟩ := Kd.R_slice HO719.out; subst eo17; obtain ⟨Ao18, co18, eo18⟩ := Kd.R_slice HO722.out; subst eo18; obtain ⟨Ao19, co19, eo19⟩ := Kd.R_slice HO725.out; subst eo19) | ((with_reducible refine gate_callee (f := 32) rfl ?_); refine goesQ (some 22) Try.func32 #[.agg #[.int .i64 t715, .int .i64 t716, .slice Ao17 t717.length co17, .slice Ao18 t720.length co18, .slice Ao19 t723.length co19]] ?_; (with_reducible refine (spec_RedoAct.calls k t715 t716 _ _ t717 _ _ t720 _ _ t723 t726 t727 t728 t731 t734 t737 _ ?s1 ?s2 ?s3 ?s4 ?s5 ?s6 A8.out).mono ?_); (case s1 => exact cr HO719); (case s2 => exact r1 HO719); (case s3 => exact cr HO722); (case s4 => exact r1 HO722); (case s5 => exact cr HO725); (case s6 => exact r1 HO725); rintro e w20 ⟨v729, v732, v735, rfl, ho0, ho1, ho2, hb⟩; refine ⟨_, rfl, ?_⟩; have HO730 := Aside0.mk (Kd.R_lower (Kd.R_new' ho0 (Kd.R_lt (rq HO719))) (below_size bq)); replace HO719 := Aside0.mk (Kd.R_elder' (rq HO719) (Kd.R_base ho0) hb); have HO733 := Aside0.mk (Kd.R_lower (Kd.R_new' (Kd.R_new' ho1 (Kd.R_lt (rq HO722))) (Kd.R_lt (rq HO725))) (below_size bq)); have HO736 := Aside0.mk (Kd.R_lower (Kd.R_new' (Kd.R_new' ho2 (Kd.R_lt (rq HO722))) (Kd.R_lt (rq HO725))) (below_size bq)); replace HO722 := Aside0.mk (Kd.R_mono (Kd.R_told (Kd.R_told (Kd.R_old (rq HO722) hb) (Kd.R_base ho1)) (Kd.R_base ho2)) (fun _ h_ => h_.1)); replace HO725 := Aside0.mk (Kd.R_mono (Kd.R_told (Kd.R_told (Kd.R_old (rq HO725) hb) (Kd.R_base ho1)) (Kd.R_base ho2)) (fun _ h_ => h_.1)); replace BK713 := zb BK713 hb; replace HB := sb hb; (try clear hb ho0 ho1 ho2)) | ((with_reducible refine gate_dst (N := 4) rfl ?_); refine box_event ?hg (N := 4) ?hd (cs := #[.int .i64 0, .int .i64 0, .slice none 0 0, .slice none 0 0, .slice none 0 0]) (t := 35) ?hr ?_; (case hd => rfl); (case hg => rfl); (case hr => first | (go_simp; done) | (go_simp; rfl)); intro gb738 hg w21 hbox hb; replace HO719 := rb HO719 hb; replace HO722 := rb HO722 hb; replace HO725 := rb HO725 hb; replace HO730 := rb HO730 hb; replace HO733 := rb HO733 hb; replace HO736 := rb HO736 hb; have BK738 := Aside0.mk (hbox); have GE738 := Aside0.mk (gq hg); replace HB := sb hb; have NB713_738 := nl hg BK713; have NB738_713 := ng hg BK713; replace BK713 := zb BK713 hb; clear hb hbox hg; have hnb22 := NB738_713.out; have hnc22 := NB713_738.out; have ⟨hcz23_0, hcz23_1, hcz23_2, hcz23_3, hcz23_4, hfz23_0, hfz23_1, hfz23_2, hfz23_3, hfz23_4⟩ := bc5 BK738; obtain ⟨Ao24, co24, eo24⟩ := Kd.R_slice HO730.out; subst eo24; obtain ⟨Ao25, co25, eo25⟩ := Kd.R_slice HO733.out; subst eo25; obtain ⟨Ao26, co26, eo26⟩ := Kd.R_slice HO736.out; subst eo26; have ⟨hcz27_0, hcz27_1, hcz27_2, hcz27_3, hcz27_4, hfz27_0, hfz27_1, hfz27_2, hfz27_3, hfz27_4⟩ := bc5 BK713) | ((with_reducible refine gate_callee (f := 16) rfl ?_); refine goesQ (some 26) Try.func16 #[.agg #[.int .i64 a0_0, .int .i64 a0_1, .slice A0_2 l0_2.length c0_2, .slice A0_3 l0_3.length c0_3, .slice A0_4 l0_4.length c0_4]] ?_; (with_reducible refine (laws_toSession.calls k a0_0 a0_1 _ _ l0_2 _ _ l0_3 _ _ l0_4 t739 t740 t741 t744 t747 _ ?s1 ?s2 ?s3 ?s4 ?s5 ?s6 A9.out).mono ?_); (case s1 => exact Kd.C_below HR0_2.out bq); (case s2 => exact HC0_2.out); (case s3 => exact Kd.C_below HR0_3.out bq); (case s4 => exact HC0_3.out); (case s5 => exact Kd.C_below HR0_4.out bq); (case s6 => exact HC0_4.out); rintro e w28 ⟨v742, v745, v748, rfl, ho0, ho1, ho2, hb⟩; refine ⟨_, rfl, ?_⟩; have HO743 := Aside0.mk (Kd.R_lower (Kd.R_new' (Kd.R_new' ho0 (Kd.R_lt (by (with_reducible repeat (first | apply Kd.R_alloc | apply Kd.R_drewN | apply Kd.R_drew)); exact (Kd.R_mono (Kd.R_far (p := ⟨gb738, 4, none⟩) (Kd.R_far (p := ⟨gb738, 3, none⟩) (Kd.R_far (p := ⟨gb738, 2, none⟩) (Kd.R_far (p := ⟨gb738, 1, none⟩) (Kd.R_far (p := ⟨gb738, 0, none⟩) (Kd.R_types HO719.out BK738.out (by decide)) (fun _ hk => hk.2) (.int .i64 t726)) (fun _ hk => hk.2) (.int .i64 t727)) (fun _ hk => hk.2) (.slice Ao24 t728.length co24)) (fun _ hk => hk.2) (.slice Ao25 t731.length co25)) (fun _ hk => hk.2) (.slice Ao26 t734.length co26)) (fun _ h_ => h_.1))))) (Kd.R_lt (by (with_reducible repeat (first | apply Kd.R_alloc | apply Kd.R_drewN | apply Kd.R_drew)); exact (Kd.R_mono (Kd.R_far (p := ⟨gb738, 4, none⟩) (Kd.R_far (p := ⟨gb738, 3, none⟩) (Kd.R_far (p := ⟨gb738, 2, none⟩) (Kd.R_far (p := ⟨gb738, 1, none⟩) (Kd.R_far (p := ⟨gb738, 0, none⟩) (Kd.R_types HO730.out BK738.out (by decide)) (fun _ hk => hk.2) (.int .i64 t726)) (fun _ hk => hk.2) (.int .i64 t727)) (fun _ hk => hk.2) (.slice Ao24 t728.length co24)) (fun _ hk => hk.2) (.slice Ao25 t731.length co25)) (fun _ hk => hk.2) (.slice Ao26 t734.length co26)) (fun _ h_ => h_.1))))) (below_size bq)); replace HO719 := Aside0.mk (Kd.R_elder' (by (with_reducible repeat (first | apply Kd.R_alloc | apply Kd.R_drewN | apply Kd.R_drew)); exact (Kd.R_mono (Kd.R_far (p := ⟨gb738, 4, none⟩) (Kd.R_far (p := ⟨gb738, 3, none⟩) (Kd.R_far (p := ⟨gb738, 2, none⟩) (Kd.R_far (p := ⟨gb738, 1, none⟩) (Kd.R_far (p := ⟨gb738, 0, none⟩) (Kd.R_types HO719.out BK738.out (by decide)) (fun _ hk => hk.2) (.int .i64 t726)) (fun _ hk => hk.2) (.int .i64 t727)) (fun _ hk => hk.2) (.slice Ao24 t728.length co24)) (fun _ hk => hk.2) (.slice Ao25 t731.length co25)) (fun _ hk => hk.2) (.slice Ao26 t734.length co26)) (fun _ h_ => h_.1))) (Kd.R_base ho0) hb); replace HO730 := Aside0.mk (Kd.R_elder' (by (with_reducible repeat (first | apply Kd.R_alloc | apply Kd.R_drewN | apply Kd.R_drew)); exact (Kd.R_mono (Kd.R_far (p := ⟨gb738, 4, none⟩) (Kd.R_far (p := ⟨gb738, 3, none⟩) (Kd.R_far (p := ⟨gb738, 2, none⟩) (Kd.R_far (p := ⟨gb738, 1, none⟩) (Kd.R_far (p := ⟨gb738, 0, none⟩) (Kd.R_types HO730.out BK738.out (by decide)) (fun _ hk => hk.2) (.int .i64 t726)) (fun _ hk => hk.2) (.int .i64 t727)) (fun _ hk => hk.2) (.slice Ao24 t728.length co24)) (fun _ hk => hk.2) (.slice Ao25 t731.length co25)) (fun _ hk => hk.2) (.slice Ao26 t734.length co26)) (fun _ h_ => h_.1))) (Kd.R_base ho0) hb); have HO746 := Aside0.mk (Kd.R_lower (Kd.R_new' (Kd.R_new' (Kd.R_new' (Kd.R_new' ho1 (Kd.R_lt (by (with_reducible repeat (first | apply Kd.R_alloc | apply Kd.R_drewN | apply Kd.R_drew)); exact (Kd.R_mono (Kd.R_far (p := ⟨gb738, 4, none⟩) (Kd.R_far (p := ⟨gb738, 3, none⟩) (Kd.R_far (p := ⟨gb738, 2, none⟩) (Kd.R_far (p := ⟨gb738, 1, none⟩) (Kd.R_far (p := ⟨gb738, 0, none⟩) (Kd.R_types HO722.out BK738.out (by decide)) (fun _ hk => hk.2) (.int .i64 t726)) (fun _ hk => hk.2) (.int .i64 t727)) (fun _ hk => hk.2) (.slice Ao24 t728.length co24)) (fun _ hk => hk.2) (.slice Ao25 t731.length co25)) (fun _ hk => hk.2) (.slice Ao26 t734.length co26)) (fun _ h_ => h_.1))))) (Kd.R_lt (by (with_reducible repeat (first | apply Kd.R_alloc | apply Kd.R_drewN | apply Kd.R_drew)); exact (Kd.R_mono (Kd.R_far (p := ⟨gb738, 4, none⟩) (Kd.R_far (p := ⟨gb738, 3, none⟩) (Kd.R_far (p := ⟨gb738, 2, none⟩) (Kd.R_far (p := ⟨gb738, 1, none⟩) (Kd.R_far (p := ⟨gb738, 0, none⟩) (Kd.R_types HO725.out BK738.out (by decide)) (fun _ hk => hk.2) (.int .i64 t726)) (fun _ hk => hk.2) (.int .i64 t727)) (fun _ hk => hk.2) (.slice Ao24 t728.length co24)) (fun _ hk => hk.2) (.slice Ao25 t731.length co25)) (fun _ hk => hk.2) (.slice Ao26 t734.length co26)) (fun _ h_ => h_.1))))) (Kd.R_lt (by (with_reducible repeat (first | apply Kd.R_alloc | apply Kd.R_drewN | apply Kd.R_drew)); exact (Kd.R_mono (Kd.R_far (p := ⟨gb738, 4, none⟩) (Kd.R_far (p := ⟨gb738, 3, none⟩) (Kd.R_far (p := ⟨gb738, 2, none⟩) (Kd.R_far (p := ⟨gb738, 1, none⟩) (Kd.R_far (p := ⟨gb738, 0, none⟩) (Kd.R_types HO733.out BK738.out (by decide)) (fun _ hk => hk.2) (.int .i64 t726)) (fun _ hk => hk.2) (.int .i64 t727)) (fun _ hk => hk.2) (.slice Ao24 t728.length co24)) (fun _ hk => hk.2) (.slice Ao25 t731.length co25)) (fun _ hk => hk.2) (.slice Ao26 t734.length co26)) (fun _ h_ => h_.1))))) (Kd.R_lt (by (with_reducible repeat (first | apply Kd.R_alloc | apply Kd.R_drewN | apply Kd.R_drew)); exact (Kd.R_mono (Kd.R_far (p := ⟨gb738, 4, none⟩) (Kd.R_far (p := ⟨gb738, 3, none⟩) (Kd.R_far (p := ⟨gb738, 2, none⟩) (Kd.R_far (p := ⟨gb738, 1, none⟩) (Kd.R_far (p := ⟨gb738, 0, none⟩) (Kd.R_types HO736.out BK738.out (by decide)) (fun _ hk => hk.2) (.int .i64 t726)) (fun _ hk => hk.2) (.int .i64 t727)) (fun _ hk => hk.2) (.slice Ao24 t728.length co24)) (fun _ hk => hk.2) (.slice Ao25 t731.length co25)) (fun _ hk => hk.2) (.slice Ao26 t734.length co26)) (fun _ h_ => h_.1))))) (below_size bq)); have HO749 := Aside0.mk (Kd.R_lower (Kd.R_new' (Kd.R_new' (Kd.R_new' (Kd.R_new' ho2 (Kd.R_lt (by (with_reducible repeat (first | apply Kd.R_alloc | apply Kd.R_drewN | apply Kd.R_drew)); exact (Kd.R_mono (Kd.R_far (p := ⟨gb738, 4, none⟩) (Kd.R_far (p := ⟨gb738, 3, none⟩) (Kd.R_far (p := ⟨gb738, 2, none⟩) (Kd.R_far (p := ⟨gb738, 1, none⟩) (Kd.R_far (p := ⟨gb738, 0, none⟩) (Kd.R_types HO722.out BK738.out (by decide)) (fun _ hk => hk.2) (.int .i64 t726)) (fun _ hk => hk.2) (.int .i64 t727)) (fun _ hk => hk.2) (.slice Ao24 t728.length co24)) (fun _ hk => hk.2) (.slice Ao25 t731.length co25)) (fun _ hk => hk.2) (.slice Ao26 t734.length co26)) (fun _ h_ => h_.1))))) (Kd.R_lt (by (with_reducible repeat (first | apply Kd.R_alloc | apply Kd.R_drewN | apply Kd.R_drew)); exact (Kd.R_mono (Kd.R_far (p := ⟨gb738, 4, none⟩) (Kd.R_far (p := ⟨gb738, 3, none⟩) (Kd.R_far (p := ⟨gb738, 2, none⟩) (Kd.R_far (p := ⟨gb738, 1, none⟩) (Kd.R_far (p := ⟨gb738, 0, none⟩) (Kd.R_types HO725.out BK738.out (by decide)) (fun _ hk => hk.2) (.int .i64 t726)) (fun _ hk => hk.2) (.int .i64 t727)) (fun _ hk => hk.2) (.slice Ao24 t728.length co24)) (fun _ hk => hk.2) (.slice Ao25 t731.length co25)) (fun _ hk => hk.2) (.slice Ao26 t734.length co26)) (fun _ h_ => h_.1))))) (Kd.R_lt (by (with_reducible repeat (first | apply Kd.R_alloc | apply Kd.R_drewN | apply Kd.R_drew)); exact (Kd.R_mono (Kd.R_far (p := ⟨gb738, 4, none⟩) (Kd.R_far (p := ⟨gb738, 3, none⟩) (Kd.R_far (p := ⟨gb738, 2, none⟩) (Kd.R_far (p := ⟨gb738, 1, none⟩) (Kd.R_far (p := ⟨gb738, 0, none⟩) (Kd.R_types HO733.out BK738.out (by decide)) (fun _ hk => hk.2) (.int .i64 t726)) (fun _ hk => hk.2) (.int .i64 t727)) (fun _ hk => hk.2) (.slice Ao24 t728.length co24)) (fun _ hk => hk.2) (.slice Ao25 t731.length co25)) (fun _ hk => hk.2) (.slice Ao26 t734.length co26)) (fun _ h_ => h_.1))))) (Kd.R_lt (by (with_reducible repeat (first | apply Kd.R_alloc | apply Kd.R_drewN | apply Kd.R_drew)); exact (Kd.R_mono (Kd.R_far (p := ⟨gb738, 4, none⟩) (Kd.R_far (p := ⟨gb738, 3, none⟩) (Kd.R_far (p := ⟨gb738, 2, none⟩) (Kd.R_far (p := ⟨gb738, 1, none⟩) (Kd.R_far (p := ⟨gb738, 0, none⟩) (Kd.R_types HO736.out BK738.out (by decide)) (fun _ hk => hk.2) (.int .i64 t726)) (fun _ hk => hk.2) (.int .i64 t727)) (fun _ hk => hk.2) (.slice Ao24 t728.length co24)) (fun _ hk => hk.2) (.slice Ao25 t731.length co25)) (fun _ hk => hk.2) (.slice Ao26 t734.length co26)) (fun _ h_ => h_.1))))) (below_size bq)); replace HO722 := Aside0.mk (Kd.R_mono (Kd.R_told (Kd.R_told (Kd.R_old (by (with_reducible repeat (first | apply Kd.R_alloc | apply Kd.R_drewN | apply Kd.R_drew)); exact (Kd.R_mono (Kd.R_far (p := ⟨gb738, 4, none⟩) (Kd.R_far (p := ⟨gb738, 3, none⟩) (Kd.R_far (p := ⟨gb738, 2, none⟩) (Kd.R_far (p := ⟨gb738, 1, none⟩) (Kd.R_far (p := ⟨gb738, 0, none⟩) (Kd.R_types HO722.out BK738.out (by decide)) (fun _ hk => hk.2) (.int .i64 t726)) (fun _ hk => hk.2) (.int .i64 t727)) (fun _ hk => hk.2) (.slice Ao24 t728.length co24)) (fun _ hk => hk.2) (.slice Ao25 t731.length co25)) (fun _ hk => hk.2) (.slice Ao26 t734.length co26)) (fun _ h_ => h_.1))) hb) (Kd.R_base ho1)) (Kd.R_base ho2)) (fun _ h_ => h_.1)); replace HO725 := Aside0.mk (Kd.R_mono (Kd.R_told (Kd.R_told (Kd.R_old (by (with_reducible repeat (first | apply Kd.R_alloc | apply Kd.R_drewN | apply Kd.R_drew)); exact (Kd.R_mono (Kd.R_far (p := ⟨gb738, 4, none⟩) (Kd.R_far (p := ⟨gb738, 3, none⟩) (Kd.R_far (p := ⟨gb738, 2, none⟩) (Kd.R_far (p := ⟨gb738, 1, none⟩) (Kd.R_far (p := ⟨gb738, 0, none⟩) (Kd.R_types HO725.out BK738.out (by decide)) (fun _ hk => hk.2) (.int .i64 t726)) (fun _ hk => hk.2) (.int .i64 t727)) (fun _ hk => hk.2) (.slice Ao24 t728.length co24)) (fun _ hk => hk.2) (.slice Ao25 t731.length co25)) (fun _ hk => hk.2) (.slice Ao26 t734.length co26)) (fun _ h_ => h_.1))) hb) (Kd.R_base ho1)) (Kd.R_base ho2)) (fun _ h_ => h_.1)); replace HO733 := Aside0.mk (Kd.R_mono (Kd.R_told (Kd.R_told (Kd.R_old (by (with_reducible repeat (first | apply Kd.R_alloc | apply Kd.R_drewN | apply Kd.R_drew)); exact (Kd.R_mono (Kd.R_far (p := ⟨gb738, 4, none⟩) (Kd.R_far (p := ⟨gb738, 3, none⟩) (Kd.R_far (p := ⟨gb738, 2, none⟩) (Kd.R_far (p := ⟨gb738, 1, none⟩) (Kd.R_far (p := ⟨gb738, 0, none⟩) (Kd.R_types HO733.out BK738.out (by decide)) (fun _ hk => hk.2) (.int .i64 t726)) (fun _ hk => hk.2) (.int .i64 t727)) (fun _ hk => hk.2) (.slice Ao24 t728.length co24)) (fun _ hk => hk.2) (.slice Ao25 t731.length co25)) (fun _ hk => hk.2) (.slice Ao26 t734.length co26)) (fun _ h_ => h_.1))) hb) (Kd.R_base ho1)) (Kd.R_base ho2)) (fun _ h_ => h_.1)); replace HO736 := Aside0.mk (Kd.R_mono (Kd.R_told (Kd.R_told (Kd.R_old (by (with_reducible repeat (first | apply Kd.R_alloc | apply Kd.R_drewN | apply Kd.R_drew)); exact (Kd.R_mono (Kd.R_far (p := ⟨gb738, 4, none⟩) (Kd.R_far (p := ⟨gb738, 3, none⟩) (Kd.R_far (p := ⟨gb738, 2, none⟩) (Kd.R_far (p := ⟨gb738, 1, none⟩) (Kd.R_far (p := ⟨gb738, 0, none⟩) (Kd.R_types HO736.out BK738.out (by decide)) (fun _ hk => hk.2) (.int .i64 t726)) (fun _ hk => hk.2) (.int .i64 t727)) (fun _ hk => hk.2) (.slice Ao24 t728.length co24)) (fun _ hk => hk.2) (.slice Ao25 t731.length co25)) (fun _ hk => hk.2) (.slice Ao26 t734.length co26)) (fun _ h_ => h_.1))) hb) (Kd.R_base ho1)) (Kd.R_base ho2)) (fun _ h_ => h_.1)); replace BK713 := Aside0.mk (blk_below (g := gb713) (o := .cells #[.int .i64 a0_0, .int .i64 a0_1, .slice A0_2 l0_2.length c0_2, .slice A0_3 l0_3.length c0_3, .slice A0_4 l0_4.length c0_4] 27 (0, 0)) (by (with_reducible repeat (first | refine blk_drewN ?_ _ | refine blk_drew ?_ | refine blk_alloc ?_ _)); refine blk_far ?_ NB713_738.out _; (with_reducible repeat (first | refine blk_drewN ?_ _ | refine blk_drew ?_ | refine blk_alloc ?_ _)); refine blk_far ?_ NB713_738.out _; (with_reducible repeat (first | refine blk_drewN ?_ _ | refine blk_drew ?_ | refine blk_alloc ?_ _)); refine blk_far ?_ NB713_738.out _; (with_reducible repeat (first | refine blk_drewN ?_ _ | refine blk_drew ?_ | refine blk_alloc ?_ _)); refine blk_far ?_ NB713_738.out _; (with_reducible repeat (first | refine blk_drewN ?_ _ | refine blk_drew ?_ | refine blk_alloc ?_ _)); refine blk_far ?_ NB713_738.out _; (with_reducible repeat (first | refine blk_drewN ?_ _ | refine blk_drew ?_ | refine blk_alloc ?_ _)); exact BK713.out) hb); replace BK738 := Aside0.mk (blk_below (g := gb738) (o := .cells #[.int .i64 t726, .int .i64 t727, .slice Ao24 t728.length co24, .slice Ao25 t731.length co25, .slice Ao26 t734.length co26] 35 (0, 0)) (by (with_reducible repeat (first | refine blk_drewN ?_ _ | refine blk_drew ?_ | refine blk_alloc ?_ _)); refine blk_put (cs := #[.int .i64 t726, .int .i64 t727, .slice Ao24 t728.length co24, .slice Ao25 t731.length co25, .slice none 0 0]) ?_ 4 _ rfl; (with_reducible repeat (first | refine blk_drewN ?_ _ | refine blk_drew ?_ | refine blk_alloc ?_ _)); refine blk_put (cs := #[.int .i64 t726, .int .i64 t727, .slice Ao24 t728.length co24, .slice none 0 0, .slice none 0 0]) ?_ 3 _ rfl; (with_reducible repeat (first | refine blk_drewN ?_ _ | refine blk_drew ?_ | refine blk_alloc ?_ _)); refine blk_put (cs := #[.int .i64 t726, .int .i64 t727, .slice none 0 0, .slice none 0 0, .slice none 0 0]) ?_ 2 _ rfl; (with_reducible repeat (first | refine blk_drewN ?_ _ | refine blk_drew ?_ | refine blk_alloc ?_ _)); refine blk_put (cs := #[.int .i64 t726, .int .i64 0, .slice none 0 0, .slice none 0 0, .slice none 0 0]) ?_ 1 _ rfl; (with_reducible repeat (first | refine blk_drewN ?_ _ | refine blk_drew ?_ | refine blk_alloc ?_ _)); refine blk_put (cs := #[.int .i64 0, .int .i64 0, .slice none 0 0, .slice none 0 0, .slice none 0 0]) ?_ 0 _ rfl; (with_reducible repeat (first | refine blk_drewN ?_ _ | refine blk_drew ?_ | refine blk_alloc ?_ _)); exact BK738.out) hb); replace HB := sb hb; (try clear hb hb2 hk hi ho0 ho1 ho2)) | ((with_reducible refine gate_dst (N := 6) rfl ?_); refine box_event ?hg (N := 6) ?hd (cs := #[.int .i64 0, .int .i64 0, .slice none 0 0, .slice none 0 0, .slice none 0 0]) (t := 35) ?hr ?_; (case hd => rfl); (case hg => rfl); (case hr => first | (go_simp; done) | (go_simp; rfl)); intro gb750 hg w29 hbox hb; replace HO719 := rb HO719 hb; replace HO722 := rb HO722 hb; replace HO725 := rb HO725 hb; replace HO730 := rb HO730 hb; replace HO733 := rb HO733 hb; replace HO736 := rb HO736 hb; replace HO743 := rb HO743 hb; replace HO746 := rb HO746 hb; replace HO749 := rb HO749 hb; have BK750 := Aside0.mk (hbox); have GE750 := Aside0.mk (gq hg); replace HB := sb hb; have NB713_750 := nl hg BK713; have NB750_713 := ng hg BK713; replace BK713 := zb BK713 hb; have NB738_750 := nl hg BK738; have NB750_738 := ng hg BK738; replace BK738 := zb BK738 hb; clear hb hbox hg; have hnb30 := NB750_713.out; have hnc30 := NB713_750.out; have hnb31 := NB750_738.out; have hnc31 := NB738_750.out; have ⟨hcz32_0, hcz32_1, hcz32_2, hcz32_3, hcz32_4, hfz32_0, hfz32_1, hfz32_2, hfz32_3, hfz32_4⟩ := bc5 BK750; obtain ⟨Ao33, co33, eo33⟩ := Kd.R_slice HO743.out; subst eo33; obtain ⟨Ao34, co34, eo34⟩ := Kd.R_slice HO746.out; subst eo34; obtain ⟨Ao35, co35, eo35⟩ := Kd.R_slice HO749.out; subst eo35) | ((with_reducible refine gate_callee (f := 33) rfl ?_); refine goesQ (some 29) Try.func33 #[.agg #[.int .i64 t739, .int .i64 t740, .slice Ao33 t741.length co33, .slice Ao34 t744.length co34, .slice Ao35 t747.length co35]] ?_; (with_reducible refine (impl_RedoAct.calls k t739 t740 _ _ t741 _ _ t744 _ _ t747 t751 t752 t753 t756 t759 t762 _ ?s1 ?s2 ?s3 ?s4 ?s5 ?s6 A10.out).mono ?_); (case s1 => refine (Kd.R_reads' (e := 58) (base := w.heap.size) (ok := fun k_ => ((True ∧ some k_ ≠ (.slice Ao17 t717.length co17 : Value).ownBlock) ∧ some k_ ≠ (.slice Ao24 t728.length co24 : Value).ownBlock)) (n := t741.length) (c := co33) ?_).2.2; exact (by (with_reducible repeat (first | apply Kd.R_alloc | apply Kd.R_drewN | apply Kd.R_drew)); exact (Kd.R_mono (Kd.R_far (p := ⟨gb750, 4, none⟩) (Kd.R_far (p := ⟨gb750, 3, none⟩) (Kd.R_far (p := ⟨gb750, 2, none⟩) (Kd.R_far (p := ⟨gb750, 1, none⟩) (Kd.R_far (p := ⟨gb750, 0, none⟩) (Kd.R_types HO743.out BK750.out (by decide)) (fun _ hk => hk.2) (.int .i64 t739)) (fun _ hk => hk.2) (.int .i64 t740)) (fun _ hk => hk.2) (.slice Ao33 t741.length co33)) (fun _ hk => hk.2) (.slice Ao34 t744.length co34)) (fun _ hk => hk.2) (.slice Ao35 t747.length co35)) (fun _ h_ => h_.1)))); (case s2 => exact r1 HO743); (case s3 => refine (Kd.R_reads' (e := 60) (base := w.heap.size) (ok := fun k_ => ((((some k_ ≠ (.slice Ao35 t747.length co35 : Value).ownBlock ∧ some k_ ≠ (.slice Ao18 t720.length co18 : Value).ownBlock) ∧ some k_ ≠ (.slice Ao19 t723.length co19 : Value).ownBlock) ∧ some k_ ≠ (.slice Ao25 t731.length co25 : Value).ownBlock) ∧ some k_ ≠ (.slice Ao26 t734.length co26 : Value).ownBlock)) (n := t744.length) (c := co34) ?_).2.2; exact (by (with_reducible repeat (first | apply Kd.R_alloc | apply Kd.R_drewN | apply Kd.R_drew)); exact (Kd.R_mono (Kd.R_far (p := ⟨gb750, 4, none⟩) (Kd.R_far (p := ⟨gb750, 3, none⟩) (Kd.R_far (p := ⟨gb750, 2, none⟩) (Kd.R_far (p := ⟨gb750, 1, none⟩) (Kd.R_far (p := ⟨gb750, 0, none⟩) (Kd.R_types HO746.out BK750.out (by decide)) (fun _ hk => hk.2) (.int .i64 t739)) (fun _ hk => hk.2) (.int .i64 t740)) (fun _ hk => hk.2) (.slice Ao33 t741.length co33)) (fun _ hk => hk.2) (.slice Ao34 t744.length co34)) (fun _ hk => hk.2) (.slice Ao35 t747.length co35)) (fun _ h_ => h_.1)))); (case s4 => exact r1 HO746); (case s5 => refine (Kd.R_reads' (e := 60) (base := w.heap.size) (ok := fun k_ => ((((some k_ ≠ (.slice Ao34 t744.length co34 : Value).ownBlock ∧ some k_ ≠ (.slice Ao18 t720.length co18 : Value).ownBlock) ∧ some k_ ≠ (.slice Ao19 t723.length co19 : Value).ownBlock) ∧ some k_ ≠ (.slice Ao25 t731.length co25 : Value).ownBlock) ∧ some k_ ≠ (.slice Ao26 t734.length co26 : Value).ownBlock)) (n := t747.length) (c := co35) ?_).2.2; exact (by (with_reducible repeat (first | apply Kd.R_alloc | apply Kd.R_drewN | apply Kd.R_drew)); exact (Kd.R_mono (Kd.R_far (p := ⟨gb750, 4, none⟩) (Kd.R_far (p := ⟨gb750, 3, none⟩) (Kd.R_far (p := ⟨gb750, 2, none⟩) (Kd.R_far (p := ⟨gb750, 1, none⟩) (Kd.R_far (p := ⟨gb750, 0, none⟩) (Kd.R_types HO749.out BK750.out (by decide)) (fun _ hk => hk.2) (.int .i64 t739)) (fun _ hk => hk.2) (.int .i64 t740)) (fun _ hk => hk.2) (.slice Ao33 t741.length co33)) (fun _ hk => hk.2) (.slice Ao34 t744.length co34)) (fun _ hk => hk.2) (.slice Ao35 t747.length co35)) (fun _ h_ => h_.1)))); (case s6 => exact r1 HO749); rintro e w36 ⟨v754, v757, v760, rfl, ho0, ho1, ho2, hb⟩; refine ⟨_, rfl, ?_⟩; have HO755 := Aside0.mk (Kd.R_lower (Kd.R_new' (Kd.R_new' (Kd.R_new' ho0 (Kd.R_lt (by (with_reducible repeat (first | apply Kd.R_alloc | apply Kd.R_drewN | apply Kd.R_drew)); exact (Kd.R_mono (Kd.R_far (p := ⟨gb750, 4, none⟩) (Kd.R_far (p := ⟨gb750, 3, none⟩) (Kd.R_far (p := ⟨gb750, 2, none⟩) (Kd.R_far (p := ⟨gb750, 1, none⟩) (Kd.R_far (p := ⟨gb750, 0, none⟩) (Kd.R_types HO719.out BK750.out (by decide)) (fun _ hk => hk.2) (.int .i64 t739)) (fun _ hk => hk.2) (.int .i64 t740)) (fun _ hk => hk.2) (.slice Ao33 t741.length co33)) (fun _ hk => hk.2) (.slice Ao34 t744.length co34)) (fun _ hk => hk.2) (.slice Ao35 t747.length co35)) (fun _ h_ => h_.1))))) (Kd.R_lt (by (with_reducible repeat (first | apply Kd.R_alloc | apply Kd.R_drewN | apply Kd.R_drew)); exact (Kd.R_mono (Kd.R_far (p := ⟨gb750, 4, none⟩) (Kd.R_far (p := ⟨gb750, 3, none⟩) (Kd.R_far (p := ⟨gb750, 2, none⟩) (Kd.R_far (p := ⟨gb750, 1, none⟩) (Kd.R_far (p := ⟨gb750, 0, none⟩) (Kd.R_types HO730.out BK750.out (by decide)) (fun _ hk => hk.2) (.int .i64 t739)) (fun _ hk => hk.2) (.int .i64 t740)) (fun _ hk => hk.2) (.slice Ao33 t741.length co33)) (fun _ hk => hk.2) (.slice Ao34 t744.length co34)) (fun _ hk => hk.2) (.slice Ao35 t747.length co35)) (fun _ h_ => h_.1))))) (Kd.R_lt (by (with_reducible repeat (first | apply Kd.R_alloc | apply Kd.R_drewN | apply Kd.R_drew)); exact (Kd.R_mono (Kd.R_far (p := ⟨gb750, 4, none⟩) (Kd.R_far (p := ⟨gb750, 3, none⟩) (Kd.R_far (p := ⟨gb750, 2, none⟩) (Kd.R_far (p := ⟨gb750, 1, none⟩) (Kd.R_far (p := ⟨gb750, 0, none⟩) (Kd.R_types HO743.out BK750.out (by decide)) (fun _ hk => hk.2) (.int .i64 t739)) (fun _ hk => hk.2) (.int .i64 t740)) (fun _ hk => hk.2) (.slice Ao33 t741.length co33)) (fun _ hk => hk.2) (.slice Ao34 t744.length co34)) (fun _ hk => hk.2) (.slice Ao35 t747.length co35)) (fun _ h_ => h_.1))))) (below_size bq)); replace HO730 := Aside0.mk (Kd.R_elder' (by (with_reducible repeat (first | apply Kd.R_alloc | apply Kd.R_drewN | apply Kd.R_drew)); exact (Kd.R_mono (Kd.R_far (p := ⟨gb750, 4, none⟩) (Kd.R_far (p := ⟨gb750, 3, none⟩) (Kd.R_far (p := ⟨gb750, 2, none⟩) (Kd.R_far (p := ⟨gb750, 1, none⟩) (Kd.R_far (p := ⟨gb750, 0, none⟩) (Kd.R_types HO730.out BK750.out (by decide)) (fun _ hk => hk.2) (.int .i64 t739)) (fun _ hk => hk.2) (.int .i64 t740)) (fun _ hk => hk.2) (.slice Ao33 t741.length co33)) (fun _ hk => hk.2) (.slice Ao34 t744.length co34)) (fun _ hk => hk.2) (.slice Ao35 t747.length co35)) (fun _ h_ => h_.1))) (Kd.R_base ho0) hb); replace HO743 := Aside0.mk (Kd.R_elder' (by (with_reducible repeat (first | apply Kd.R_alloc | apply Kd.R_drewN | apply Kd.R_drew)); exact (Kd.R_mono (Kd.R_far (p := ⟨gb750, 4, none⟩) (Kd.R_far (p := ⟨gb750, 3, none⟩) (Kd.R_far (p := ⟨gb750, 2, none⟩) (Kd.R_far (p := ⟨gb750, 1, none⟩) (Kd.R_far (p := ⟨gb750, 0, none⟩) (Kd.R_types HO743.out BK750.out (by decide)) (fun _ hk => hk.2) (.int .i64 t739)) (fun _ hk => hk.2) (.int .i64 t740)) (fun _ hk => hk.2) (.slice Ao33 t741.length co33)) (fun _ hk => hk.2) (.slice Ao34 t744.length co34)) (fun _ hk => hk.2) (.slice Ao35 t747.length co35)) (fun _ h_ => h_.1))) (Kd.R_base ho0) hb); have HO758 := Aside0.mk (Kd.R_lower (Kd.R_new' (Kd.R_new' (Kd.R_new' (Kd.R_new' (Kd.R_new' (Kd.R_new' ho1 (Kd.R_lt (by (with_reducible repeat (first | apply Kd.R_alloc | apply Kd.R_drewN | apply Kd.R_drew)); exact (Kd.R_mono (Kd.R_far (p := ⟨gb750, 4, none⟩) (Kd.R_far (p := ⟨gb750, 3, none⟩) (Kd.R_far (p := ⟨gb750, 2, none⟩) (Kd.R_far (p := ⟨gb750, 1, none⟩) (Kd.R_far (p := ⟨gb750, 0, none⟩) (Kd.R_types HO722.out BK750.out (by decide)) (fun _ hk => hk.2) (.int .i64 t739)) (fun _ hk => hk.2) (.int .i64 t740)) (fun _ hk => hk.2) (.slice Ao33 t741.length co33)) (fun _ hk => hk.2) (.slice Ao34 t744.length co34)) (fun _ hk => hk.2) (.slice Ao35 t747.length co35)) (fun _ h_ => h_.1))))) (Kd.R_lt (by (with_reducible repeat (first | apply Kd.R_alloc | apply Kd.R_drewN | apply Kd.R_drew)); exact (Kd.R_mono (Kd.R_far (p := ⟨gb750, 4, none⟩) (Kd.R_far (p := ⟨gb750, 3, none⟩) (Kd.R_far (p := ⟨gb750, 2, none⟩) (Kd.R_far (p := ⟨gb750, 1, none⟩) (Kd.R_far (p := ⟨gb750, 0, none⟩) (Kd.R_types HO725.out BK750.out (by decide)) (fun _ hk => hk.2) (.int .i64 t739)) (fun _ hk => hk.2) (.int .i64 t740)) (fun _ hk => hk.2) (.slice Ao33 t741.length co33)) (fun _ hk => hk.2) (.slice Ao34 t744.length co34)) (fun _ hk => hk.2) (.slice Ao35 t747.length co35)) (fun _ h_ => h_.1))))) (Kd.R_lt (by (with_reducible repeat (first | apply Kd.R_alloc | apply Kd.R_drewN | apply Kd.R_drew)); exact (Kd.R_mono (Kd.R_far (p := ⟨gb750, 4, none⟩) (Kd.R_far (p := ⟨gb750, 3, none⟩) (Kd.R_far (p := ⟨gb750, 2, none⟩) (Kd.R_far (p := ⟨gb750, 1, none⟩) (Kd.R_far (p := ⟨gb750, 0, none⟩) (Kd.R_types HO733.out BK750.out (by decide)) (fun _ hk => hk.2) (.int .i64 t739)) (fun _ hk => hk.2) (.int .i64 t740)) (fun _ hk => hk.2) (.slice Ao33 t741.length co33)) (fun _ hk => hk.2) (.slice Ao34 t744.length co34)) (fun _ hk => hk.2) (.slice Ao35 t747.length co35)) (fun _ h_ => h_.1))))) (Kd.R_lt (by (with_reducible repeat (first | apply Kd.R_alloc | apply Kd.R_drewN | apply Kd.R_drew)); exact (Kd.R_mono (Kd.R_far (p := ⟨gb750, 4, none⟩) (Kd.R_far (p := ⟨gb750, 3, none⟩) (Kd.R_far (p := ⟨gb750, 2, none⟩) (Kd.R_far (p := ⟨gb750, 1, none⟩) (Kd.R_far (p := ⟨gb750, 0, none⟩) (Kd.R_types HO736.out BK750.out (by decide)) (fun _ hk => hk.2) (.int .i64 t739)) (fun _ hk => hk.2) (.int .i64 t740)) (fun _ hk => hk.2) (.slice Ao33 t741.length co33)) (fun _ hk => hk.2) (.slice Ao34 t744.length co34)) (fun _ hk => hk.2) (.slice Ao35 t747.length co35)) (fun _ h_ => h_.1))))) (Kd.R_lt (by (with_reducible repeat (first | apply Kd.R_alloc | apply Kd.R_drewN | apply Kd.R_drew)); exact (Kd.R_mono (Kd.R_far (p := ⟨gb750, 4, none⟩) (Kd.R_far (p := ⟨gb750, 3, none⟩) (Kd.R_far (p := ⟨gb750, 2, none⟩) (Kd.R_far (p := ⟨gb750, 1, none⟩) (Kd.R_far (p := ⟨gb750, 0, none⟩) (Kd.R_types HO746.out BK750.out (by decide)) (fun _ hk => hk.2) (.int .i64 t739)) (fun _ hk => hk.2) (.int .i64 t740)) (fun _ hk => hk.2) (.slice Ao33 t741.length co33)) (fun _ hk => hk.2) (.slice Ao34 t744.length co34)) (fun _ hk => hk.2) (.slice Ao35 t747.length co35)) (fun _ h_ => h_.1))))) (Kd.R_lt (by (with_reducible repeat (first | apply Kd.R_alloc | apply Kd.R_drewN | apply Kd.R_drew)); exact (Kd.R_mono (Kd.R_far (p := ⟨gb750, 4, none⟩) (Kd.R_far (p := ⟨gb750, 3, none⟩) (Kd.R_far (p := ⟨gb750, 2, none⟩) (Kd.R_far (p := ⟨gb750, 1, none⟩) (Kd.R_far (p := ⟨gb750, 0, none⟩) (Kd.R_types HO749.out BK750.out (by decide)) (fun _ hk => hk.2) (.int .i64 t739)) (fun _ hk => hk.2) (.int .i64 t740)) (fun _ hk => hk.2) (.slice Ao33 t741.length co33)) (fun _ hk => hk.2) (.slice Ao34 t744.length co34)) (fun _ hk => hk.2) (.slice Ao35 t747.length co35)) (fun _ h_ => h_.1))))) (below_size bq)); have HO761 := Aside0.mk (Kd.R_lower (Kd.R_new' (Kd.R_new' (Kd.R_new' (Kd.R_new' (Kd.R_new' (Kd.R_new' ho2 (Kd.R_lt (by (with_reducible repeat (first | apply Kd.R_alloc | apply Kd.R_drewN | apply Kd.R_drew)); exact (Kd.R_mono (Kd.R_far (p := ⟨gb750, 4, none⟩) (Kd.R_far (p := ⟨gb750, 3, none⟩) (Kd.R_far (p := ⟨gb750, 2, none⟩) (Kd.R_far (p := ⟨gb750, 1, none⟩) (Kd.R_far (p := ⟨gb750, 0, none⟩) (Kd.R_types HO722.out BK750.out (by decide)) (fun _ hk => hk.2) (.int .i64 t739)) (fun _ hk => hk.2) (.int .i64 t740)) (fun _ hk => hk.2) (.slice Ao33 t741.length co33)) (fun _ hk => hk.2) (.slice Ao34 t744.length co34)) (fun _ hk => hk.2) (.slice Ao35 t747.length co35)) (fun _ h_ => h_.1))))) (Kd.R_lt (by (with_reducible repeat (first | apply Kd.R_alloc | apply Kd.R_drewN | apply Kd.R_drew)); exact (Kd.R_mono (Kd.R_far (p := ⟨gb750, 4, none⟩) (Kd.R_far (p := ⟨gb750, 3, none⟩) (Kd.R_far (p := ⟨gb750, 2, none⟩) (Kd.R_far (p := ⟨gb750, 1, none⟩) (Kd.R_far (p := ⟨gb750, 0, none⟩) (Kd.R_types HO725.out BK750.out (by decide)) (fun _ hk => hk.2) (.int .i64 t739)) (fun _ hk => hk.2) (.int .i64 t740)) (fun _ hk => hk.2) (.slice Ao33 t741.length co33)) (fun _ hk => hk.2) (.slice Ao34 t744.length co34)) (fun _ hk => hk.2) (.slice Ao35 t747.length co35)) (fun _ h_ => h_.1))))) (Kd.R_lt (by (with_reducible repeat (first | apply Kd.R_alloc | apply Kd.R_drewN | apply Kd.R_drew)); exact (Kd.R_mono (Kd.R_far (p := ⟨gb750, 4, none⟩) (Kd.R_far (p := ⟨gb750, 3, none⟩) (Kd.R_far (p := ⟨gb750, 2, none⟩) (Kd.R_far (p := ⟨gb750, 1, none⟩) (Kd.R_far (p := ⟨gb750, 0, none⟩) (Kd.R_types HO733.out BK750.out (by decide)) (fun _ hk => hk.2) (.int .i64 t739)) (fun _ hk => hk.2) (.int .i64 t740)) (fun _ hk => hk.2) (.slice Ao33 t741.length co33)) (fun _ hk => hk.2) (.slice Ao34 t744.length co34)) (fun _ hk => hk.2) (.slice Ao35 t747.length co35)) (fun _ h_ => h_.1))))) (Kd.R_lt (by (with_reducible repeat (first | apply Kd.R_alloc | apply Kd.R_drewN | apply Kd.R_drew)); exact (Kd.R_mono (Kd.R_far (p := ⟨gb750, 4, none⟩) (Kd.R_far (p := ⟨gb750, 3, none⟩) (Kd.R_far (p := ⟨gb750, 2, none⟩) (Kd.R_far (p := ⟨gb750, 1, none⟩) (Kd.R_far (p := ⟨gb750, 0, none⟩) (Kd.R_types HO736.out BK750.out (by decide)) (fun _ hk => hk.2) (.int .i64 t739)) (fun _ hk => hk.2) (.int .i64 t740)) (fun _ hk => hk.2) (.slice Ao33 t741.length co33)) (fun _ hk => hk.2) (.slice Ao34 t744.length co34)) (fun _ hk => hk.2) (.slice Ao35 t747.length co35)) (fun _ h_ => h_.1))))) (Kd.R_lt (by (with_reducible repeat (first | apply Kd.R_alloc | apply Kd.R_drewN | apply Kd.R_drew)); exact (Kd.R_mono (Kd.R_far (p := ⟨gb750, 4, none⟩) (Kd.R_far (p := ⟨gb750, 3, none⟩) (Kd.R_far (p := ⟨gb750, 2, none⟩) (Kd.R_far (p := ⟨gb750, 1, none⟩) (Kd.R_far (p := ⟨gb750, 0, none⟩) (Kd.R_types HO746.out BK750.out (by decide)) (fun _ hk => hk.2) (.int .i64 t739)) (fun _ hk => hk.2) (.int .i64 t740)) (fun _ hk => hk.2) (.slice Ao33 t741.length co33)) (fun _ hk => hk.2) (.slice Ao34 t744.length co34)) (fun _ hk => hk.2) (.slice Ao35 t747.length co35)) (fun _ h_ => h_.1))))) (Kd.R_lt (by (with_reducible repeat (first | apply Kd.R_alloc | apply Kd.R_drewN | apply Kd.R_drew)); exact (Kd.R_mono (Kd.R_far (p := ⟨gb750, 4, none⟩) (Kd.R_far (p := ⟨gb750, 3, none⟩) (Kd.R_far (p := ⟨gb750, 2, none⟩) (Kd.R_far (p := ⟨gb750, 1, none⟩) (Kd.R_far (p := ⟨gb750, 0, none⟩) (Kd.R_types HO749.out BK750.out (by decide)) (fun _ hk => hk.2) (.int .i64 t739)) (fun _ hk => hk.2) (.int .i64 t740)) (fun _ hk => hk.2) (.slice Ao33 t741.length co33)) (fun _ hk => hk.2) (.slice Ao34 t744.length co34)) (fun _ hk => hk.2) (.slice Ao35 t747.length co35)) (fun _ h_ => h_.1))))) (below_size bq)); replace HO733 := Aside0.mk (Kd.R_mono (Kd.R_told (Kd.R_told (Kd.R_old (by (with_reducible repeat (first | apply Kd.R_alloc | apply Kd.R_drewN | apply Kd.R_drew)); exact (Kd.R_mono (Kd.R_far (p := ⟨gb750, 4, none⟩) (Kd.R_far (p := ⟨gb750, 3, none⟩) (Kd.R_far (p := ⟨gb750, 2, none⟩) (Kd.R_far (p := ⟨gb750, 1, none⟩) (Kd.R_far (p := ⟨gb750, 0, none⟩) (Kd.R_types HO733.out BK750.out (by decide)) (fun _ hk => hk.2) (.int .i64 t739)) (fun _ hk => hk.2) (.int .i64 t740)) (fun _ hk => hk.2) (.slice Ao33 t741.length co33)) (fun _ hk => hk.2) (.slice Ao34 t744.length co34)) (fun _ hk => hk.2) (.slice Ao35 t747.length co35)) (fun _ h_ => h_.1))) hb) (Kd.R_base ho1)) (Kd.R_base ho2)) (fun _ h_ => h_.1)); replace HO736 := Aside0.mk (Kd.R_mono (Kd.R_told (Kd.R_told (Kd.R_old (by (with_reducible repeat (first | apply Kd.R_alloc | apply Kd.R_drewN | apply Kd.R_drew)); exact (Kd.R_mono (Kd.R_far (p := ⟨gb750, 4, none⟩) (Kd.R_far (p := ⟨gb750, 3, none⟩) (Kd.R_far (p := ⟨gb750, 2, none⟩) (Kd.R_far (p := ⟨gb750, 1, none⟩) (Kd.R_far (p := ⟨gb750, 0, none⟩) (Kd.R_types HO736.out BK750.out (by decide)) (fun _ hk => hk.2) (.int .i64 t739)) (fun _ hk => hk.2) (.int .i64 t740)) (fun _ hk => hk.2) (.slice Ao33 t741.length co33)) (fun _ hk => hk.2) (.slice Ao34 t744.length co34)) (fun _ hk => hk.2) (.slice Ao35 t747.length co35)) (fun _ h_ => h_.1))) hb) (Kd.R_base ho1)) (Kd.R_base ho2)) (fun _ h_ => h_.1)); replace HO746 := Aside0.mk (Kd.R_mono (Kd.R_told (Kd.R_told (Kd.R_old (by (with_reducible repeat (first | apply Kd.R_alloc | apply Kd.R_drewN | apply Kd.R_drew)); exact (Kd.R_mono (Kd.R_far (p := ⟨gb750, 4, none⟩) (Kd.R_far (p := ⟨gb750, 3, none⟩) (Kd.R_far (p := ⟨gb750, 2, none⟩) (Kd.R_far (p := ⟨gb750, 1, none⟩) (Kd.R_far (p := ⟨gb750, 0, none⟩) (Kd.R_types HO746.out BK750.out (by decide)) (fun _ hk => hk.2) (.int .i64 t739)) (fun _ hk => hk.2) (.int .i64 t740)) (fun _ hk => hk.2) (.slice Ao33 t741.length co33)) (fun _ hk => hk.2) (.slice Ao34 t744.length co34)) (fun _ hk => hk.2) (.slice Ao35 t747.length co35)) (fun _ h_ => h_.1))) hb) (Kd.R_base ho1)) (Kd.R_base ho2)) (fun _ h_ => h_.1)); replace HO749 := Aside0.mk (Kd.R_mono (Kd.R_told (Kd.R_told (Kd.R_old (by (with_reducible repeat (first | apply Kd.R_alloc | apply Kd.R_drewN | apply Kd.R_drew)); exact (Kd.R_mono (Kd.R_far (p := ⟨gb750, 4, none⟩) (Kd.R_far (p := ⟨gb750, 3, none⟩) (Kd.R_far (p := ⟨gb750, 2, none⟩) (Kd.R_far (p := ⟨gb750, 1, none⟩) (Kd.R_far (p := ⟨gb750, 0, none⟩) (Kd.R_types HO749.out BK750.out (by decide)) (fun _ hk => hk.2) (.int .i64 t739)) (fun _ hk => hk.2) (.int .i64 t740)) (fun _ hk => hk.2) (.slice Ao33 t741.length co33)) (fun _ hk => hk.2) (.slice Ao34 t744.length co34)) (fun _ hk => hk.2) (.slice Ao35 t747.length co35)) (fun _ h_ => h_.1))) hb) (Kd.R_base ho1)) (Kd.R_base ho2)) (fun _ h_ => h_.1)); replace BK713 := Aside0.mk (blk_below (g := gb713) (o := .cells #[.int .i64 a0_0, .int .i64 a0_1, .slice A0_2 l0_2.length c0_2, .slice A0_3 l0_3.length c0_3, .slice A0_4 l0_4.length c0_4] 27 (0, 0)) (by (with_reducible repeat (first | refine blk_drewN ?_ _ | refine blk_drew ?_ | refine blk_alloc ?_ _)); refine blk_far ?_ NB713_750.out _; (with_reducible repeat (first | refine blk_drewN ?_ _ | refine blk_drew ?_ | refine blk_alloc ?_ _)); refine blk_far ?_ NB713_750.out _; (with_reducible repeat (first | refine blk_drewN ?_ _ | refine blk_drew ?_ | refine blk_alloc ?_ _)); refine blk_far ?_ NB713_750.out _; (with_reducible repeat (first | refine blk_drewN ?_ _ | refine blk_drew ?_ | refine blk_alloc ?_ _)); refine blk_far ?_ NB713_750.out _; (with_reducible repeat (first | refine blk_drewN ?_ _ | refine blk_drew ?_ | refine blk_alloc ?_ _)); refine blk_far ?_ NB713_750.out _; (with_reducible repeat (first | refine blk_drewN ?_ _ | refine blk_drew ?_ | refine blk_alloc ?_ _)); exact BK713.out) hb); replace BK738 := Aside0.mk (blk_below (g := gb738) (o := .cells #[.int .i64 t726, .int .i64 t727, .slice Ao24 t728.length co24, .slice Ao25 t731.length co25, .slice Ao26 t734.length co26] 35 (0, 0)) (by (with_reducible repeat (first | refine blk_drewN ?_ _ | refine blk_drew ?_ | refine blk_alloc ?_ _)); refine blk_far ?_ NB738_750.out _; (with_reducible repeat (first | refine blk_drewN ?_ _ | refine blk_drew ?_ | refine blk_alloc ?_ _)); refine blk_far ?_ NB738_750.out _; (with_reducible repeat (first | refine blk_drewN ?_ _ | refine blk_drew ?_ | refine blk_alloc ?_ _)); refine blk_far ?_ NB738_750.out _; (with_reducible repeat (first | refine blk_drewN ?_ _ | refine blk_drew ?_ | refine blk_alloc ?_ _)); refine blk_far ?_ NB738_750.out _; (with_reducible repeat (first | refine blk_drewN ?_ _ | refine blk_drew ?_ | refine blk_alloc ?_ _)); refine blk_far ?_ NB738_750.out _; (with_reducible repeat (first | refine blk_drewN ?_ _ | refine blk_drew ?_ | refine blk_alloc ?_ _)); exact BK738.out) hb); replace BK750 := Aside0.mk (blk_below (g := gb750) (o := .cells #[.int .i64 t739, .int .i64 t740, .slice Ao33 t741.length co33, .slice Ao34 t744.length co34, .slice Ao35 t747.length co35] 35 (0, 0)) (by (with_reducible repeat (first | refine blk_drewN ?_ _ | refine blk_drew ?_ | refine blk_alloc ?_ _)); refine blk_put (cs := #[.int .i64 t739, .int .i64 t740, .slice Ao33 t741.length co33, .slice Ao34 t744.length co34, .slice none 0 0]) ?_ 4 _ rfl; (with_reducible repeat (first | refine blk_drewN ?_ _ | refine blk_drew ?_ | refine blk_alloc ?_ _)); refine blk_put (cs := #[.int .i64 t739, .int .i64 t740, .slice Ao33 t741.length co33, .slice none 0 0, .slice none 0 0]) ?_ 3 _ rfl; (with_reducible repeat (first | refine blk_drewN ?_ _ | refine blk_drew ?_ | refine blk_alloc ?_ _)); refine blk_put (cs := #[.int .i64 t739, .int .i64 t740, .slice none 0 0, .slice none 0 0, .slice none 0 0]) ?_ 2 _ rfl; (with_reducible repeat (first | refine blk_drewN ?_ _ | refine blk_drew ?_ | refine blk_alloc ?_ _)); refine blk_put (cs := #[.int .i64 t739, .int .i64 0, .slice none 0 0, .slice none 0 0, .slice none 0 0]) ?_ 1 _ rfl; (with_reducible repeat (first | refine blk_drewN ?_ _ | refine blk_drew ?_ | refine blk_alloc ?_ _)); refine blk_put (cs := #[.int .i64 0, .int .i64 0, .slice none 0 0, .slice none 0 0, .slice none 0 0]) ?_ 0 _ rfl; (with_reducible repeat (first | refine blk_drewN ?_ _ | refine blk_drew ?_ | refine blk_alloc ?_ _)); exact BK750.out) hb); replace HB := sb hb; (try clear hb hb2 hk hi ho0 ho1 ho2)) | ((with_reducible refine gate_dst (N := 7) rfl ?_); refine box_event ?hg (N := 7) ?hd (cs := #[.int .i64 0, .int .i64 0, .slice none 0 0, .slice none 0 0, .slice none 0 0]) (t := 35) ?hr ?_; (case hd => rfl); (case hg => rfl); (case hr => first | (go_simp; done) | (go_simp; rfl)); intro gb763 hg w37 hbox hb; replace HO730 := rb HO730 hb; replace HO733 := rb HO733 hb; replace HO736 := rb HO736 hb; replace HO743 := rb HO743 hb; replace HO746 := rb HO746 hb; replace HO749 := rb HO749 hb; replace HO755 := rb HO755 hb; replace HO758 := rb HO758 hb; replace HO761 := rb HO761 hb; have BK763 := Aside0.mk (hbox); have GE763 := Aside0.mk (gq hg); replace HB := sb hb; have NB713_763 := nl hg BK713; have NB763_713 := ng hg BK713; replace BK713 := zb BK713 hb; have NB738_763 := nl hg BK738; have NB763_738 := ng hg BK738; replace BK738 := zb BK738 hb; have NB750_763 := nl hg BK750; have NB763_750 := ng hg BK750; replace BK750 := zb BK750 hb; clear hb hbox hg; have hnb38 := NB763_713.out; have hnc38 := NB713_763.out; have hnb39 := NB763_738.out; have hnc39 := NB738_763.out; have hnb40 := NB763_750.out; have hnc40 := NB750_763.out; have ⟨hcz41_0, hcz41_1, hcz41_2, hcz41_3, hcz41_4, hfz41_0, hfz41_1, hfz41_2, hfz41_3, hfz41_4⟩ := bc5 BK763; obtain ⟨Ao42, co42, eo42⟩ := Kd.R_slice HO755.out; subst eo42; obtain ⟨Ao43, co43, eo43⟩ := Kd.R_slice HO758.out; subst eo43; obtain ⟨Ao44, co44, eo44⟩ := Kd.R_slice HO761.out; subst eo44))
  (try simp only [Act.put, List.setIfInBounds_toArray, List.set_cons_zero, List.set_cons_succ])
  go_cut [40] (fun v40 wc => ∃ (kq : Nat) (x40_10 : Bool), v40 = .bool x40_10 ∧ Aside0 (laws_FnExactRedoAct.j0 kq t737 t762 x40_10 a0_0 a0_1 l0_2 l0_3 l0_4 t726 t727 t728 t731 t734 t739 t740 t741 t744 t747 t751 t752 t753 t756 t759 = some r) ∧ Aside0 (kq ≤ k) ∧ Aside0 (Kd.R k58 58 wc w.heap.size (fun k_ => some k_ ≠ ((.slice Ao33 t741.length co33) : Value).ownBlock ∧ some k_ ≠ ((.slice Ao42 t753.length co42) : Value).ownBlock) (.slice Ao24 t728.length co24) t728) ∧ Aside0 (Kd.R k60 60 wc w.heap.size (fun k_ => some k_ ≠ ((.slice Ao26 t734.length co26) : Value).ownBlock ∧ some k_ ≠ ((.slice Ao34 t744.length co34) : Value).ownBlock ∧ some k_ ≠ ((.slice Ao35 t747.length co35) : Value).ownBlock ∧ some k_ ≠ ((.slice Ao43 t756.length co43) : Value).ownBlock ∧ some k_ ≠ ((.slice Ao44 t759.length co44) : Value).ownBlock) (.slice Ao25 t731.length co25) t731) ∧ Aside0 (Kd.R k60 60 wc w.heap.size (fun k_ => some k_ ≠ ((.slice Ao25 t731.length co25) : Value).ownBlock ∧ some k_ ≠ ((.slice Ao34 t744.length co34) : Value).ownBlock ∧ some k_ ≠ ((.slice Ao35 t747.length co35) : Value).ownBlock ∧ some k_ ≠ ((.slice Ao43 t756.length co43) : Value).ownBlock ∧ some k_ ≠ ((.slice Ao44 t759.length co44) : Value).ownBlock) (.slice Ao26 t734.length co26) t734) ∧ Aside0 (Kd.R k58 58 wc w.heap.size (fun k_ => some k_ ≠ ((.slice Ao24 t728.length co24) : Value).ownBlock ∧ some k_ ≠ ((.slice Ao42 t753.length co42) : Value).ownBlock) (.slice Ao33 t741.length co33) t741) ∧ Aside0 (Kd.R k60 60 wc w.heap.size (fun k_ => some k_ ≠ ((.slice Ao25 t731.length co25) : Value).ownBlock ∧ some k_ ≠ ((.slice Ao26 t734.length co26) : Value).ownBlock ∧ some k_ ≠ ((.slice Ao35 t747.length co35) : Value).ownBlock ∧ some k_ ≠ ((.slice Ao43 t756.length co43) : Value).ownBlock ∧ some k_ ≠ ((.slice Ao44 t759.length co44) : Value).ownBlock) (.slice Ao34 t744.length co34) t744) ∧ Aside0 (Kd.R k60 60 wc w.heap.size (fun k_ => some k_ ≠ ((.slice Ao25 t731.length co25) : Value).ownBlock ∧ some k_ ≠ ((.slice Ao26 t734.length co26) : Value).ownBlock ∧ some k_ ≠ ((.slice Ao34 t744.length co34) : Value).ownBlock ∧ some k_ ≠ ((.slice Ao43 t756.length co43) : Value).ownBlock ∧ some k_ ≠ ((.slice Ao44 t759.length co44) : Value).ownBlock) (.slice Ao35 t747.length co35) t747) ∧ Aside0 (Kd.R k58 58 wc w.heap.size (fun k_ => some k_ ≠ ((.slice Ao24 t728.length co24) : Value).ownBlock ∧ some k_ ≠ ((.slice Ao33 t741.length co33) : Value).ownBlock) (.slice Ao42 t753.length co42) t753) ∧ Aside0 (Kd.R k60 60 wc w.heap.size (fun k_ => some k_ ≠ ((.slice Ao25 t731.length co25) : Value).ownBlock ∧ some k_ ≠ ((.slice Ao26 t734.length co26) : Value).ownBlock ∧ some k_ ≠ ((.slice Ao34 t744.length co34) : Value).ownBlock ∧ some k_ ≠ ((.slice Ao35 t747.length co35) : Value).ownBlock ∧ some k_ ≠ ((.slice Ao44 t759.length co44) : Value).ownBlock) (.slice Ao43 t756.length co43) t756) ∧ Aside0 (Kd.R k60 60 wc w.heap.size (fun k_ => some k_ ≠ ((.slice Ao25 t731.length co25) : Value).ownBlock ∧ some k_ ≠ ((.slice Ao26 t734.length co26) : Value).ownBlock ∧ some k_ ≠ ((.slice Ao34 t744.length co34) : Value).ownBlock ∧ some k_ ≠ ((.slice Ao35 t747.length co35) : Value).ownBlock ∧ some k_ ≠ ((.slice Ao43 t756.length co43) : Value).ownBlock) (.slice Ao44 t759.length co44) t759) ∧ Aside0 (wc.heap[gb713]? = some (.cells #[.int .i64 a0_0, .int .i64 a0_1, (.slice A0_2 l0_2.length c0_2), (.slice A0_3 l0_3.length c0_3), (.slice A0_4 l0_4.length c0_4)] 27 (0, 0))) ∧ Aside0 (wc.heap[gb738]? = some (.cells #[.int .i64 t726, .int .i64 t727, (.slice Ao24 t728.length co24), (.slice Ao25 t731.length co25), (.slice Ao26 t734.length co26)] 35 (0, 0))) ∧ Aside0 (wc.heap[gb750]? = some (.cells #[.int .i64 t739, .int .i64 t740, (.slice Ao33 t741.length co33), (.slice Ao34 t744.length co34), (.slice Ao35 t747.length co35)] 35 (0, 0))) ∧ Aside0 (wc.heap[gb763]? = some (.cells #[.int .i64 t751, .int .i64 t752, (.slice Ao42 t753.length co42), (.slice Ao43 t756.length co43), (.slice Ao44 t759.length co44)] 35 (0, 0))) ∧ Aside0 (Below w.heap.size w wc))
  case first =>
   have H := HC11.out
   clear HC11
   obtain ⟨t764, A45, H⟩ := bindq H
   try dsimp only at H
   by_cases c46 : t764 = true
   ·subst c46
    rw [if_pos rfl] at H
    try dsimp only at H
    have H' := Aside0.mk H
    clear H
    have hnb47 := NB763_713.out
    have hnc47 := NB713_763.out
    have hnb48 := NB763_738.out
    have hnc48 := NB738_763.out
    have hnb49 := NB763_750.out
    have hnc49 := NB750_763.out
    have ⟨hcz50_0, hcz50_1, hcz50_2, hcz50_3, hcz50_4, hfz50_0, hfz50_1, hfz50_2, hfz50_3, hfz50_4⟩ := bc5 BK763
    have hnb51 := NB738_713.out
    have hnc51 := NB713_738.out
    have hnb52 := NB738_750.out
    have hnc52 := NB750_738.out
    have ⟨hcz53_0, hcz53_1, hcz53_2, hcz53_3, hcz53_4, hfz53_0, hfz53_1, hfz53_2, hfz53_3, hfz53_4⟩ := bc5 BK738
    go_wp2_with (first | ((with_reducible refine gate_callee (f := 18) rfl ?_); refine goesQ (some 34) Try.func18 #[.agg #[.int .i64 t751, .int .i64 t752, .slice Ao42 t753.length co42, .slice Ao43 t756.length co43, .slice Ao44 t759.length co44], .agg #[.int .i64 t726, .int .i64 t727, .slice Ao24 t728.length co24, .slice Ao25 t731.length co25, .slice Ao26 t734.length co26]] ?_; (with_reducible refine (laws_eqSession.calls k t751 t752 _ _ t753 _ _ t756 _ _ t759 t726 t727 _ _ t728 _ _ t731 _ _ t734 true _ ?s1 ?s2 ?s3 ?s4 ?s5 ?s6 ?s7 ?s8 ?s9 ?s10 ?s11 ?s12 A45.out).mono ?_); (case s1 => refine (Kd.R_reads' (e := 58) (base := w.heap.size) (ok := fun k_ => (((True ∧ some k_ ≠ (.slice Ao17 t717.length co17 : Value).ownBlock) ∧ some k_ ≠ (.slice Ao24 t728.length co24 : Value).ownBlock) ∧ some k_ ≠ (.slice Ao33 t741.length co33 : Value).ownBlock)) (n := t753.length) (c := co42) ?_).2.2; exact (by (with_reducible repeat (first | apply Kd.R_alloc | apply Kd.R_drewN | apply Kd.R_drew)); exact (Kd.R_mono (Kd.R_far (p := ⟨gb763, 4, none⟩) (Kd.R_far (p := ⟨gb763, 3, none⟩) (Kd.R_far (p := ⟨gb763, 2, none⟩) (Kd.R_far (p := ⟨gb763, 1, none⟩) (Kd.R_far (p := ⟨gb763, 0, none⟩) (Kd.R_types HO755.out BK763.out (by decide)) (fun _ hk => hk.2) (.int .i64 t751)) (fun _ hk => hk.2) (.int .i64 t752)) (fun _ hk => hk.2) (.slice Ao42 t753.length co42)) (fun _ hk => hk.2) (.slice Ao43 t756.length co43)) (fun _ hk => hk.2) (.slice Ao44 t759.length co44)) (fun _ h_ => h_.1)))); (case s2 => exact r1 HO755); (case s3 => refine (Kd.R_reads' (e := 60) (base := w.heap.size) (ok := fun k_ => ((((((some k_ ≠ (.slice Ao44 t759.length co44 : Value).ownBlock ∧ some k_ ≠ (.slice Ao18 t720.length co18 : Value).ownBlock) ∧ some k_ ≠ (.slice Ao19 t723.length co19 : Value).ownBlock) ∧ some k_ ≠ (.slice Ao25 t731.length co25 : Value).ownBlock) ∧ some k_ ≠ (.slice Ao26 t734.length co26 : Value).ownBlock) ∧ some k_ ≠ (.slice Ao34 t744.length co34 : Value).ownBlock) ∧ some k_ ≠ (.slice Ao35 t747.length co35 : Value).ownBlock)) (n := t756.length) (c := co43) ?_).2.2; exact (by (with_reducible repeat (first | apply Kd.R_alloc | apply Kd.R_drewN | apply Kd.R_drew)); exact (Kd.R_mono (Kd.R_far (p := ⟨gb763, 4, none⟩) (Kd.R_far (p := ⟨gb763, 3, none⟩) (Kd.R_far (p := ⟨gb763, 2, none⟩) (Kd.R_far (p := ⟨gb763, 1, none⟩) (Kd.R_far (p := ⟨gb763, 0, none⟩) (Kd.R_types HO758.out BK763.out (by decide)) (fun _ hk => hk.2) (.int .i64 t751)) (fun _ hk => hk.2) (.int .i64 t752)) (fun _ hk => hk.2) (.slice Ao42 t753.length co42)) (fun _ hk => hk.2) (.slice Ao43 t756.length co43)) (fun _ hk => hk.2) (.slice Ao44 t759.length co44)) (fun _ h_ => h_.1)))); (case s4 => exact r1 HO758); (case s5 => refine (Kd.R_reads' (e := 60) (base := w.heap.size) (ok := fun k_ => ((((((some k_ ≠ (.slice Ao43 t756.length co43 : Value).ownBlock ∧ some k_ ≠ (.slice Ao18 t720.length co18 : Value).ownBlock) ∧ some k_ ≠ (.slice Ao19 t723.length co19 : Value).ownBlock) ∧ some k_ ≠ (.slice Ao25 t731.length co25 : Value).ownBlock) ∧ some k_ ≠ (.slice Ao26 t734.length co26 : Value).ownBlock) ∧ some k_ ≠ (.slice Ao34 t744.length co34 : Value).ownBlock) ∧ some k_ ≠ (.slice Ao35 t747.length co35 : Value).ownBlock)) (n := t759.length) (c := co44) ?_).2.2; exact (by (with_reducible repeat (first | apply Kd.R_alloc | apply Kd.R_drewN | apply Kd.R_drew)); exact (Kd.R_mono (Kd.R_far (p := ⟨gb763, 4, none⟩) (Kd.R_far (p := ⟨gb763, 3, none⟩) (Kd.R_far (p := ⟨gb763, 2, none⟩) (Kd.R_far (p := ⟨gb763, 1, none⟩) (Kd.R_far (p := ⟨gb763, 0, none⟩) (Kd.R_types HO761.out BK763.out (by decide)) (fun _ hk => hk.2) (.int .i64 t751)) (fun _ hk => hk.2) (.int .i64 t752)) (fun _ hk => hk.2) (.slice Ao42 t753.length co42)) (fun _ hk => hk.2) (.slice Ao43 t756.length co43)) (fun _ hk => hk.2) (.slice Ao44 t759.length co44)) (fun _ h_ => h_.1)))); (case s6 => exact r1 HO761); (case s7 => refine (Kd.R_reads' (e := 58) (base := w.heap.size) (ok := fun k_ => (((True ∧ some k_ ≠ (.slice Ao17 t717.length co17 : Value).ownBlock) ∧ some k_ ≠ (.slice Ao33 t741.length co33 : Value).ownBlock) ∧ some k_ ≠ (.slice Ao42 t753.length co42 : Value).ownBlock)) (n := t728.length) (c := co24) ?_).2.2; exact (by (with_reducible repeat (first | apply Kd.R_alloc | apply Kd.R_drewN | apply Kd.R_drew)); exact (Kd.R_mono (Kd.R_far (p := ⟨gb763, 4, none⟩) (Kd.R_far (p := ⟨gb763, 3, none⟩) (Kd.R_far (p := ⟨gb763, 2, none⟩) (Kd.R_far (p := ⟨gb763, 1, none⟩) (Kd.R_far (p := ⟨gb763, 0, none⟩) (Kd.R_types HO730.out BK763.out (by decide)) (fun _ hk => hk.2) (.int .i64 t751)) (fun _ hk => hk.2) (.int .i64 t752)) (fun _ hk => hk.2) (.slice Ao42 t753.length co42)) (fun _ hk => hk.2) (.slice Ao43 t756.length co43)) (fun _ hk => hk.2) (.slice Ao44 t759.length co44)) (fun _ h_ => h_.1)))); (case s8 => exact r1 HO730); (case s9 => refine (Kd.R_reads' (e := 60) (base := w.heap.size) (ok := fun k_ => ((((((some k_ ≠ (.slice Ao26 t734.length co26 : Value).ownBlock ∧ some k_ ≠ (.slice Ao18 t720.length co18 : Value).ownBlock) ∧ some k_ ≠ (.slice Ao19 t723.length co19 : Value).ownBlock) ∧ some k_ ≠ (.slice Ao34 t744.length co34 : Value).ownBlock) ∧ some k_ ≠ (.slice Ao35 t747.length co35 : Value).ownBlock) ∧ some k_ ≠ (.slice Ao43 t756.length co43 : Value).ownBlock) ∧ some k_ ≠ (.slice Ao44 t759.length co44 : Value).ownBlock)) (n := t731.length) (c := co25) ?_).2.2; exact (by (with_reducible repeat (first | apply Kd.R_alloc | apply Kd.R_drewN | apply Kd.R_drew)); exact (Kd.R_mono (Kd.R_far (p := ⟨gb763, 4, none⟩) (Kd.R_far (p := ⟨gb763, 3, none⟩) (Kd.R_far (p := ⟨gb763, 2, none⟩) (Kd.R_far (p := ⟨gb763, 1, none⟩) (Kd.R_far (p := ⟨gb763, 0, none⟩) (Kd.R_types HO733.out BK763.out (by decide)) (fun _ hk => hk.2) (.int .i64 t751)) (fun _ hk => hk.2) (.int .i64 t752)) (fun _ hk => hk.2) (.slice Ao42 t753.length co42)) (fun _ hk => hk.2) (.slice Ao43 t756.length co43)) (fun _ hk => hk.2) (.slice Ao44 t759.length co44)) (fun _ h_ => h_.1)))); (case s10 => exact r1 HO733); (case s11 => refine (Kd.R_reads' (e := 60) (base := w.heap.size) (ok := fun k_ => ((((((some k_ ≠ (.slice Ao25 t731.length co25 : Value).ownBlock ∧ some k_ ≠ (.slice Ao18 t720.length co18 : Value).ownBlock) ∧ some k_ ≠ (.slice Ao19 t723.length co19 : Value).ownBlock) ∧ some k_ ≠ (.slice Ao34 t744.length co34 : Value).ownBlock) ∧ some k_ ≠ (.slice Ao35 t747.length co35 : Value).ownBlock) ∧ some k_ ≠ (.slice Ao43 t756.length co43 : Value).ownBlock) ∧ some k_ ≠ (.slice Ao44 t759.length co44 : Value).ownBlock)) (n := t734.length) (c := co26) ?_).2.2; exact (by (with_reducible repeat (first | apply Kd.R_alloc | apply Kd.R_drewN | apply Kd.R_drew)); exact (Kd.R_mono (Kd.R_far (p := ⟨gb763, 4, none⟩) (Kd.R_far (p := ⟨gb763, 3, none⟩) (Kd.R_far (p := ⟨gb763, 2, none⟩) (Kd.R_far (p := ⟨gb763, 1, none⟩) (Kd.R_far (p := ⟨gb763, 0, none⟩) (Kd.R_types HO736.out BK763.out (by decide)) (fun _ hk => hk.2) (.int .i64 t751)) (fun _ hk => hk.2) (.int .i64 t752)) (fun _ hk => hk.2) (.slice Ao42 t753.length co42)) (fun _ hk => hk.2) (.slice Ao43 t756.length co43)) (fun _ hk => hk.2) (.slice Ao44 t759.length co44)) (fun _ h_ => h_.1)))); (case s12 => exact r1 HO736); rintro e w54 ⟨rfl, hb⟩; refine ⟨_, rfl, ?_⟩; replace HO730 := Aside0.mk (Kd.R_below (by (with_reducible repeat (first | apply Kd.R_alloc | apply Kd.R_drewN | apply Kd.R_drew)); exact (Kd.R_mono (Kd.R_far (p := ⟨gb763, 4, none⟩) (Kd.R_far (p := ⟨gb763, 3, none⟩) (Kd.R_far (p := ⟨gb763, 2, none⟩) (Kd.R_far (p := ⟨gb763, 1, none⟩) (Kd.R_far (p := ⟨gb763, 0, none⟩) (Kd.R_types HO730.out BK763.out (by decide)) (fun _ hk => hk.2) (.int .i64 t751)) (fun _ hk => hk.2) (.int .i64 t752)) (fun _ hk => hk.2) (.slice Ao42 t753.length co42)) (fun _ hk => hk.2) (.slice Ao43 t756.length co43)) (fun _ hk => hk.2) (.slice Ao44 t759.length co44)) (fun _ h_ => h_.1))) hb); replace HO733 := Aside0.mk (Kd.R_below (by (with_reducible repeat (first | apply Kd.R_alloc | apply Kd.R_drewN | apply Kd.R_drew)); exact (Kd.R_mono (Kd.R_far (p := ⟨gb763, 4, none⟩) (Kd.R_far (p := ⟨gb763, 3, none⟩) (Kd.R_far (p := ⟨gb763, 2, none⟩) (Kd.R_far (p := ⟨gb763, 1, none⟩) (Kd.R_far (p := ⟨gb763, 0, none⟩) (Kd.R_types HO733.out BK763.out (by decide)) (fun _ hk => hk.2) (.int .i64 t751)) (fun _ hk => hk.2) (.int .i64 t752)) (fun _ hk => hk.2) (.slice Ao42 t753.length co42)) (fun _ hk => hk.2) (.slice Ao43 t756.length co43)) (fun _ hk => hk.2) (.slice Ao44 t759.length co44)) (fun _ h_ => h_.1))) hb); replace HO736 := Aside0.mk (Kd.R_below (by (with_reducible repeat (first | apply Kd.R_alloc | apply Kd.R_drewN | apply Kd.R_drew)); exact (Kd.R_mono (Kd.R_far (p := ⟨gb763, 4, none⟩) (Kd.R_far (p := ⟨gb763, 3, none⟩) (Kd.R_far (p := ⟨gb763, 2, none⟩) (Kd.R_far (p := ⟨gb763, 1, none⟩) (Kd.R_far (p := ⟨gb763, 0, none⟩) (Kd.R_types HO736.out BK763.out (by decide)) (fun _ hk => hk.2) (.int .i64 t751)) (fun _ hk => hk.2) (.int .i64 t752)) (fun _ hk => hk.2) (.slice Ao42 t753.length co42)) (fun _ hk => hk.2) (.slice Ao43 t756.length co43)) (fun _ hk => hk.2) (.slice Ao44 t759.length co44)) (fun _ h_ => h_.1))) hb); replace HO743 := Aside0.mk (Kd.R_below (by (with_reducible repeat (first | apply Kd.R_alloc | apply Kd.R_drewN | apply Kd.R_drew)); exact (Kd.R_mono (Kd.R_far (p := ⟨gb763, 4, none⟩) (Kd.R_far (p := ⟨gb763, 3, none⟩) (Kd.R_far (p := ⟨gb763, 2, none⟩) (Kd.R_far (p := ⟨gb763, 1, none⟩) (Kd.R_far (p := ⟨gb763, 0, none⟩) (Kd.R_types HO743.out BK763.out (by decide)) (fun _ hk => hk.2) (.int .i64 t751)) (fun _ hk => hk.2) (.int .i64 t752)) (fun _ hk => hk.2) (.slice Ao42 t753.length co42)) (fun _ hk => hk.2) (.slice Ao43 t756.length co43)) (fun _ hk => hk.2) (.slice Ao44 t759.length co44)) (fun _ h_ => h_.1))) hb); replace HO746 := Aside0.mk (Kd.R_below (by (with_reducible repeat (first | apply Kd.R_alloc | apply Kd.R_drewN | apply Kd.R_drew)); exact (Kd.R_mono (Kd.R_far (p := ⟨gb763, 4, none⟩) (Kd.R_far (p := ⟨gb763, 3, none⟩) (Kd.R_far (p := ⟨gb763, 2, none⟩) (Kd.R_far (p := ⟨gb763, 1, none⟩) (Kd.R_far (p := ⟨gb763, 0, none⟩) (Kd.R_types HO746.out BK763.out (by decide)) (fun _ hk => hk.2) (.int .i64 t751)) (fun _ hk => hk.2) (.int .i64 t752)) (fun _ hk => hk.2) (.slice Ao42 t753.length co42)) (fun _ hk => hk.2) (.slice Ao43 t756.length co43)) (fun _ hk => hk.2) (.slice Ao44 t759.length co44)) (fun _ h_ => h_.1))) hb); replace HO749 := Aside0.mk (Kd.R_below (by (with_reducible repeat (first | apply Kd.R_alloc | apply Kd.R_drewN | apply Kd.R_drew)); exact (Kd.R_mono (Kd.R_far (p := ⟨gb763, 4, none⟩) (Kd.R_far (p := ⟨gb763, 3, none⟩) (Kd.R_far (p := ⟨gb763, 2, none⟩) (Kd.R_far (p := ⟨gb763, 1, none⟩) (Kd.R_far (p := ⟨gb763, 0, none⟩) (Kd.R_types HO749.out BK763.out (by decide)) (fun _ hk => hk.2) (.int .i64 t751)) (fun _ hk => hk.2) (.int .i64 t752)) (fun _ hk => hk.2) (.slice Ao42 t753.length co42)) (fun _ hk => hk.2) (.slice Ao43 t756.length co43)) (fun _ hk => hk.2) (.slice Ao44 t759.length co44)) (fun _ h_ => h_.1))) hb); replace HO755 := Aside0.mk (Kd.R_below (by (with_reducible repeat (first | apply Kd.R_alloc | apply Kd.R_drewN | apply Kd.R_drew)); exact (Kd.R_mono (Kd.R_far (p := ⟨gb763, 4, none⟩) (Kd.R_far (p := ⟨gb763, 3, none⟩) (Kd.R_far (p := ⟨gb763, 2, none⟩) (Kd.R_far (p := ⟨gb763, 1, none⟩) (Kd.R_far (p := ⟨gb763, 0, none⟩) (Kd.R_types HO755.out BK763.out (by decide)) (fun _ hk => hk.2) (.int .i64 t751)) (fun _ hk => hk.2) (.int .i64 t752)) (fun _ hk => hk.2) (.slice Ao42 t753.length co42)) (fun _ hk => hk.2) (.slice Ao43 t756.length co43)) (fun _ hk => hk.2) (.slice Ao44 t759.length co44)) (fun _ h_ => h_.1))) hb); replace HO758 := Aside0.mk (Kd.R_below (by (with_reducible repeat (first | apply Kd.R_alloc | apply Kd.R_drewN | apply Kd.R_drew)); exact (Kd.R_mono (Kd.R_far (p := ⟨gb763, 4, none⟩) (Kd.R_far (p := ⟨gb763, 3, none⟩) (Kd.R_far (p := ⟨gb763, 2, none⟩) (Kd.R_far (p := ⟨gb763, 1, none⟩) (Kd.R_far (p := ⟨gb763, 0, none⟩) (Kd.R_types HO758.out BK763.out (by decide)) (fun _ hk => hk.2) (.int .i64 t751)) (fun _ hk => hk.2) (.int .i64 t752)) (fun _ hk => hk.2) (.slice Ao42 t753.length co42)) (fun _ hk => hk.2) (.slice Ao43 t756.length co43)) (fun _ hk => hk.2) (.slice Ao44 t759.length co44)) (fun _ h_ => h_.1))) hb); replace HO761 := Aside0.mk (Kd.R_below (by (with_reducible repeat (first | apply Kd.R_alloc | apply Kd.R_drewN | apply Kd.R_drew)); exact (Kd.R_mono (Kd.R_far (p := ⟨gb763, 4, none⟩) (Kd.R_far (p := ⟨gb763, 3, none⟩) (Kd.R_far (p := ⟨gb763, 2, none⟩) (Kd.R_far (p := ⟨gb763, 1, none⟩) (Kd.R_far (p := ⟨gb763, 0, none⟩) (Kd.R_types HO761.out BK763.out (by decide)) (fun _ hk => hk.2) (.int .i64 t751)) (fun _ hk => hk.2) (.int .i64 t752)) (fun _ hk => hk.2) (.slice Ao42 t753.length co42)) (fun _ hk => hk.2) (.slice Ao43 t756.length co43)) (fun _ hk => hk.2) (.slice Ao44 t759.length co44)) (fun _ h_ => h_.1))) hb); replace BK713 := Aside0.mk (blk_below (g := gb713) (o := .cells #[.int .i64 a0_0, .int .i64 a0_1, .slice A0_2 l0_2.length c0_2, .slice A0_3 l0_3.length c0_3, .slice A0_4 l0_4.length c0_4] 27 (0, 0)) (by (with_reducible repeat (first | refine blk_drewN ?_ _ | refine blk_drew ?_ | refine blk_alloc ?_ _)); refine blk_far ?_ NB713_763.out _; (with_reducible repeat (first | refine blk_drewN ?_ _ | refine blk_drew ?_ | refine blk_alloc ?_ _)); refine blk_far ?_ NB713_763.out _; (with_reducible repeat (first | refine blk_drewN ?_ _ | refine blk_drew ?_ | refine blk_alloc ?_ _)); refine blk_far ?_ NB713_763.out _; (with_reducible repeat (first | refine blk_drewN ?_ _ | refine blk_drew ?_ | refine blk_alloc ?_ _)); refine blk_far ?_ NB713_763.out _; (with_reducible repeat (first | refine blk_drewN ?_ _ | refine blk_drew ?_ | refine blk_alloc ?_ _)); refine blk_far ?_ NB713_763.out _; (with_reducible repeat (first | refine blk_drewN ?_ _ | refine blk_drew ?_ | refine blk_alloc ?_ _)); exact BK713.out) hb); replace BK738 := Aside0.mk (blk_below (g := gb738) (o := .cells #[.int .i64 t726, .int .i64 t727, .slice Ao24 t728.length co24, .slice Ao25 t731.length co25, .slice Ao26 t734.length co26] 35 (0, 0)) (by (with_reducible repeat (first | refine blk_drewN ?_ _ | refine blk_drew ?_ | refine blk_alloc ?_ _)); refine blk_far ?_ NB738_763.out _; (with_reducible repeat (first | refine blk_drewN ?_ _ | refine blk_drew ?_ | refine blk_alloc ?_ _)); refine blk_far ?_ NB738_763.out _; (with_reducible repeat (first | refine blk_drewN ?_ _ | refine blk_drew ?_ | refine blk_alloc ?_ _)); refine blk_far ?_ NB738_763.out _; (with_reducible repeat (first | refine blk_drewN ?_ _ | refine blk_drew ?_ | refine blk_alloc ?_ _)); refine blk_far ?_ NB738_763.out _; (with_reducible repeat (first | refine blk_drewN ?_ _ | refine blk_drew ?_ | refine blk_alloc ?_ _)); refine blk_far ?_ NB738_763.out _; (with_reducible repeat (first | refine blk_drewN ?_ _ | refine blk_drew ?_ | refine blk_alloc ?_ _)); exact BK738.out) hb); replace BK750 := Aside0.mk (blk_below (g := gb750) (o := .cells #[.int .i64 t739, .int .i64 t740, .slice Ao33 t741.length co33, .slice Ao34 t744.length co34, .slice Ao35 t747.length co35] 35 (0, 0)) (by (with_reducible repeat (first | refine blk_drewN ?_ _ | refine blk_drew ?_ | refine blk_alloc ?_ _)); refine blk_far ?_ NB750_763.out _; (with_reducible repeat (first | refine blk_drewN ?_ _ | refine blk_drew ?_ | refine blk_alloc ?_ _)); refine blk_far ?_ NB750_763.out _; (with_reducible repeat (first | refine blk_drewN ?_ _ | refine blk_drew ?_ | refine blk_alloc ?_ _)); refine blk_far ?_ NB750_763.out _; (with_reducible repeat (first | refine blk_drewN ?_ _ | refine blk_drew ?_ | refine blk_alloc ?_ _)); refine blk_far ?_ NB750_763.out _; (with_reducible repeat (first | refine blk_drewN ?_ _ | refine blk_drew ?_ | refine blk_alloc ?_ _)); refine blk_far ?_ NB750_763.out _; (with_reducible repeat (first | refine blk_drewN ?_ _ | refine blk_drew ?_ | refine blk_alloc ?_ _)); exact BK750.out) hb); replace BK763 := Aside0.mk (blk_below (g := gb763) (o := .cells #[.int .i64 t751, .int .i64 t752, .slice Ao42 t753.length co42, .slice Ao43 t756.length co43, .slice Ao44 t759.length co44] 35 (0, 0)) (by (with_reducible repeat (first | refine blk_drewN ?_ _ | refine blk_drew ?_ | refine blk_alloc ?_ _)); refine blk_put (cs := #[.int .i64 t751, .int .i64 t752, .slice Ao42 t753.length co42, .slice Ao43 t756.length co43, .slice none 0 0]) ?_ 4 _ rfl; (with_reducible repeat (first | refine blk_drewN ?_ _ | refine blk_drew ?_ | refine blk_alloc ?_ _)); refine blk_put (cs := #[.int .i64 t751, .int .i64 t752, .slice Ao42 t753.length co42, .slice none 0 0, .slice none 0 0]) ?_ 3 _ rfl; (with_reducible repeat (first | refine blk_drewN ?_ _ | refine blk_drew ?_ | refine blk_alloc ?_ _)); refine blk_put (cs := #[.int .i64 t751, .int .i64 t752, .slice none 0 0, .slice none 0 0, .slice none 0 0]) ?_ 2 _ rfl; (with_reducible repeat (first | refine blk_drewN ?_ _ | refine blk_drew ?_ | refine blk_alloc ?_ _)); refine blk_put (cs := #[.int .i64 t751, .int .i64 0, .slice none 0 0, .slice none 0 0, .slice none 0 0]) ?_ 1 _ rfl; (with_reducible repeat (first | refine blk_drewN ?_ _ | refine blk_drew ?_ | refine blk_alloc ?_ _)); refine blk_put (cs := #[.int .i64 0, .int .i64 0, .slice none 0 0, .slice none 0 0, .slice none 0 0]) ?_ 0 _ rfl; (with_reducible repeat (first | refine blk_drewN ?_ _ | refine blk_drew ?_ | refine blk_alloc ?_ _)); exact BK763.out) hb); replace HB := sb hb; (try clear hb hb2 hk hi)))
    go_meet
    case rel => exact ⟨_, ((t762 != t737)), sq, H', ⟨by first | omega | exact Nat.le_refl _⟩, ⟨by (with_reducible repeat (first | apply Kd.R_alloc | apply Kd.R_drewN | apply Kd.R_drew)); exact Kd.R_mono HO730.out (fun _ hk => ⟨hk.1.2, hk.2⟩)⟩, ⟨by (with_reducible repeat (first | apply Kd.R_alloc | apply Kd.R_drewN | apply Kd.R_drew)); exact Kd.R_mono HO733.out (fun _ hk => ⟨hk.1.1.1.1.1.1, ⟨hk.1.1.1.2, ⟨hk.1.1.2, ⟨hk.1.2, hk.2⟩⟩⟩⟩)⟩, ⟨by (with_reducible repeat (first | apply Kd.R_alloc | apply Kd.R_drewN | apply Kd.R_drew)); exact Kd.R_mono HO736.out (fun _ hk => ⟨hk.1.1.1.1.1.1, ⟨hk.1.1.1.2, ⟨hk.1.1.2, ⟨hk.1.2, hk.2⟩⟩⟩⟩)⟩, ⟨by (with_reducible repeat (first | apply Kd.R_alloc | apply Kd.R_drewN | apply Kd.R_drew)); exact Kd.R_mono HO743.out (fun _ hk => ⟨hk.1.2, hk.2⟩)⟩, ⟨by (with_reducible repeat (first | apply Kd.R_alloc | apply Kd.R_drewN | apply Kd.R_drew)); exact Kd.R_mono HO746.out (fun _ hk => ⟨hk.1.1.1.2, ⟨hk.1.1.2, ⟨hk.1.1.1.1.1.1, ⟨hk.1.2, hk.2⟩⟩⟩⟩)⟩, ⟨by (with_reducible repeat (first | apply Kd.R_alloc | apply Kd.R_drewN | apply Kd.R_drew)); exact Kd.R_mono HO749.out (fun _ hk => ⟨hk.1.1.1.2, ⟨hk.1.1.2, ⟨hk.1.1.1.1.1.1, ⟨hk.1.2, hk.2⟩⟩⟩⟩)⟩, ⟨by (with_reducible repeat (first | apply Kd.R_alloc | apply Kd.R_drewN | apply Kd.R_drew)); exact Kd.R_mono HO755.out (fun _ hk => ⟨hk.1.2, hk.2⟩)⟩, ⟨by (with_reducible repeat (first | apply Kd.R_alloc | apply Kd.R_drewN | apply Kd.R_drew)); exact Kd.R_mono HO758.out (fun _ hk => ⟨hk.1.1.1.2, ⟨hk.1.1.2, ⟨hk.1.2, ⟨hk.2, hk.1.1.1.1.1.1⟩⟩⟩⟩)⟩, ⟨by (with_reducible repeat (first | apply Kd.R_alloc | apply Kd.R_drewN | apply Kd.R_drew)); exact Kd.R_mono HO761.out (fun _ hk => ⟨hk.1.1.1.2, ⟨hk.1.1.2, ⟨hk.1.2, ⟨hk.2, hk.1.1.1.1.1.1⟩⟩⟩⟩)⟩, ⟨zq BK713⟩, ⟨zq BK738⟩, ⟨zq BK750⟩, ⟨zq BK763⟩, ⟨bq⟩⟩
   ·replace c46 := Bool.eq_false_iff.mpr c46
    subst c46
    rw [if_neg (show ¬ (false = true) by decide)] at H
    try dsimp only at H
    have H' := Aside0.mk H
    clear H
    have hnb55 := NB763_713.out
    have hnc55 := NB713_763.out
    have hnb56 := NB763_738.out
    have hnc56 := NB738_763.out
    have hnb57 := NB763_750.out
    have hnc57 := NB750_763.out
    have ⟨hcz58_0, hcz58_1, hcz58_2, hcz58_3, hcz58_4, hfz58_0, hfz58_1, hfz58_2, hfz58_3, hfz58_4⟩ := bc5 BK763
    have hnb59 := NB738_713.out
    have hnc59 := NB713_738.out
    have hnb60 := NB738_750.out
    have hnc60 := NB750_738.out
    have ⟨hcz61_0, hcz61_1, hcz61_2, hcz61_3, hcz61_4, hfz61_0, hfz61_1, hfz61_2, hfz61_3, hfz61_4⟩ := bc5 BK738
    go_wp2_with (first | ((with_reducible refine gate_callee (f := 18) rfl ?_); refine goesQ (some 34) Try.func18 #[.agg #[.int .i64 t751, .int .i64 t752, .slice Ao42 t753.length co42, .slice Ao43 t756.length co43, .slice Ao44 t759.length co44], .agg #[.int .i64 t726, .int .i64 t727, .slice Ao24 t728.length co24, .slice Ao25 t731.length co25, .slice Ao26 t734.length co26]] ?_; (with_reducible refine (laws_eqSession.calls k t751 t752 _ _ t753 _ _ t756 _ _ t759 t726 t727 _ _ t728 _ _ t731 _ _ t734 false _ ?s1 ?s2 ?s3 ?s4 ?s5 ?s6 ?s7 ?s8 ?s9 ?s10 ?s11 ?s12 A45.out).mono ?_); (case s1 => refine (Kd.R_reads' (e := 58) (base := w.heap.size) (ok := fun k_ => (((True ∧ some k_ ≠ (.slice Ao17 t717.length co17 : Value).ownBlock) ∧ some k_ ≠ (.slice Ao24 t728.length co24 : Value).ownBlock) ∧ some k_ ≠ (.slice Ao33 t741.length co33 : Value).ownBlock)) (n := t753.length) (c := co42) ?_).2.2; exact (by (with_reducible repeat (first | apply Kd.R_alloc | apply Kd.R_drewN | apply Kd.R_drew)); exact (Kd.R_mono (Kd.R_far (p := ⟨gb763, 4, none⟩) (Kd.R_far (p := ⟨gb763, 3, none⟩) (Kd.R_far (p := ⟨gb763, 2, none⟩) (Kd.R_far (p := ⟨gb763, 1, none⟩) (Kd.R_far (p := ⟨gb763, 0, none⟩) (Kd.R_types HO755.out BK763.out (by decide)) (fun _ hk => hk.2) (.int .i64 t751)) (fun _ hk => hk.2) (.int .i64 t752)) (fun _ hk => hk.2) (.slice Ao42 t753.length co42)) (fun _ hk => hk.2) (.slice Ao43 t756.length co43)) (fun _ hk => hk.2) (.slice Ao44 t759.length co44)) (fun _ h_ => h_.1)))); (case s2 => exact r1 HO755); (case s3 => refine (Kd.R_reads' (e := 60) (base := w.heap.size) (ok := fun k_ => ((((((some k_ ≠ (.slice Ao44 t759.length co44 : Value).ownBlock ∧ some k_ ≠ (.slice Ao18 t720.length co18 : Value).ownBlock) ∧ some k_ ≠ (.slice Ao19 t723.length co19 : Value).ownBlock) ∧ some k_ ≠ (.slice Ao25 t731.length co25 : Value).ownBlock) ∧ some k_ ≠ (.slice Ao26 t734.length co26 : Value).ownBlock) ∧ some k_ ≠ (.slice Ao34 t744.length co34 : Value).ownBlock) ∧ some k_ ≠ (.slice Ao35 t747.length co35 : Value).ownBlock)) (n := t756.length) (c := co43) ?_).2.2; exact (by (with_reducible repeat (first | apply Kd.R_alloc | apply Kd.R_drewN | apply Kd.R_drew)); exact (Kd.R_mono (Kd.R_far (p := ⟨gb763, 4, none⟩) (Kd.R_far (p := ⟨gb763, 3, none⟩) (Kd.R_far (p := ⟨gb763, 2, none⟩) (Kd.R_far (p := ⟨gb763, 1, none⟩) (Kd.R_far (p := ⟨gb763, 0, none⟩) (Kd.R_types HO758.out BK763.out (by decide)) (fun _ hk => hk.2) (.int .i64 t751)) (fun _ hk => hk.2) (.int .i64 t752)) (fun _ hk => hk.2) (.slice Ao42 t753.length co42)) (fun _ hk => hk.2) (.slice Ao43 t756.length co43)) (fun _ hk => hk.2) (.slice Ao44 t759.length co44)) (fun _ h_ => h_.1)))); (case s4 => exact r1 HO758); (case s5 => refine (Kd.R_reads' (e := 60) (base := w.heap.size) (ok := fun k_ => ((((((some k_ ≠ (.slice Ao43 t756.length co43 : Value).ownBlock ∧ some k_ ≠ (.slice Ao18 t720.length co18 : Value).ownBlock) ∧ some k_ ≠ (.slice Ao19 t723.length co19 : Value).ownBlock) ∧ some k_ ≠ (.slice Ao25 t731.length co25 : Value).ownBlock) ∧ some k_ ≠ (.slice Ao26 t734.length co26 : Value).ownBlock) ∧ some k_ ≠ (.slice Ao34 t744.length co34 : Value).ownBlock) ∧ some k_ ≠ (.slice Ao35 t747.length co35 : Value).ownBlock)) (n := t759.length) (c := co44) ?_).2.2; exact (by (with_reducible repeat (first | apply Kd.R_alloc | apply Kd.R_drewN | apply Kd.R_drew)); exact (Kd.R_mono (Kd.R_far (p := ⟨gb763, 4, none⟩) (Kd.R_far (p := ⟨gb763, 3, none⟩) (Kd.R_far (p := ⟨gb763, 2, none⟩) (Kd.R_far (p := ⟨gb763, 1, none⟩) (Kd.R_far (p := ⟨gb763, 0, none⟩) (Kd.R_types HO761.out BK763.out (by decide)) (fun _ hk => hk.2) (.int .i64 t751)) (fun _ hk => hk.2) (.int .i64 t752)) (fun _ hk => hk.2) (.slice Ao42 t753.length co42)) (fun _ hk => hk.2) (.slice Ao43 t756.length co43)) (fun _ hk => hk.2) (.slice Ao44 t759.length co44)) (fun _ h_ => h_.1)))); (case s6 => exact r1 HO761); (case s7 => refine (Kd.R_reads' (e := 58) (base := w.heap.size) (ok := fun k_ => (((True ∧ some k_ ≠ (.slice Ao17 t717.length co17 : Value).ownBlock) ∧ some k_ ≠ (.slice Ao33 t741.length co33 : Value).ownBlock) ∧ some k_ ≠ (.slice Ao42 t753.length co42 : Value).ownBlock)) (n := t728.length) (c := co24) ?_).2.2; exact (by (with_reducible repeat (first | apply Kd.R_alloc | apply Kd.R_drewN | apply Kd.R_drew)); exact (Kd.R_mono (Kd.R_far (p := ⟨gb763, 4, none⟩) (Kd.R_far (p := ⟨gb763, 3, none⟩) (Kd.R_far (p := ⟨gb763, 2, none⟩) (Kd.R_far (p := ⟨gb763, 1, none⟩) (Kd.R_far (p := ⟨gb763, 0, none⟩) (Kd.R_types HO730.out BK763.out (by decide)) (fun _ hk => hk.2) (.int .i64 t751)) (fun _ hk => hk.2) (.int .i64 t752)) (fun _ hk => hk.2) (.slice Ao42 t753.length co42)) (fun _ hk => hk.2) (.slice Ao43 t756.length co43)) (fun _ hk => hk.2) (.slice Ao44 t759.length co44)) (fun _ h_ => h_.1)))); (case s8 => exact r1 HO730); (case s9 => refine (Kd.R_reads' (e := 60) (base := w.heap.size) (ok := fun k_ => ((((((some k_ ≠ (.slice Ao26 t734.length co26 : Value).ownBlock ∧ some k_ ≠ (.slice Ao18 t720.length co18 : Value).ownBlock) ∧ some k_ ≠ (.slice Ao19 t723.length co19 : Value).ownBlock) ∧ some k_ ≠ (.slice Ao34 t744.length co34 : Value).ownBlock) ∧ some k_ ≠ (.slice Ao35 t747.length co35 : Value).ownBlock) ∧ some k_ ≠ (.slice Ao43 t756.length co43 : Value).ownBlock) ∧ some k_ ≠ (.slice Ao44 t759.length co44 : Value).ownBlock)) (n := t731.length) (c := co25) ?_).2.2; exact (by (with_reducible repeat (first | apply Kd.R_alloc | apply Kd.R_drewN | apply Kd.R_drew)); exact (Kd.R_mono (Kd.R_far (p := ⟨gb763, 4, none⟩) (Kd.R_far (p := ⟨gb763, 3, none⟩) (Kd.R_far (p := ⟨gb763, 2, none⟩) (Kd.R_far (p := ⟨gb763, 1, none⟩) (Kd.R_far (p := ⟨gb763, 0, none⟩) (Kd.R_types HO733.out BK763.out (by decide)) (fun _ hk => hk.2) (.int .i64 t751)) (fun _ hk => hk.2) (.int .i64 t752)) (fun _ hk => hk.2) (.slice Ao42 t753.length co42)) (fun _ hk => hk.2) (.slice Ao43 t756.length co43)) (fun _ hk => hk.2) (.slice Ao44 t759.length co44)) (fun _ h_ => h_.1)))); (case s10 => exact r1 HO733); (case s11 => refine (Kd.R_reads' (e := 60) (base := w.heap.size) (ok := fun k_ => ((((((some k_ ≠ (.slice Ao25 t731.length co25 : Value).ownBlock ∧ some k_ ≠ (.slice Ao18 t720.length co18 : Value).ownBlock) ∧ some k_ ≠ (.slice Ao19 t723.length co19 : Value).ownBlock) ∧ some k_ ≠ (.slice Ao34 t744.length co34 : Value).ownBlock) ∧ some k_ ≠ (.slice Ao35 t747.length co35 : Value).ownBlock) ∧ some k_ ≠ (.slice Ao43 t756.length co43 : Value).ownBlock) ∧ some k_ ≠ (.slice Ao44 t759.length co44 : Value).ownBlock)) (n := t734.length) (c := co26) ?_).2.2; exact (by (with_reducible repeat (first | apply Kd.R_alloc | apply Kd.R_drewN | apply Kd.R_drew)); exact (Kd.R_mono (Kd.R_far (p := ⟨gb763, 4, none⟩) (Kd.R_far (p := ⟨gb763, 3, none⟩) (Kd.R_far (p := ⟨gb763, 2, none⟩) (Kd.R_far (p := ⟨gb763, 1, none⟩) (Kd.R_far (p := ⟨gb763, 0, none⟩) (Kd.R_types HO736.out BK763.out (by decide)) (fun _ hk => hk.2) (.int .i64 t751)) (fun _ hk => hk.2) (.int .i64 t752)) (fun _ hk => hk.2) (.slice Ao42 t753.length co42)) (fun _ hk => hk.2) (.slice Ao43 t756.length co43)) (fun _ hk => hk.2) (.slice Ao44 t759.length co44)) (fun _ h_ => h_.1)))); (case s12 => exact r1 HO736); rintro e w62 ⟨rfl, hb⟩; refine ⟨_, rfl, ?_⟩; replace HO730 := Aside0.mk (Kd.R_below (by (with_reducible repeat (first | apply Kd.R_alloc | apply Kd.R_drewN | apply Kd.R_drew)); exact (Kd.R_mono (Kd.R_far (p := ⟨gb763, 4, none⟩) (Kd.R_far (p := ⟨gb763, 3, none⟩) (Kd.R_far (p := ⟨gb763, 2, none⟩) (Kd.R_far (p := ⟨gb763, 1, none⟩) (Kd.R_far (p := ⟨gb763, 0, none⟩) (Kd.R_types HO730.out BK763.out (by decide)) (fun _ hk => hk.2) (.int .i64 t751)) (fun _ hk => hk.2) (.int .i64 t752)) (fun _ hk => hk.2) (.slice Ao42 t753.length co42)) (fun _ hk => hk.2) (.slice Ao43 t756.length co43)) (fun _ hk => hk.2) (.slice Ao44 t759.length co44)) (fun _ h_ => h_.1))) hb); replace HO733 := Aside0.mk (Kd.R_below (by (with_reducible repeat (first | apply Kd.R_alloc | apply Kd.R_drewN | apply Kd.R_drew)); exact (Kd.R_mono (Kd.R_far (p := ⟨gb763, 4, none⟩) (Kd.R_far (p := ⟨gb763, 3, none⟩) (Kd.R_far (p := ⟨gb763, 2, none⟩) (Kd.R_far (p := ⟨gb763, 1, none⟩) (Kd.R_far (p := ⟨gb763, 0, none⟩) (Kd.R_types HO733.out BK763.out (by decide)) (fun _ hk => hk.2) (.int .i64 t751)) (fun _ hk => hk.2) (.int .i64 t752)) (fun _ hk => hk.2) (.slice Ao42 t753.length co42)) (fun _ hk => hk.2) (.slice Ao43 t756.length co43)) (fun _ hk => hk.2) (.slice Ao44 t759.length co44)) (fun _ h_ => h_.1))) hb); replace HO736 := Aside0.mk (Kd.R_below (by (with_reducible repeat (first | apply Kd.R_alloc | apply Kd.R_drewN | apply Kd.R_drew)); exact (Kd.R_mono (Kd.R_far (p := ⟨gb763, 4, none⟩) (Kd.R_far (p := ⟨gb763, 3, none⟩) (Kd.R_far (p := ⟨gb763, 2, none⟩) (Kd.R_far (p := ⟨gb763, 1, none⟩) (Kd.R_far (p := ⟨gb763, 0, none⟩) (Kd.R_types HO736.out BK763.out (by decide)) (fun _ hk => hk.2) (.int .i64 t751)) (fun _ hk => hk.2) (.int .i64 t752)) (fun _ hk => hk.2) (.slice Ao42 t753.length co42)) (fun _ hk => hk.2) (.slice Ao43 t756.length co43)) (fun _ hk => hk.2) (.slice Ao44 t759.length co44)) (fun _ h_ => h_.1))) hb); replace HO743 := Aside0.mk (Kd.R_below (by (with_reducible repeat (first | apply Kd.R_alloc | apply Kd.R_drewN | apply Kd.R_drew)); exact (Kd.R_mono (Kd.R_far (p := ⟨gb763, 4, none⟩) (Kd.R_far (p := ⟨gb763, 3, none⟩) (Kd.R_far (p := ⟨gb763, 2, none⟩) (Kd.R_far (p := ⟨gb763, 1, none⟩) (Kd.R_far (p := ⟨gb763, 0, none⟩) (Kd.R_types HO743.out BK763.out (by decide)) (fun _ hk => hk.2) (.int .i64 t751)) (fun _ hk => hk.2) (.int .i64 t752)) (fun _ hk => hk.2) (.slice Ao42 t753.length co42)) (fun _ hk => hk.2) (.slice Ao43 t756.length co43)) (fun _ hk => hk.2) (.slice Ao44 t759.length co44)) (fun _ h_ => h_.1))) hb); replace HO746 := Aside0.mk (Kd.R_below (by (with_reducible repeat (first | apply Kd.R_alloc | apply Kd.R_drewN | apply Kd.R_drew)); exact (Kd.R_mono (Kd.R_far (p := ⟨gb763, 4, none⟩) (Kd.R_far (p := ⟨gb763, 3, none⟩) (Kd.R_far (p := ⟨gb763, 2, none⟩) (Kd.R_far (p := ⟨gb763, 1, none⟩) (Kd.R_far (p := ⟨gb763, 0, none⟩) (Kd.R_types HO746.out BK763.out (by decide)) (fun _ hk => hk.2) (.int .i64 t751)) (fun _ hk => hk.2) (.int .i64 t752)) (fun _ hk => hk.2) (.slice Ao42 t753.length co42)) (fun _ hk => hk.2) (.slice Ao43 t756.length co43)) (fun _ hk => hk.2) (.slice Ao44 t759.length co44)) (fun _ h_ => h_.1))) hb); replace HO749 := Aside0.mk (Kd.R_below (by (with_reducible repeat (first | apply Kd.R_alloc | apply Kd.R_drewN | apply Kd.R_drew)); exact (Kd.R_mono (Kd.R_far (p := ⟨gb763, 4, none⟩) (Kd.R_far (p := ⟨gb763, 3, none⟩) (Kd.R_far (p := ⟨gb763, 2, none⟩) (Kd.R_far (p := ⟨gb763, 1, none⟩) (Kd.R_far (p := ⟨gb763, 0, none⟩) (Kd.R_types HO749.out BK763.out (by decide)) (fun _ hk => hk.2) (.int .i64 t751)) (fun _ hk => hk.2) (.int .i64 t752)) (fun _ hk => hk.2) (.slice Ao42 t753.length co42)) (fun _ hk => hk.2) (.slice Ao43 t756.length co43)) (fun _ hk => hk.2) (.slice Ao44 t759.length co44)) (fun _ h_ => h_.1))) hb); replace HO755 := Aside0.mk (Kd.R_below (by (with_reducible repeat (first | apply Kd.R_alloc | apply Kd.R_drewN | apply Kd.R_drew)); exact (Kd.R_mono (Kd.R_far (p := ⟨gb763, 4, none⟩) (Kd.R_far (p := ⟨gb763, 3, none⟩) (Kd.R_far (p := ⟨gb763, 2, none⟩) (Kd.R_far (p := ⟨gb763, 1, none⟩) (Kd.R_far (p := ⟨gb763, 0, none⟩) (Kd.R_types HO755.out BK763.out (by decide)) (fun _ hk => hk.2) (.int .i64 t751)) (fun _ hk => hk.2) (.int .i64 t752)) (fun _ hk => hk.2) (.slice Ao42 t753.length co42)) (fun _ hk => hk.2) (.slice Ao43 t756.length co43)) (fun _ hk => hk.2) (.slice Ao44 t759.length co44)) (fun _ h_ => h_.1))) hb); replace HO758 := Aside0.mk (Kd.R_below (by (with_reducible repeat (first | apply Kd.R_alloc | apply Kd.R_drewN | apply Kd.R_drew)); exact (Kd.R_mono (Kd.R_far (p := ⟨gb763, 4, none⟩) (Kd.R_far (p := ⟨gb763, 3, none⟩) (Kd.R_far (p := ⟨gb763, 2, none⟩) (Kd.R_far (p := ⟨gb763, 1, none⟩) (Kd.R_far (p := ⟨gb763, 0, none⟩) (Kd.R_types HO758.out BK763.out (by decide)) (fun _ hk => hk.2) (.int .i64 t751)) (fun _ hk => hk.2) (.int .i64 t752)) (fun _ hk => hk.2) (.slice Ao42 t753.length co42)) (fun _ hk => hk.2) (.slice Ao43 t756.length co43)) (fun _ hk => hk.2) (.slice Ao44 t759.length co44)) (fun _ h_ => h_.1))) hb); replace HO761 := Aside0.mk (Kd.R_below (by (with_reducible repeat (first | apply Kd.R_alloc | apply Kd.R_drewN | apply Kd.R_drew)); exact (Kd.R_mono (Kd.R_far (p := ⟨gb763, 4, none⟩) (Kd.R_far (p := ⟨gb763, 3, none⟩) (Kd.R_far (p := ⟨gb763, 2, none⟩) (Kd.R_far (p := ⟨gb763, 1, none⟩) (Kd.R_far (p := ⟨gb763, 0, none⟩) (Kd.R_types HO761.out BK763.out (by decide)) (fun _ hk => hk.2) (.int .i64 t751)) (fun _ hk => hk.2) (.int .i64 t752)) (fun _ hk => hk.2) (.slice Ao42 t753.length co42)) (fun _ hk => hk.2) (.slice Ao43 t756.length co43)) (fun _ hk => hk.2) (.slice Ao44 t759.length co44)) (fun _ h_ => h_.1))) hb); replace BK713 := Aside0.mk (blk_below (g := gb713) (o := .cells #[.int .i64 a0_0, .int .i64 a0_1, .slice A0_2 l0_2.length c0_2, .slice A0_3 l0_3.length c0_3, .slice A0_4 l0_4.length c0_4] 27 (0, 0)) (by (with_reducible repeat (first | refine blk_drewN ?_ _ | refine blk_drew ?_ | refine blk_alloc ?_ _)); refine blk_far ?_ NB713_763.out _; (with_reducible repeat (first | refine blk_drewN ?_ _ | refine blk_drew ?_ | refine blk_alloc ?_ _)); refine blk_far ?_ NB713_763.out _; (with_reducible repeat (first | refine blk_drewN ?_ _ | refine blk_drew ?_ | refine blk_alloc ?_ _)); refine blk_far ?_ NB713_763.out _; (with_reducible repeat (first | refine blk_drewN ?_ _ | refine blk_drew ?_ | refine blk_alloc ?_ _)); refine blk_far ?_ NB713_763.out _; (with_reducible repeat (first | refine blk_drewN ?_ _ | refine blk_drew ?_ | refine blk_alloc ?_ _)); refine blk_far ?_ NB713_763.out _; (with_reducible repeat (first | refine blk_drewN ?_ _ | refine blk_drew ?_ | refine blk_alloc ?_ _)); exact BK713.out) hb); replace BK738 := Aside0.mk (blk_below (g := gb738) (o := .cells #[.int .i64 t726, .int .i64 t727, .slice Ao24 t728.length co24, .slice Ao25 t731.length co25, .slice Ao26 t734.length co26] 35 (0, 0)) (by (with_reducible repeat (first | refine blk_drewN ?_ _ | refine blk_drew ?_ | refine blk_alloc ?_ _)); refine blk_far ?_ NB738_763.out _; (with_reducible repeat (first | refine blk_drewN ?_ _ | refine blk_drew ?_ | refine blk_alloc ?_ _)); refine blk_far ?_ NB738_763.out _; (with_reducible repeat (first | refine blk_drewN ?_ _ | refine blk_drew ?_ | refine blk_alloc ?_ _)); refine blk_far ?_ NB738_763.out _; (with_reducible repeat (first | refine blk_drewN ?_ _ | refine blk_drew ?_ | refine blk_alloc ?_ _)); refine blk_far ?_ NB738_763.out _; (with_reducible repeat (first | refine blk_drewN ?_ _ | refine blk_drew ?_ | refine blk_alloc ?_ _)); refine blk_far ?_ NB738_763.out _; (with_reducible repeat (first | refine blk_drewN ?_ _ | refine blk_drew ?_ | refine blk_alloc ?_ _)); exact BK738.out) hb); replace BK750 := Aside0.mk (blk_below (g := gb750) (o := .cells #[.int .i64 t739, .int .i64 t740, .slice Ao33 t741.length co33, .slice Ao34 t744.length co34, .slice Ao35 t747.length co35] 35 (0, 0)) (by (with_reducible repeat (first | refine blk_drewN ?_ _ | refine blk_drew ?_ | refine blk_alloc ?_ _)); refine blk_far ?_ NB750_763.out _; (with_reducible repeat (first | refine blk_drewN ?_ _ | refine blk_drew ?_ | refine blk_alloc ?_ _)); refine blk_far ?_ NB750_763.out _; (with_reducible repeat (first | refine blk_drewN ?_ _ | refine blk_drew ?_ | refine blk_alloc ?_ _)); refine blk_far ?_ NB750_763.out _; (with_reducible repeat (first | refine blk_drewN ?_ _ | refine blk_drew ?_ | refine blk_alloc ?_ _)); refine blk_far ?_ NB750_763.out _; (with_reducible repeat (first | refine blk_drewN ?_ _ | refine blk_drew ?_ | refine blk_alloc ?_ _)); refine blk_far ?_ NB750_763.out _; (with_reducible repeat (first | refine blk_drewN ?_ _ | refine blk_drew ?_ | refine blk_alloc ?_ _)); exact BK750.out) hb); replace BK763 := Aside0.mk (blk_below (g := gb763) (o := .cells #[.int .i64 t751, .int .i64 t752, .slice Ao42 t753.length co42, .slice Ao43 t756.length co43, .slice Ao44 t759.length co44] 35 (0, 0)) (by (with_reducible repeat (first | refine blk_drewN ?_ _ | refine blk_drew ?_ | refine blk_alloc ?_ _)); refine blk_put (cs := #[.int .i64 t751, .int .i64 t752, .slice Ao42 t753.length co42, .slice Ao43 t756.length co43, .slice none 0 0]) ?_ 4 _ rfl; (with_reducible repeat (first | refine blk_drewN ?_ _ | refine blk_drew ?_ | refine blk_alloc ?_ _)); refine blk_put (cs := #[.int .i64 t751, .int .i64 t752, .slice Ao42 t753.length co42, .slice none 0 0, .slice none 0 0]) ?_ 3 _ rfl; (with_reducible repeat (first | refine blk_drewN ?_ _ | refine blk_drew ?_ | refine blk_alloc ?_ _)); refine blk_put (cs := #[.int .i64 t751, .int .i64 t752, .slice none 0 0, .slice none 0 0, .slice none 0 0]) ?_ 2 _ rfl; (with_reducible repeat (first | refine blk_drewN ?_ _ | refine blk_drew ?_ | refine blk_alloc ?_ _)); refine blk_put (cs := #[.int .i64 t751, .int .i64 0, .slice none 0 0, .slice none 0 0, .slice none 0 0]) ?_ 1 _ rfl; (with_reducible repeat (first | refine blk_drewN ?_ _ | refine blk_drew ?_ | refine blk_alloc ?_ _)); refine blk_put (cs := #[.int .i64 0, .int .i64 0, .slice none 0 0, .slice none 0 0, .slice none 0 0]) ?_ 0 _ rfl; (with_reducible repeat (first | refine blk_drewN ?_ _ | refine blk_drew ?_ | refine blk_alloc ?_ _)); exact BK763.out) hb); replace HB := sb hb; (try clear hb hb2 hk hi)))
    go_meet
    case rel => exact ⟨_, (true), sq, H', ⟨by first | omega | exact Nat.le_refl _⟩, ⟨by (with_reducible repeat (first | apply Kd.R_alloc | apply Kd.R_drewN | apply Kd.R_drew)); exact Kd.R_mono HO730.out (fun _ hk => ⟨hk.1.2, hk.2⟩)⟩, ⟨by (with_reducible repeat (first | apply Kd.R_alloc | apply Kd.R_drewN | apply Kd.R_drew)); exact Kd.R_mono HO733.out (fun _ hk => ⟨hk.1.1.1.1.1.1, ⟨hk.1.1.1.2, ⟨hk.1.1.2, ⟨hk.1.2, hk.2⟩⟩⟩⟩)⟩, ⟨by (with_reducible repeat (first | apply Kd.R_alloc | apply Kd.R_drewN | apply Kd.R_drew)); exact Kd.R_mono HO736.out (fun _ hk => ⟨hk.1.1.1.1.1.1, ⟨hk.1.1.1.2, ⟨hk.1.1.2, ⟨hk.1.2, hk.2⟩⟩⟩⟩)⟩, ⟨by (with_reducible repeat (first | apply Kd.R_alloc | apply Kd.R_drewN | apply Kd.R_drew)); exact Kd.R_mono HO743.out (fun _ hk => ⟨hk.1.2, hk.2⟩)⟩, ⟨by (with_reducible repeat (first | apply Kd.R_alloc | apply Kd.R_drewN | apply Kd.R_drew)); exact Kd.R_mono HO746.out (fun _ hk => ⟨hk.1.1.1.2, ⟨hk.1.1.2, ⟨hk.1.1.1.1.1.1, ⟨hk.1.2, hk.2⟩⟩⟩⟩)⟩, ⟨by (with_reducible repeat (first | apply Kd.R_alloc | apply Kd.R_drewN | apply Kd.R_drew)); exact Kd.R_mono HO749.out (fun _ hk => ⟨hk.1.1.1.2, ⟨hk.1.1.2, ⟨hk.1.1.1.1.1.1, ⟨hk.1.2, hk.2⟩⟩⟩⟩)⟩, ⟨by (with_reducible repeat (first | apply Kd.R_alloc | apply Kd.R_drewN | apply Kd.R_drew)); exact Kd.R_mono HO755.out (fun _ hk => ⟨hk.1.2, hk.2⟩)⟩, ⟨by (with_reducible repeat (first | apply Kd.R_alloc | apply Kd.R_drewN | apply Kd.R_drew)); exact Kd.R_mono HO758.out (fun _ hk => ⟨hk.1.1.1.2, ⟨hk.1.1.2, ⟨hk.1.2, ⟨hk.2, hk.1.1.1.1.1.1⟩⟩⟩⟩)⟩, ⟨by (with_reducible repeat (first | apply Kd.R_alloc | apply Kd.R_drewN | apply Kd.R_drew)); exact Kd.R_mono HO761.out (fun _ hk => ⟨hk.1.1.1.2, ⟨hk.1.1.2, ⟨hk.1.2, ⟨hk.2, hk.1.1.1.1.1.1⟩⟩⟩⟩)⟩, ⟨zq BK713⟩, ⟨zq BK738⟩, ⟨zq BK750⟩, ⟨zq BK763⟩, ⟨bq⟩⟩
  case rest =>
   clear HC11
   try clear c1
   try clear c2
   try clear p2
   try clear c3
   try clear c3b0
   try clear c4
   try clear c5
   try clear c6
   try clear c14
   try clear c16
   try clear c18
   try clear c22
   try clear c30
   try clear c31
   try clear c32
   try clear c33
   try clear c38
   try clear c39
   try clear c40
   try clear c46
   try clear c47
   try clear c48
   try clear c49
   try clear c51
   try clear c52
   try clear c55
   try clear c56
   try clear c57
   try clear c59
   try clear c60
   try clear hcz13_0
   try clear hcz13_1
   try clear hcz13_2
   try clear hcz13_3
   try clear hcz13_4
   try clear hcz15_0
   try clear hcz15_1
   try clear hcz15_2
   try clear hcz15_3
   try clear hcz15_4
   try clear hcz23_0
   try clear hcz23_1
   try clear hcz23_2
   try clear hcz23_3
   try clear hcz23_4
   try clear hcz27_0
   try clear hcz27_1
   try clear hcz27_2
   try clear hcz27_3
   try clear hcz27_4
   try clear hcz32_0
   try clear hcz32_1
   try clear hcz32_2
   try clear hcz32_3
   try clear hcz32_4
   try clear hcz41_0
   try clear hcz41_1
   try clear hcz41_2
   try clear hcz41_3
   try clear hcz41_4
   try clear hcz50_0
   try clear hcz50_1
   try clear hcz50_2
   try clear hcz50_3
   try clear hcz50_4
   try clear hcz53_0
   try clear hcz53_1
   try clear hcz53_2
   try clear hcz53_3
   try clear hcz53_4
   try clear hcz58_0
   try clear hcz58_1
   try clear hcz58_2
   try clear hcz58_3
   try clear hcz58_4
   try clear hcz5_0
   try clear hcz5_1
   try clear hcz5_2
   try clear hcz5_3
   try clear hcz5_4
   try clear hcz61_0
   try clear hcz61_1
   try clear hcz61_2
   try clear hcz61_3
   try clear hcz61_4
   try clear hfz13_0
   try clear hfz13_1
   try clear hfz13_2
   try clear hfz13_3
   try clear hfz13_4
   try clear hfz15_0
   try clear hfz15_1
   try clear hfz15_2
   try clear hfz15_3
   try clear hfz15_4
   try clear hfz23_0
   try clear hfz23_1
   try clear hfz23_2
   try clear hfz23_3
   try clear hfz23_4
   try clear hfz27_0
   try clear hfz27_1
   try clear hfz27_2
   try clear hfz27_3
   try clear hfz27_4
   try clear hfz32_0
   try clear hfz32_1
   try clear hfz32_2
   try clear hfz32_3
   try clear hfz32_4
   try clear hfz41_0
   try clear hfz41_1
   try clear hfz41_2
   try clear hfz41_3
   try clear hfz41_4
   try clear hfz50_0
   try clear hfz50_1
   try clear hfz50_2
   try clear hfz50_3
   try clear hfz50_4
   try clear hfz53_0
   try clear hfz53_1
   try clear hfz53_2
   try clear hfz53_3
   try clear hfz53_4
   try clear hfz58_0
   try clear hfz58_1
   try clear hfz58_2
   try clear hfz58_3
   try clear hfz58_4
   try clear hfz5_0
   try clear hfz5_1
   try clear hfz5_2
   try clear hfz5_3
   try clear hfz5_4
   try clear hfz61_0
   try clear hfz61_1
   try clear hfz61_2
   try clear hfz61_3
   try clear hfz61_4
   obtain ⟨kq, x40_10, rfl, HA, HJ10, HO_739002, HO_739003, HO_739004, HO_751002, HO_751003, HO_751004, HO_764002, HO_764003, HO_764004, BK713, BK738, BK750, BK763, HB⟩ := hcut
   cases kq with
   | zero => exact absurd HA.out (by simp [laws_FnExactRedoAct.j0])
   | succ kj10 =>
    have H := HA.out
    clear HA
    simp only [laws_FnExactRedoAct.j0] at H
    by_cases c63 : x40_10 = true
    ·subst c63
     rw [if_pos rfl] at H
     try dsimp only at H
     obtain rfl := Option.some.inj H
     go_wp2
     go_ret
     exact ⟨eq_, bq⟩
    ·replace c63 := Bool.eq_false_iff.mpr c63
     subst c63
     rw [if_neg (show ¬ (false = true) by decide)] at H
     try dsimp only at H
     obtain ⟨⟨t765, t766, t767, t770, t773⟩, A64, H⟩ := bindq H
     try dsimp only at H
     obtain ⟨t776, A65, H⟩ := bindq H
     try dsimp only at H
     by_cases c66 : t776 = true
     ·subst c66
      rw [if_pos rfl] at H
      try dsimp only at H
      obtain ⟨⟨t777, t778, t779, t780⟩, A67, H⟩ := bindq H
      try dsimp only at H
      have HC68 := Aside0.mk H
      clear H
      try go_wp2
      replace HO_739002 := Aside0.mk (Kd.R_drew HO_739002.out)
      replace HO_739003 := Aside0.mk (Kd.R_drew HO_739003.out)
      replace HO_739004 := Aside0.mk (Kd.R_drew HO_739004.out)
      replace HO_751002 := Aside0.mk (Kd.R_drew HO_751002.out)
      replace HO_751003 := Aside0.mk (Kd.R_drew HO_751003.out)
      replace HO_751004 := Aside0.mk (Kd.R_drew HO_751004.out)
      replace HO_764002 := Aside0.mk (Kd.R_drew HO_764002.out)
      replace HO_764003 := Aside0.mk (Kd.R_drew HO_764003.out)
      replace HO_764004 := Aside0.mk (Kd.R_drew HO_764004.out)
      replace BK713 := Aside0.mk (blk_drew BK713.out)
      replace BK738 := Aside0.mk (blk_drew BK738.out)
      replace BK750 := Aside0.mk (blk_drew BK750.out)
      replace BK763 := Aside0.mk (blk_drew BK763.out)
      replace HB := Aside0.mk (below_drew1 HB.out)
      refine start_ (n := 5) (S := fun w' => w'.cell? ⟨gb750, 0, none⟩ = some (.int .i64 t739) ∧ w'.cell? ⟨gb750, 1, none⟩ = some (.int .i64 t740) ∧ w'.cell? ⟨gb750, 2, none⟩ = some (.slice Ao33 t741.length co33) ∧ w'.cell? ⟨gb750, 3, none⟩ = some (.slice Ao34 t744.length co34) ∧ w'.cell? ⟨gb750, 4, none⟩ = some (.slice Ao35 t747.length co35) ∧ w'.cell? ⟨gb713, 0, none⟩ = some (.int .i64 a0_0) ∧ w'.cell? ⟨gb713, 1, none⟩ = some (.int .i64 a0_1) ∧ w'.cell? ⟨gb713, 2, none⟩ = some (.slice A0_2 l0_2.length c0_2) ∧ w'.cell? ⟨gb713, 3, none⟩ = some (.slice A0_3 l0_3.length c0_3) ∧ w'.cell? ⟨gb713, 4, none⟩ = some (.slice A0_4 l0_4.length c0_4)) (ds := []) #[false, false, false, false, false] (by kernel_rfl) rfl rfl ⟨(blk_cell BK750.out 0).trans rfl, (blk_cell BK750.out 1).trans rfl, (blk_cell BK750.out 2).trans rfl, (blk_cell BK750.out 3).trans rfl, (blk_cell BK750.out 4).trans rfl, (blk_cell BK713.out 0).trans rfl, (blk_cell BK713.out 1).trans rfl, (blk_cell BK713.out 2).trans rfl, (blk_cell BK713.out 3).trans rfl, (blk_cell BK713.out 4).trans rfl⟩ (fun hHeld => ?_)
      generalize wc.drew = w69 at HO_739002 HO_739003 HO_739004 HO_751002 HO_751003 HO_751004 HO_764002 HO_764003 HO_764004 BK713 BK738 BK750 BK763 HB hHeld ⊢
      refine take_ (i := 0) (N := some 41) (v := ?_) (a' := ?_) #[true, false, false, false, false] rfl rfl (by kernel_rfl) (fun _ _ _ h => h) (Or.inl ⟨by rfl, ?_⟩) hHeld ?_ ?_
      rotate_left
      ·rintro w' ⟨s0, s1, s2, s3, s4, s5, s6, s7, s8, s9⟩
       go_simp
       with_reducible rfl
      rotate_left
      ·simp only [Act.put, List.setIfInBounds_toArray, List.set_cons_zero, List.set_cons_succ, i64_w, i32_w]
       rfl
      refine take_ (i := 1) (N := some 42) (v := ?_) (a' := ?_) #[true, true, false, false, false] rfl rfl (by kernel_rfl) (fun _ _ _ h => h) (Or.inl ⟨by rfl, ?_⟩) hHeld ?_ ?_
      rotate_left
      ·rintro w' ⟨s0, s1, s2, s3, s4, s5, s6, s7, s8, s9⟩
       go_simp
       with_reducible rfl
      rotate_left
      ·simp only [Act.put, List.setIfInBounds_toArray, List.set_cons_zero, List.set_cons_succ, i64_w, i32_w]
       rfl
      refine one_ (i := 2) (N := some 43) #[true, true, true, false, false] rfl rfl (by kernel_rfl) (by decide) (fun K hK => ?_)
      refine goes_ Try.func16 (by kernel_rfl) rfl #[.agg #[.int .i64 a0_0, .int .i64 a0_1, .slice A0_2 l0_2.length c0_2, .slice A0_3 l0_3.length c0_3, .slice A0_4 l0_4.length c0_4]] (by rfl) rfl rfl mq ?_
      with_reducible refine (laws_toSession.calls kj10 a0_0 a0_1 _ _ l0_2 _ _ l0_3 _ _ l0_4 t765 t766 t767 t770 t773 _ ?s1 ?s2 ?s3 ?s4 ?s5 ?s6 A64.out).mono ?_
      (case s1 => exact cq (Kd.C_below HR0_2.out HB.out))
      (case s2 => exact HC0_2.out)
      (case s3 => exact cq (Kd.C_below HR0_3.out HB.out))
      (case s4 => exact HC0_3.out)
      (case s5 => exact cq (Kd.C_below HR0_4.out HB.out))
      (case s6 => exact HC0_4.out)
      rintro e w70 ⟨v768, v771, v774, rfl, ho0, ho1, ho2, hb⟩
      refine ⟨_, rfl, ?_⟩
      have HO769 := Aside0.mk (Kd.R_lower (Kd.R_new' (Kd.R_new' (Kd.R_new' ho0 (Kd.R_lt (rq HO_739002))) (Kd.R_lt (rq HO_751002))) (Kd.R_lt (rq HO_764002))) (below_size bq))
      replace HO_739002 := Aside0.mk (Kd.R_elder' (rq HO_739002) (Kd.R_base ho0) hb)
      replace HO_751002 := Aside0.mk (Kd.R_elder' (rq HO_751002) (Kd.R_base ho0) hb)
      replace HO_764002 := Aside0.mk (Kd.R_elder' (rq HO_764002) (Kd.R_base ho0) hb)
      have HO772 := Aside0.mk (Kd.R_lower (Kd.R_new' (Kd.R_new' (Kd.R_new' (Kd.R_new' (Kd.R_new' (Kd.R_new' ho1 (Kd.R_lt (rq HO_739003))) (Kd.R_lt (rq HO_739004))) (Kd.R_lt (rq HO_751003))) (Kd.R_lt (rq HO_751004))) (Kd.R_lt (rq HO_764003))) (Kd.R_lt (rq HO_764004))) (below_size bq))
      have HO775 := Aside0.mk (Kd.R_lower (Kd.R_new' (Kd.R_new' (Kd.R_new' (Kd.R_new' (Kd.R_new' (Kd.R_new' ho2 (Kd.R_lt (rq HO_739003))) (Kd.R_lt (rq HO_739004))) (Kd.R_lt (rq HO_751003))) (Kd.R_lt (rq HO_751004))) (Kd.R_lt (rq HO_764003))) (Kd.R_lt (rq HO_764004))) (below_size bq))
      replace HO_739003 := Aside0.mk (Kd.R_mono (Kd.R_told (Kd.R_told (Kd.R_old (rq HO_739003) hb) (Kd.R_base ho1)) (Kd.R_base ho2)) (fun _ h_ => h_.1))
      replace HO_739004 := Aside0.mk (Kd.R_mono (Kd.R_told (Kd.R_told (Kd.R_old (rq HO_739004) hb) (Kd.R_base ho1)) (Kd.R_base ho2)) (fun _ h_ => h_.1))
      replace HO_751003 := Aside0.mk (Kd.R_mono (Kd.R_told (Kd.R_told (Kd.R_old (rq HO_751003) hb) (Kd.R_base ho1)) (Kd.R_base ho2)) (fun _ h_ => h_.1))
      replace HO_751004 := Aside0.mk (Kd.R_mono (Kd.R_told (Kd.R_told (Kd.R_old (rq HO_751004) hb) (Kd.R_base ho1)) (Kd.R_base ho2)) (fun _ h_ => h_.1))
      replace HO_764003 := Aside0.mk (Kd.R_mono (Kd.R_told (Kd.R_told (Kd.R_old (rq HO_764003) hb) (Kd.R_base ho1)) (Kd.R_base ho2)) (fun _ h_ => h_.1))
      replace HO_764004 := Aside0.mk (Kd.R_mono (Kd.R_told (Kd.R_told (Kd.R_old (rq HO_764004) hb) (Kd.R_base ho1)) (Kd.R_base ho2)) (fun _ h_ => h_.1))
      replace BK713 := zb BK713 hb
      replace BK738 := zb BK738 hb
      replace BK750 := zb BK750 hb
      replace BK763 := zb BK763 hb
      replace HB := sb hb
      (try clear hb ho0 ho1 ho2)
      obtain ⟨Ao71, co71, eo71⟩ := Kd.R_slice HO769.out
      (first | subst eo71 | (injection eo71 with f1_ f2_ f3_; have f4_ := f1_.symm; have f5_ := f3_.symm; clear f1_ f2_ f3_; subst f4_; subst f5_))
      obtain ⟨Ao72, co72, eo72⟩ := Kd.R_slice HO772.out
      (first | subst eo72 | (injection eo72 with f1_ f2_ f3_; have f4_ := f1_.symm; have f5_ := f3_.symm; clear f1_ f2_ f3_; subst f4_; subst f5_))
      obtain ⟨Ao73, co73, eo73⟩ := Kd.R_slice HO775.out
      (first | subst eo73 | (injection eo73 with f1_ f2_ f3_; have f4_ := f1_.symm; have f5_ := f3_.symm; clear f1_ f2_ f3_; subst f4_; subst f5_))
      refine hK.out _ _ ⟨(blk_cell BK750.out 0).trans rfl, (blk_cell BK750.out 1).trans rfl, (blk_cell BK750.out 2).trans rfl, (blk_cell BK750.out 3).trans rfl, (blk_cell BK750.out 4).trans rfl, (blk_cell BK713.out 0).trans rfl, (blk_cell BK713.out 1).trans rfl, (blk_cell BK713.out 2).trans rfl, (blk_cell BK713.out 3).trans rfl, (blk_cell BK713.out 4).trans rfl⟩ (fun hHeld => ?_)
      clear hK K
      refine norm_ (a' := ?_) ?_ ?_
      rotate_left
      ·show Act.put _ (some 43) _ = _
       simp only [Act.put, List.setIfInBounds_toArray, List.set_cons_zero, List.set_cons_succ, i64_w, i32_w]
       rfl
      refine one_ (i := 3) (N := some 44) #[true, true, true, true, false] rfl rfl (by kernel_rfl) (by decide) (fun K hK => ?_)
      refine goes_ Try.func18 (by kernel_rfl) rfl #[.agg #[.int .i64 t739, .int .i64 t740, .slice Ao33 t741.length co33, .slice Ao34 t744.length co34, .slice Ao35 t747.length co35], .agg #[.int .i64 t765, .int .i64 t766, .slice Ao71 t767.length co71, .slice Ao72 t770.length co72, .slice Ao73 t773.length co73]] (by rfl) rfl rfl mq ?_
      with_reducible refine (laws_eqSession.calls kj10 t739 t740 _ _ t741 _ _ t744 _ _ t747 t765 t766 _ _ t767 _ _ t770 _ _ t773 true _ ?s1 ?s2 ?s3 ?s4 ?s5 ?s6 ?s7 ?s8 ?s9 ?s10 ?s11 ?s12 A65.out).mono ?_
      (case s1 => exact cr HO_751002)
      (case s2 => exact r1 HO_751002)
      (case s3 => exact cr HO_751003)
      (case s4 => exact r1 HO_751003)
      (case s5 => exact cr HO_751004)
      (case s6 => exact r1 HO_751004)
      (case s7 => exact cr HO769)
      (case s8 => exact r1 HO769)
      (case s9 => exact cr HO772)
      (case s10 => exact r1 HO772)
      (case s11 => exact cr HO775)
      (case s12 => exact r1 HO775)
      rintro e w74 ⟨rfl, hb⟩
      refine ⟨_, rfl, ?_⟩
      replace HO_739002 := rb HO_739002 hb
      replace HO_739003 := rb HO_739003 hb
      replace HO_739004 := rb HO_739004 hb
      replace HO_751002 := rb HO_751002 hb
      replace HO_751003 := rb HO_751003 hb
      replace HO_751004 := rb HO_751004 hb
      replace HO_764002 := rb HO_764002 hb
      replace HO_764003 := rb HO_764003 hb
      replace HO_764004 := rb HO_764004 hb
      replace HO769 := rb HO769 hb
      replace HO772 := rb HO772 hb
      replace HO775 := rb HO775 hb
      replace BK713 := zb BK713 hb
      replace BK738 := zb BK738 hb
      replace BK750 := zb BK750 hb
      replace BK763 := zb BK763 hb
      replace HB := sb hb
      (try clear hb)
      refine hK.out _ _ ⟨(blk_cell BK750.out 0).trans rfl, (blk_cell BK750.out 1).trans rfl, (blk_cell BK750.out 2).trans rfl, (blk_cell BK750.out 3).trans rfl, (blk_cell BK750.out 4).trans rfl, (blk_cell BK713.out 0).trans rfl, (blk_cell BK713.out 1).trans rfl, (blk_cell BK713.out 2).trans rfl, (blk_cell BK713.out 3).trans rfl, (blk_cell BK713.out 4).trans rfl⟩ (fun hHeld => ?_)
      clear hK K
      refine norm_ (a' := ?_) ?_ ?_
      rotate_left
      ·show Act.put _ (some 44) _ = _
       simp only [Act.put, List.setIfInBounds_toArray, List.set_cons_zero, List.set_cons_succ, i64_w, i32_w]
       rfl
      refine pure_ (i := 4) (N := some 45) (v := ?_) (a' := ?_) #[true, true, true, true, true] rfl rfl (by kernel_rfl) (fun _ _ _ h => h) (Or.inl ⟨by rfl, ?_⟩) ?_ ?_
      rotate_left
      ·intro w'
       go_simp
       with_reducible rfl
      rotate_left
      ·simp only [Act.put, List.setIfInBounds_toArray, List.set_cons_zero, List.set_cons_succ, i64_w, i32_w]
       rfl
      refine done_ (by kernel_rfl) ?_
      have hnb75 := NB750_713.out
      have hnc75 := NB713_750.out
      have hnb76 := NB750_738.out
      have hnc76 := NB738_750.out
      have hnb77 := NB750_763.out
      have hnc77 := NB763_750.out
      have ⟨hcz78_0, hcz78_1, hcz78_2, hcz78_3, hcz78_4, hfz78_0, hfz78_1, hfz78_2, hfz78_3, hfz78_4⟩ := bc5 BK750
      go_upto_region 14 with (first | ((with_reducible refine gate_callee (f := 25) rfl ?_); refine goesQ (some 48) Try.func25 #[.agg #[.int .i64 t739, .int .i64 t740, .slice Ao33 t741.length co33, .slice Ao34 t744.length co34, .slice Ao35 t747.length co35], .int .i64 1] ?_; (with_reducible refine (laws_markSession.calls kj10 t739 t740 (fun k_ => some k_ = (.slice Ao33 t741.length co33 : Value).ownBlock) (.slice Ao33 t741.length co33) t741 (fun k_ => some k_ = (.slice Ao34 t744.length co34 : Value).ownBlock) (.slice Ao34 t744.length co34) t744 (fun k_ => some k_ = (.slice Ao35 t747.length co35 : Value).ownBlock) (.slice Ao35 t747.length co35) t747 1 t777 t778 t779 t780 w _ ?s1 ?s2 ?s3 ?s4 ?s5 ?s6 A67.out).mono ?_); (case s1 => repeat (first | (with_reducible first | exact HB.out | apply below_alloc | apply pw_below_drewN | apply below_drew1 | refine below_set ?_ GE713.out | refine below_set ?_ GE738.out | refine below_set ?_ GE750.out | refine below_set ?_ GE763.out) | exact HB.out)); (case s2 => exact Kd.R_tight rfl HO_751002.out); (case s3 => exact Kd.R_tight rfl HO_751003.out); (case s4 => exact fun k_ e_ => (HO_751003.out.1 k_ e_.symm).1.1.2.2.1); (case s5 => exact Kd.R_tight rfl HO_751004.out); (case s6 => exact fun k_ e_ => (HO_751004.out.1 k_ e_.symm).1.1.2.2.1); rintro e w79 ⟨rfl, hy0, hy1, hy2, hb, hkp⟩; refine ⟨_, rfl, ?_⟩; replace HO_739002 := Aside0.mk (Kd.R_mono (ok' := fun k_ => some k_ ≠ (.slice Ao33 t741.length co33 : Value).ownBlock ∧ some k_ ≠ (.slice Ao42 t753.length co42 : Value).ownBlock ∧ some k_ ≠ (.slice Ao71 t767.length co71 : Value).ownBlock) (Kd.R_keptB ((Kd.R_apart' (Kd.R_apart' HO_739002.out (Kd.R_typed HO_751003.out) (by decide)) (Kd.R_typed HO_751004.out) (by decide))) hkp (fun k_ hk_ hs_ => Or.elim hs_ (fun e_ => (hk_.1.1.1.1) e_) (fun e_ => Or.elim e_ (fun e_ => (hk_.1.2) e_) (fun e_ => (hk_.2) e_)))) (fun k_ hk_ => ⟨hk_.1.1.1.1.1, hk_.1.1.1.1.2, hk_.1.1.1.2⟩)); replace HO_739003 := Aside0.mk (Kd.R_mono (ok' := fun k_ => some k_ ≠ (.slice Ao26 t734.length co26 : Value).ownBlock ∧ some k_ ≠ (.slice Ao34 t744.length co34 : Value).ownBlock ∧ some k_ ≠ (.slice Ao35 t747.length co35 : Value).ownBlock ∧ some k_ ≠ (.slice Ao43 t756.length co43 : Value).ownBlock ∧ some k_ ≠ (.slice Ao44 t759.length co44 : Value).ownBlock ∧ some k_ ≠ (.slice Ao72 t770.length co72 : Value).ownBlock ∧ some k_ ≠ (.slice Ao73 t773.length co73 : Value).ownBlock) (Kd.R_keptB ((Kd.R_apart' HO_739003.out (Kd.R_typed HO_751002.out) (by decide))) hkp (fun k_ hk_ hs_ => Or.elim hs_ (fun e_ => (hk_.2) e_) (fun e_ => Or.elim e_ (fun e_ => (hk_.1.1.1.2.1) e_) (fun e_ => (hk_.1.1.1.2.2.1) e_)))) (fun k_ hk_ => ⟨hk_.1.1.1.1.1, hk_.1.1.1.1.2.1, hk_.1.1.1.1.2.2.1, hk_.1.1.1.1.2.2.2.1, hk_.1.1.1.1.2.2.2.2, hk_.1.1.1.2, hk_.1.1.2⟩)); replace HO_739004 := Aside0.mk (Kd.R_mono (ok' := fun k_ => some k_ ≠ (.slice Ao25 t731.length co25 : Value).ownBlock ∧ some k_ ≠ (.slice Ao34 t744.length co34 : Value).ownBlock ∧ some k_ ≠ (.slice Ao35 t747.length co35 : Value).ownBlock ∧ some k_ ≠ (.slice Ao43 t756.length co43 : Value).ownBlock ∧ some k_ ≠ (.slice Ao44 t759.length co44 : Value).ownBlock ∧ some k_ ≠ (.slice Ao72 t770.length co72 : Value).ownBlock ∧ some k_ ≠ (.slice Ao73 t773.length co73 : Value).ownBlock) (Kd.R_keptB ((Kd.R_apart' HO_739004.out (Kd.R_typed HO_751002.out) (by decide))) hkp (fun k_ hk_ hs_ => Or.elim hs_ (fun e_ => (hk_.2) e_) (fun e_ => Or.elim e_ (fun e_ => (hk_.1.1.1.2.1) e_) (fun e_ => (hk_.1.1.1.2.2.1) e_)))) (fun k_ hk_ => ⟨hk_.1.1.1.1.1, hk_.1.1.1.1.2.1, hk_.1.1.1.1.2.2.1, hk_.1.1.1.1.2.2.2.1, hk_.1.1.1.1.2.2.2.2, hk_.1.1.1.2, hk_.1.1.2⟩)); replace HO_764002 := Aside0.mk (Kd.R_mono (ok' := fun k_ => some k_ ≠ (.slice Ao24 t728.length co24 : Value).ownBlock ∧ some k_ ≠ (.slice Ao33 t741.length co33 : Value).ownBlock ∧ some k_ ≠ (.slice Ao71 t767.length co71 : Value).ownBlock) (Kd.R_keptB ((Kd.R_apart' (Kd.R_apart' HO_764002.out (Kd.R_typed HO_751003.out) (by decide)) (Kd.R_typed HO_751004.out) (by decide))) hkp (fun k_ hk_ hs_ => Or.elim hs_ (fun e_ => (hk_.1.1.1.2) e_) (fun e_ => Or.elim e_ (fun e_ => (hk_.1.2) e_) (fun e_ => (hk_.2) e_)))) (fun k_ hk_ => ⟨hk_.1.1.1.1.1, hk_.1.1.1.1.2, hk_.1.1.1.2⟩)); replace HO_764003 := Aside0.mk (Kd.R_mono (ok' := fun k_ => some k_ ≠ (.slice Ao25 t731.length co25 : Value).ownBlock ∧ some k_ ≠ (.slice Ao26 t734.length co26 : Value).ownBlock ∧ some k_ ≠ (.slice Ao34 t744.length co34 : Value).ownBlock ∧ some k_ ≠ (.slice Ao35 t747.length co35 : Value).ownBlock ∧ some k_ ≠ (.slice Ao44 t759.length co44 : Value).ownBlock ∧ some k_ ≠ (.slice Ao72 t770.length co72 : Value).ownBlock ∧ some k_ ≠ (.slice Ao73 t773.length co73 : Value).ownBlock) (Kd.R_keptB ((Kd.R_apart' HO_764003.out (Kd.R_typed HO_751002.out) (by decide))) hkp (fun k_ hk_ hs_ => Or.elim hs_ (fun e_ => (hk_.2) e_) (fun e_ => Or.elim e_ (fun e_ => (hk_.1.1.1.2.2.1) e_) (fun e_ => (hk_.1.1.1.2.2.2.1) e_)))) (fun k_ hk_ => ⟨hk_.1.1.1.1.1, hk_.1.1.1.1.2.1, hk_.1.1.1.1.2.2.1, hk_.1.1.1.1.2.2.2.1, hk_.1.1.1.1.2.2.2.2, hk_.1.1.1.2, hk_.1.1.2⟩)); replace HO_764004 := Aside0.mk (Kd.R_mono (ok' := fun k_ => some k_ ≠ (.slice Ao25 t731.length co25 : Value).ownBlock ∧ some k_ ≠ (.slice Ao26 t734.length co26 : Value).ownBlock ∧ some k_ ≠ (.slice Ao34 t744.length co34 : Value).ownBlock ∧ some k_ ≠ (.slice Ao35 t747.length co35 : Value).ownBlock ∧ some k_ ≠ (.slice Ao43 t756.length co43 : Value).ownBlock ∧ some k_ ≠ (.slice Ao72 t770.length co72 : Value).ownBlock ∧ some k_ ≠ (.slice Ao73 t773.length co73 : Value).ownBlock) (Kd.R_keptB ((Kd.R_apart' HO_764004.out (Kd.R_typed HO_751002.out) (by decide))) hkp (fun k_ hk_ hs_ => Or.elim hs_ (fun e_ => (hk_.2) e_) (fun e_ => Or.elim e_ (fun e_ => (hk_.1.1.1.2.2.1) e_) (fun e_ => (hk_.1.1.1.2.2.2.1) e_)))) (fun k_ hk_ => ⟨hk_.1.1.1.1.1, hk_.1.1.1.1.2.1, hk_.1.1.1.1.2.2.1, hk_.1.1.1.1.2.2.2.1, hk_.1.1.1.1.2.2.2.2, hk_.1.1.1.2, hk_.1.1.2⟩)); replace BK713 := Aside0.mk (blk_kept (zq BK713) hkp (fun hs_ => Or.elim hs_ (fun e_ => (fun e_ => (Kd.R_ne HO_751002.out BK713.out (by decide)) e_) e_) (fun e_ => Or.elim e_ (fun e_ => (fun e_ => (Kd.R_ne HO_751003.out BK713.out (by decide)) e_) e_) (fun e_ => (fun e_ => (Kd.R_ne HO_751004.out BK713.out (by decide)) e_) e_)))); replace BK738 := Aside0.mk (blk_kept (zq BK738) hkp (fun hs_ => Or.elim hs_ (fun e_ => (fun e_ => (Kd.R_ne HO_751002.out BK738.out (by decide)) e_) e_) (fun e_ => Or.elim e_ (fun e_ => (fun e_ => (Kd.R_ne HO_751003.out BK738.out (by decide)) e_) e_) (fun e_ => (fun e_ => (Kd.R_ne HO_751004.out BK738.out (by decide)) e_) e_)))); replace BK750 := Aside0.mk (blk_kept (zq BK750) hkp (fun hs_ => Or.elim hs_ (fun e_ => (fun e_ => (Kd.R_ne HO_751002.out BK750.out (by decide)) e_) e_) (fun e_ => Or.elim e_ (fun e_ => (fun e_ => (Kd.R_ne HO_751003.out BK750.out (by decide)) e_) e_) (fun e_ => (fun e_ => (Kd.R_ne HO_751004.out BK750.out (by decide)) e_) e_)))); replace BK763 := Aside0.mk (blk_kept (zq BK763) hkp (fun hs_ => Or.elim hs_ (fun e_ => (fun e_ => (Kd.R_ne HO_751002.out BK763.out (by decide)) e_) e_) (fun e_ => Or.elim e_ (fun e_ => (fun e_ => (Kd.R_ne HO_751003.out BK763.out (by decide)) e_) e_) (fun e_ => (fun e_ => (Kd.R_ne HO_751004.out BK763.out (by decide)) e_) e_)))); replace HO769 := Aside0.mk (Kd.R_mono (ok' := fun k_ => some k_ ≠ (.slice Ao24 t728.length co24 : Value).ownBlock ∧ some k_ ≠ (.slice Ao33 t741.length co33 : Value).ownBlock ∧ some k_ ≠ (.slice Ao42 t753.length co42 : Value).ownBlock) (Kd.R_keptB ((Kd.R_apart' (Kd.R_apart' HO769.out (Kd.R_typed HO_751003.out) (by decide)) (Kd.R_typed HO_751004.out) (by decide))) hkp (fun k_ hk_ hs_ => Or.elim hs_ (fun e_ => (hk_.1.1.1.2) e_) (fun e_ => Or.elim e_ (fun e_ => (hk_.1.2) e_) (fun e_ => (hk_.2) e_)))) (fun k_ hk_ => ⟨hk_.1.1.1.1.1.2, hk_.1.1.1.1.2, hk_.1.1.1.2⟩)); replace HO_751003 := Aside0.mk (Kd.R_reok rfl hy1 (fun k_ e_ => HO_751003.out.1 k_ e_)); replace HO_751004 := Aside0.mk (Kd.R_reok rfl hy2 (fun k_ e_ => HO_751004.out.1 k_ e_)); replace HO772 := Aside0.mk (Kd.R_mono (ok' := fun k_ => some k_ ≠ (.slice Ao25 t731.length co25 : Value).ownBlock ∧ some k_ ≠ (.slice Ao26 t734.length co26 : Value).ownBlock ∧ some k_ ≠ (.slice Ao34 t744.length co34 : Value).ownBlock ∧ some k_ ≠ (.slice Ao35 t747.length co35 : Value).ownBlock ∧ some k_ ≠ (.slice Ao43 t756.length co43 : Value).ownBlock ∧ some k_ ≠ (.slice Ao44 t759.length co44 : Value).ownBlock ∧ some k_ ≠ (.slice Ao73 t773.length co73 : Value).ownBlock) (Kd.R_keptB ((Kd.R_apart' HO772.out (Kd.R_typed HO_751002.out) (by decide))) hkp (fun k_ hk_ hs_ => Or.elim hs_ (fun e_ => (hk_.2) e_) (fun e_ => Or.elim e_ (fun e_ => (hk_.1.1.1.1.2) e_) (fun e_ => (hk_.1.1.1.2) e_)))) (fun k_ hk_ => ⟨hk_.1.1.1.1.1.1.1.2, hk_.1.1.1.1.1.1.2, hk_.1.1.1.1.1.2, hk_.1.1.1.1.2, hk_.1.1.1.2, hk_.1.1.2, hk_.1.1.1.1.1.1.1.1⟩)); replace HO775 := Aside0.mk (Kd.R_mono (ok' := fun k_ => some k_ ≠ (.slice Ao25 t731.length co25 : Value).ownBlock ∧ some k_ ≠ (.slice Ao26 t734.length co26 : Value).ownBlock ∧ some k_ ≠ (.slice Ao34 t744.length co34 : Value).ownBlock ∧ some k_ ≠ (.slice Ao35 t747.length co35 : Value).ownBlock ∧ some k_ ≠ (.slice Ao43 t756.length co43 : Value).ownBlock ∧ some k_ ≠ (.slice Ao44 t759.length co44 : Value).ownBlock ∧ some k_ ≠ (.slice Ao72 t770.length co72 : Value).ownBlock) (Kd.R_keptB ((Kd.R_apart' HO775.out (Kd.R_typed HO_751002.out) (by decide))) hkp (fun k_ hk_ hs_ => Or.elim hs_ (fun e_ => (hk_.2) e_) (fun e_ => Or.elim e_ (fun e_ => (hk_.1.1.1.1.2) e_) (fun e_ => (hk_.1.1.1.2) e_)))) (fun k_ hk_ => ⟨hk_.1.1.1.1.1.1.1.2, hk_.1.1.1.1.1.1.2, hk_.1.1.1.1.1.2, hk_.1.1.1.1.2, hk_.1.1.1.2, hk_.1.1.2, hk_.1.1.1.1.1.1.1.1⟩)); replace HO_751002 := Aside0.mk (Kd.R_reok rfl hy0 (fun k_ e_ => HO_751002.out.1 k_ e_)); replace HB := Aside0.mk (hb); (try clear hb hkp hy0 hy1 hy2)))
      (try simp only [Act.put, List.setIfInBounds_toArray, List.set_cons_zero, List.set_cons_succ])
      go_cut [61] (fun v61 wc => ∃ (kq : Nat) (x61_67 : Bool), v61 = .bool x61_67 ∧ Aside0 (laws_FnExactRedoAct.j1 kq t737 x61_67 a0_0 a0_1 l0_2 l0_3 l0_4 t726 t727 t728 t731 t734 t751 t752 t753 t756 t759 = some r) ∧ Aside0 (kq ≤ kj10) ∧ Aside0 (Kd.R k58 58 wc w.heap.size (fun k_ => some k_ ≠ ((.slice Ao33 t741.length co33) : Value).ownBlock ∧ some k_ ≠ ((.slice Ao42 t753.length co42) : Value).ownBlock) (.slice Ao24 t728.length co24) t728) ∧ Aside0 (Kd.R k60 60 wc w.heap.size (fun k_ => some k_ ≠ ((.slice Ao26 t734.length co26) : Value).ownBlock ∧ some k_ ≠ ((.slice Ao34 t744.length co34) : Value).ownBlock ∧ some k_ ≠ ((.slice Ao35 t747.length co35) : Value).ownBlock ∧ some k_ ≠ ((.slice Ao43 t756.length co43) : Value).ownBlock ∧ some k_ ≠ ((.slice Ao44 t759.length co44) : Value).ownBlock) (.slice Ao25 t731.length co25) t731) ∧ Aside0 (Kd.R k60 60 wc w.heap.size (fun k_ => some k_ ≠ ((.slice Ao25 t731.length co25) : Value).ownBlock ∧ some k_ ≠ ((.slice Ao34 t744.length co34) : Value).ownBlock ∧ some k_ ≠ ((.slice Ao35 t747.length co35) : Value).ownBlock ∧ some k_ ≠ ((.slice Ao43 t756.length co43) : Value).ownBlock ∧ some k_ ≠ ((.slice Ao44 t759.length co44) : Value).ownBlock) (.slice Ao26 t734.length co26) t734) ∧ Aside0 (Kd.R k58 58 wc w.heap.size (fun k_ => some k_ ≠ ((.slice Ao24 t728.length co24) : Value).ownBlock ∧ some k_ ≠ ((.slice Ao42 t753.length co42) : Value).ownBlock) (.slice Ao33 t741.length co33) t778) ∧ Aside0 (Kd.R k60 60 wc w.heap.size (fun k_ => some k_ ≠ ((.slice Ao25 t731.length co25) : Value).ownBlock ∧ some k_ ≠ ((.slice Ao26 t734.length co26) : Value).ownBlock ∧ some k_ ≠ ((.slice Ao35 t747.length co35) : Value).ownBlock ∧ some k_ ≠ ((.slice Ao43 t756.length co43) : Value).ownBlock ∧ some k_ ≠ ((.slice Ao44 t759.length co44) : Value).ownBlock) (.slice Ao34 t744.length co34) t779) ∧ Aside0 (Kd.R k60 60 wc w.heap.size (fun k_ => some k_ ≠ ((.slice Ao25 t731.length co25) : Value).ownBlock ∧ some k_ ≠ ((.slice Ao26 t734.length co26) : Value).ownBlock ∧ some k_ ≠ ((.slice Ao34 t744.length co34) : Value).ownBlock ∧ some k_ ≠ ((.slice Ao43 t756.length co43) : Value).ownBlock ∧ some k_ ≠ ((.slice Ao44 t759.length co44) : Value).ownBlock) (.slice Ao35 t747.length co35) t780) ∧ Aside0 (Kd.R k58 58 wc w.heap.size (fun k_ => some k_ ≠ ((.slice Ao24 t728.length co24) : Value).ownBlock ∧ some k_ ≠ ((.slice Ao33 t741.length co33) : Value).ownBlock) (.slice Ao42 t753.length co42) t753) ∧ Aside0 (Kd.R k60 60 wc w.heap.size (fun k_ => some k_ ≠ ((.slice Ao25 t731.length co25) : Value).ownBlock ∧ some k_ ≠ ((.slice Ao26 t734.length co26) : Value).ownBlock ∧ some k_ ≠ ((.slice Ao34 t744.length co34) : Value).ownBlock ∧ some k_ ≠ ((.slice Ao35 t747.length co35) : Value).ownBlock ∧ some k_ ≠ ((.slice Ao44 t759.length co44) : Value).ownBlock) (.slice Ao43 t756.length co43) t756) ∧ Aside0 (Kd.R k60 60 wc w.heap.size (fun k_ => some k_ ≠ ((.slice Ao25 t731.length co25) : Value).ownBlock ∧ some k_ ≠ ((.slice Ao26 t734.length co26) : Value).ownBlock ∧ some k_ ≠ ((.slice Ao34 t744.length co34) : Value).ownBlock ∧ some k_ ≠ ((.slice Ao35 t747.length co35) : Value).ownBlock ∧ some k_ ≠ ((.slice Ao43 t756.length co43) : Value).ownBlock) (.slice Ao44 t759.length co44) t759) ∧ Aside0 (wc.heap[gb713]? = some (.cells #[.int .i64 a0_0, .int .i64 a0_1, (.slice A0_2 l0_2.length c0_2), (.slice A0_3 l0_3.length c0_3), (.slice A0_4 l0_4.length c0_4)] 27 (0, 0))) ∧ Aside0 (wc.heap[gb738]? = some (.cells #[.int .i64 t726, .int .i64 t727, (.slice Ao24 t728.length co24), (.slice Ao25 t731.length co25), (.slice Ao26 t734.length co26)] 35 (0, 0))) ∧ Aside0 (wc.heap[gb750]? = some (.cells #[.int .i64 t739, .int .i64 t740, (.slice Ao33 t741.length co33), (.slice Ao34 t744.length co34), (.slice Ao35 t747.length co35)] 35 (0, 0))) ∧ Aside0 (wc.heap[gb763]? = some (.cells #[.int .i64 t751, .int .i64 t752, (.slice Ao42 t753.length co42), (.slice Ao43 t756.length co43), (.slice Ao44 t759.length co44)] 35 (0, 0))) ∧ Aside0 (Below w.heap.size w wc))
      case first =>
       have H := HC68.out
       clear HC68
       by_cases c80 : t777 < 0
       ·rw [if_pos c80] at H
        have c80b0 : decide (t777 < 0) = true := decide_eq_true c80
        clear c80
        (first | rw [c80b0] | (simp only [i64_w, i32_w]; rw [c80b0]) | skip)
        have H' := Aside0.mk H
        clear H
        go_wp2
        go_meet
        case rel => exact ⟨_, (true), sq, H', ⟨by have := HJ10.out; first | omega | exact Nat.le_refl _⟩, ⟨by (with_reducible repeat (first | apply Kd.R_alloc | apply Kd.R_drewN | apply Kd.R_drew)); exact Kd.R_mono HO_739002.out (fun _ hk => ⟨hk.1, hk.2.1⟩)⟩, ⟨by (with_reducible repeat (first | apply Kd.R_alloc | apply Kd.R_drewN | apply Kd.R_drew)); exact Kd.R_mono HO_739003.out (fun _ hk => ⟨hk.1, ⟨hk.2.1, ⟨hk.2.2.1, ⟨hk.2.2.2.1, hk.2.2.2.2.1⟩⟩⟩⟩)⟩, ⟨by (with_reducible repeat (first | apply Kd.R_alloc | apply Kd.R_drewN | apply Kd.R_drew)); exact Kd.R_mono HO_739004.out (fun _ hk => ⟨hk.1, ⟨hk.2.1, ⟨hk.2.2.1, ⟨hk.2.2.2.1, hk.2.2.2.2.1⟩⟩⟩⟩)⟩, ⟨by (with_reducible repeat (first | apply Kd.R_alloc | apply Kd.R_drewN | apply Kd.R_drew)); exact Kd.R_mono HO_751002.out (fun _ hk => ⟨hk.1.1, hk.1.2⟩)⟩, ⟨by (with_reducible repeat (first | apply Kd.R_alloc | apply Kd.R_drewN | apply Kd.R_drew)); exact Kd.R_mono HO_751003.out (fun _ hk => ⟨hk.1.1.1, ⟨hk.1.1.2.1, ⟨hk.1.1.2.2.1, ⟨hk.1.1.2.2.2.1, hk.1.1.2.2.2.2⟩⟩⟩⟩)⟩, ⟨by (with_reducible repeat (first | apply Kd.R_alloc | apply Kd.R_drewN | apply Kd.R_drew)); exact Kd.R_mono HO_751004.out (fun _ hk => ⟨hk.1.1.1, ⟨hk.1.1.2.1, ⟨hk.1.1.2.2.1, ⟨hk.1.1.2.2.2.1, hk.1.1.2.2.2.2⟩⟩⟩⟩)⟩, ⟨by (with_reducible repeat (first | apply Kd.R_alloc | apply Kd.R_drewN | apply Kd.R_drew)); exact Kd.R_mono HO_764002.out (fun _ hk => ⟨hk.1, hk.2.1⟩)⟩, ⟨by (with_reducible repeat (first | apply Kd.R_alloc | apply Kd.R_drewN | apply Kd.R_drew)); exact Kd.R_mono HO_764003.out (fun _ hk => ⟨hk.1, ⟨hk.2.1, ⟨hk.2.2.1, ⟨hk.2.2.2.1, hk.2.2.2.2.1⟩⟩⟩⟩)⟩, ⟨by (with_reducible repeat (first | apply Kd.R_alloc | apply Kd.R_drewN | apply Kd.R_drew)); exact Kd.R_mono HO_764004.out (fun _ hk => ⟨hk.1, ⟨hk.2.1, ⟨hk.2.2.1, ⟨hk.2.2.2.1, hk.2.2.2.2.1⟩⟩⟩⟩)⟩, ⟨zq BK713⟩, ⟨zq BK738⟩, ⟨zq BK750⟩, ⟨zq BK763⟩, ⟨bq⟩⟩
       ·rw [if_neg c80] at H
        have c80b0 : decide (t777 < 0) = false := decide_eq_false c80
        clear c80
        (first | rw [c80b0] | (simp only [i64_w, i32_w]; rw [c80b0]) | skip)
        obtain ⟨t781, A81, H⟩ := bindq H
        try dsimp only at H
        by_cases c82 : t781 = true
        ·subst c82
         rw [if_pos rfl] at H
         try dsimp only at H
         have H' := Aside0.mk H
         clear H
         have hnb83 := NB763_713.out
         have hnc83 := NB713_763.out
         have hnb84 := NB763_738.out
         have hnc84 := NB738_763.out
         have hnb85 := NB763_750.out
         have hnc85 := NB750_763.out
         have ⟨hcz86_0, hcz86_1, hcz86_2, hcz86_3, hcz86_4, hfz86_0, hfz86_1, hfz86_2, hfz86_3, hfz86_4⟩ := bc5 BK763
         have hnb87 := NB738_713.out
         have hnc87 := NB713_738.out
         have hnb88 := NB738_750.out
         have hnc88 := NB750_738.out
         have ⟨hcz89_0, hcz89_1, hcz89_2, hcz89_3, hcz89_4, hfz89_0, hfz89_1, hfz89_2, hfz89_3, hfz89_4⟩ := bc5 BK738
         go_wp2_with (first | (go_at_call 18; (with_reducible refine (laws_eqSession.calls kj10 t751 t752 _ _ t753 _ _ t756 _ _ t759 t726 t727 _ _ t728 _ _ t731 _ _ t734 true _ ?s1 ?s2 ?s3 ?s4 ?s5 ?s6 ?s7 ?s8 ?s9 ?s10 ?s11 ?s12 A81.out).mono ?_); (case s1 => exact cr HO_764002); (case s2 => exact r1 HO_764002); (case s3 => exact cr HO_764003); (case s4 => exact r1 HO_764003); (case s5 => exact cr HO_764004); (case s6 => exact r1 HO_764004); (case s7 => exact cr HO_739002); (case s8 => exact r1 HO_739002); (case s9 => exact cr HO_739003); (case s10 => exact r1 HO_739003); (case s11 => exact cr HO_739004); (case s12 => exact r1 HO_739004); rintro e w90 ⟨rfl, hb⟩; replace HO_739002 := rb HO_739002 hb; replace HO_739003 := rb HO_739003 hb; replace HO_739004 := rb HO_739004 hb; replace HO_751002 := rb HO_751002 hb; replace HO_751003 := rb HO_751003 hb; replace HO_751004 := rb HO_751004 hb; replace HO_764002 := rb HO_764002 hb; replace HO_764003 := rb HO_764003 hb; replace HO_764004 := rb HO_764004 hb; replace HO769 := rb HO769 hb; replace HO772 := rb HO772 hb; replace HO775 := rb HO775 hb; replace BK713 := zb BK713 hb; replace BK738 := zb BK738 hb; replace BK750 := zb BK750 hb; replace BK763 := zb BK763 hb; replace HB := sb hb; (try clear hb)))
         go_meet
         case rel => exact ⟨_, ((t762 != t737)), sq, H', ⟨by have := HJ10.out; first | omega | exact Nat.le_refl _⟩, ⟨by (with_reducible repeat (first | apply Kd.R_alloc | apply Kd.R_drewN | apply Kd.R_drew)); exact Kd.R_mono HO_739002.out (fun _ hk => ⟨hk.1, hk.2.1⟩)⟩, ⟨by (with_reducible repeat (first | apply Kd.R_alloc | apply Kd.R_drewN | apply Kd.R_drew)); exact Kd.R_mono HO_739003.out (fun _ hk => ⟨hk.1, ⟨hk.2.1, ⟨hk.2.2.1, ⟨hk.2.2.2.1, hk.2.2.2.2.1⟩⟩⟩⟩)⟩, ⟨by (with_reducible repeat (first | apply Kd.R_alloc | apply Kd.R_drewN | apply Kd.R_drew)); exact Kd.R_mono HO_739004.out (fun _ hk => ⟨hk.1, ⟨hk.2.1, ⟨hk.2.2.1, ⟨hk.2.2.2.1, hk.2.2.2.2.1⟩⟩⟩⟩)⟩, ⟨by (with_reducible repeat (first | apply Kd.R_alloc | apply Kd.R_drewN | apply Kd.R_drew)); exact Kd.R_mono HO_751002.out (fun _ hk => ⟨hk.1.1, hk.1.2⟩)⟩, ⟨by (with_reducible repeat (first | apply Kd.R_alloc | apply Kd.R_drewN | apply Kd.R_drew)); exact Kd.R_mono HO_751003.out (fun _ hk => ⟨hk.1.1.1, ⟨hk.1.1.2.1, ⟨hk.1.1.2.2.1, ⟨hk.1.1.2.2.2.1, hk.1.1.2.2.2.2⟩⟩⟩⟩)⟩, ⟨by (with_reducible repeat (first | apply Kd.R_alloc | apply Kd.R_drewN | apply Kd.R_drew)); exact Kd.R_mono HO_751004.out (fun _ hk => ⟨hk.1.1.1, ⟨hk.1.1.2.1, ⟨hk.1.1.2.2.1, ⟨hk.1.1.2.2.2.1, hk.1.1.2.2.2.2⟩⟩⟩⟩)⟩, ⟨by (with_reducible repeat (first | apply Kd.R_alloc | apply Kd.R_drewN | apply Kd.R_drew)); exact Kd.R_mono HO_764002.out (fun _ hk => ⟨hk.1, hk.2.1⟩)⟩, ⟨by (with_reducible repeat (first | apply Kd.R_alloc | apply Kd.R_drewN | apply Kd.R_drew)); exact Kd.R_mono HO_764003.out (fun _ hk => ⟨hk.1, ⟨hk.2.1, ⟨hk.2.2.1, ⟨hk.2.2.2.1, hk.2.2.2.2.1⟩⟩⟩⟩)⟩, ⟨by (with_reducible repeat (first | apply Kd.R_alloc | apply Kd.R_drewN | apply Kd.R_drew)); exact Kd.R_mono HO_764004.out (fun _ hk => ⟨hk.1, ⟨hk.2.1, ⟨hk.2.2.1, ⟨hk.2.2.2.1, hk.2.2.2.2.1⟩⟩⟩⟩)⟩, ⟨zq BK713⟩, ⟨zq BK738⟩, ⟨zq BK750⟩, ⟨zq BK763⟩, ⟨bq⟩⟩
        ·replace c82 := Bool.eq_false_iff.mpr c82
         subst c82
         rw [if_neg (show ¬ (false = true) by decide)] at H
         try dsimp only at H
         have H' := Aside0.mk H
         clear H
         have hnb91 := NB763_713.out
         have hnc91 := NB713_763.out
         have hnb92 := NB763_738.out
         have hnc92 := NB738_763.out
         have hnb93 := NB763_750.out
         have hnc93 := NB750_763.out
         have ⟨hcz94_0, hcz94_1, hcz94_2, hcz94_3, hcz94_4, hfz94_0, hfz94_1, hfz94_2, hfz94_3, hfz94_4⟩ := bc5 BK763
         have hnb95 := NB738_713.out
         have hnc95 := NB713_738.out
         have hnb96 := NB738_750.out
         have hnc96 := NB750_738.out
         have ⟨hcz97_0, hcz97_1, hcz97_2, hcz97_3, hcz97_4, hfz97_0, hfz97_1, hfz97_2, hfz97_3, hfz97_4⟩ := bc5 BK738
         go_wp2_with (first | (go_at_call 18; (with_reducible refine (laws_eqSession.calls kj10 t751 t752 _ _ t753 _ _ t756 _ _ t759 t726 t727 _ _ t728 _ _ t731 _ _ t734 false _ ?s1 ?s2 ?s3 ?s4 ?s5 ?s6 ?s7 ?s8 ?s9 ?s10 ?s11 ?s12 A81.out).mono ?_); (case s1 => exact cr HO_764002); (case s2 => exact r1 HO_764002); (case s3 => exact cr HO_764003); (case s4 => exact r1 HO_764003); (case s5 => exact cr HO_764004); (case s6 => exact r1 HO_764004); (case s7 => exact cr HO_739002); (case s8 => exact r1 HO_739002); (case s9 => exact cr HO_739003); (case s10 => exact r1 HO_739003); (case s11 => exact cr HO_739004); (case s12 => exact r1 HO_739004); rintro e w98 ⟨rfl, hb⟩; replace HO_739002 := rb HO_739002 hb; replace HO_739003 := rb HO_739003 hb; replace HO_739004 := rb HO_739004 hb; replace HO_751002 := rb HO_751002 hb; replace HO_751003 := rb HO_751003 hb; replace HO_751004 := rb HO_751004 hb; replace HO_764002 := rb HO_764002 hb; replace HO_764003 := rb HO_764003 hb; replace HO_764004 := rb HO_764004 hb; replace HO769 := rb HO769 hb; replace HO772 := rb HO772 hb; replace HO775 := rb HO775 hb; replace BK713 := zb BK713 hb; replace BK738 := zb BK738 hb; replace BK750 := zb BK750 hb; replace BK763 := zb BK763 hb; replace HB := sb hb; (try clear hb)))
         go_meet
         case rel => exact ⟨_, (true), sq, H', ⟨by have := HJ10.out; first | omega | exact Nat.le_refl _⟩, ⟨by (with_reducible repeat (first | apply Kd.R_alloc | apply Kd.R_drewN | apply Kd.R_drew)); exact Kd.R_mono HO_739002.out (fun _ hk => ⟨hk.1, hk.2.1⟩)⟩, ⟨by (with_reducible repeat (first | apply Kd.R_alloc | apply Kd.R_drewN | apply Kd.R_drew)); exact Kd.R_mono HO_739003.out (fun _ hk => ⟨hk.1, ⟨hk.2.1, ⟨hk.2.2.1, ⟨hk.2.2.2.1, hk.2.2.2.2.1⟩⟩⟩⟩)⟩, ⟨by (with_reducible repeat (first | apply Kd.R_alloc | apply Kd.R_drewN | apply Kd.R_drew)); exact Kd.R_mono HO_739004.out (fun _ hk => ⟨hk.1, ⟨hk.2.1, ⟨hk.2.2.1, ⟨hk.2.2.2.1, hk.2.2.2.2.1⟩⟩⟩⟩)⟩, ⟨by (with_reducible repeat (first | apply Kd.R_alloc | apply Kd.R_drewN | apply Kd.R_drew)); exact Kd.R_mono HO_751002.out (fun _ hk => ⟨hk.1.1, hk.1.2⟩)⟩, ⟨by (with_reducible repeat (first | apply Kd.R_alloc | apply Kd.R_drewN | apply Kd.R_drew)); exact Kd.R_mono HO_751003.out (fun _ hk => ⟨hk.1.1.1, ⟨hk.1.1.2.1, ⟨hk.1.1.2.2.1, ⟨hk.1.1.2.2.2.1, hk.1.1.2.2.2.2⟩⟩⟩⟩)⟩, ⟨by (with_reducible repeat (first | apply Kd.R_alloc | apply Kd.R_drewN | apply Kd.R_drew)); exact Kd.R_mono HO_751004.out (fun _ hk => ⟨hk.1.1.1, ⟨hk.1.1.2.1, ⟨hk.1.1.2.2.1, ⟨hk.1.1.2.2.2.1, hk.1.1.2.2.2.2⟩⟩⟩⟩)⟩, ⟨by (with_reducible repeat (first | apply Kd.R_alloc | apply Kd.R_drewN | apply Kd.R_drew)); exact Kd.R_mono HO_764002.out (fun _ hk => ⟨hk.1, hk.2.1⟩)⟩, ⟨by (with_reducible repeat (first | apply Kd.R_alloc | apply Kd.R_drewN | apply Kd.R_drew)); exact Kd.R_mono HO_764003.out (fun _ hk => ⟨hk.1, ⟨hk.2.1, ⟨hk.2.2.1, ⟨hk.2.2.2.1, hk.2.2.2.2.1⟩⟩⟩⟩)⟩, ⟨by (with_reducible repeat (first | apply Kd.R_alloc | apply Kd.R_drewN | apply Kd.R_drew)); exact Kd.R_mono HO_764004.out (fun _ hk => ⟨hk.1, ⟨hk.2.1, ⟨hk.2.2.1, ⟨hk.2.2.2.1, hk.2.2.2.2.1⟩⟩⟩⟩)⟩, ⟨zq BK713⟩, ⟨zq BK738⟩, ⟨zq BK750⟩, ⟨zq BK763⟩, ⟨bq⟩⟩
      case rest =>
       clear HC68
       try clear c1
       try clear c2
       try clear p2
       try clear c3
       try clear c3b0
       try clear c4
       try clear c5
       try clear c6
       try clear c7
       try clear c8
       try clear c9
       try clear c14
       try clear c16
       try clear c18
       try clear c22
       try clear c25
       try clear c30
       try clear c31
       try clear c32
       try clear c33
       try clear c38
       try clear c39
       try clear c40
       try clear c46
       try clear c47
       try clear c48
       try clear c49
       try clear c51
       try clear c52
       try clear c55
       try clear c56
       try clear c57
       try clear c59
       try clear c60
       try clear c63
       try clear c66
       try clear c75
       try clear c76
       try clear c77
       try clear c80
       try clear c80b0
       try clear c82
       try clear c83
       try clear c84
       try clear c85
       try clear c87
       try clear c88
       try clear c91
       try clear c92
       try clear c93
       try clear c95
       try clear c96
       try clear hcz13_0
       try clear hcz13_1
       try clear hcz13_2
       try clear hcz13_3
       try clear hcz13_4
       try clear hcz15_0
       try clear hcz15_1
       try clear hcz15_2
       try clear hcz15_3
       try clear hcz15_4
       try clear hcz23_0
       try clear hcz23_1
       try clear hcz23_2
       try clear hcz23_3
       try clear hcz23_4
       try clear hcz27_0
       try clear hcz27_1
       try clear hcz27_2
       try clear hcz27_3
       try clear hcz27_4
       try clear hcz32_0
       try clear hcz32_1
       try clear hcz32_2
       try clear hcz32_3
       try clear hcz32_4
       try clear hcz41_0
       try clear hcz41_1
       try clear hcz41_2
       try clear hcz41_3
       try clear hcz41_4
       try clear hcz50_0
       try clear hcz50_1
       try clear hcz50_2
       try clear hcz50_3
       try clear hcz50_4
       try clear hcz53_0
       try clear hcz53_1
       try clear hcz53_2
       try clear hcz53_3
       try clear hcz53_4
       try clear hcz58_0
       try clear hcz58_1
       try clear hcz58_2
       try clear hcz58_3
       try clear hcz58_4
       try clear hcz5_0
       try clear hcz5_1
       try clear hcz5_2
       try clear hcz5_3
       try clear hcz5_4
       try clear hcz61_0
       try clear hcz61_1
       try clear hcz61_2
       try clear hcz61_3
       try clear hcz61_4
       try clear hcz78_0
       try clear hcz78_1
       try clear hcz78_2
       try clear hcz78_3
       try clear hcz78_4
       try clear hcz86_0
       try clear hcz86_1
       try clear hcz86_2
       try clear hcz86_3
       try clear hcz86_4
       try clear hcz89_0
       try clear hcz89_1
       try clear hcz89_2
       try clear hcz89_3
       try clear hcz89_4
       try clear hcz94_0
       try clear hcz94_1
       try clear hcz94_2
       try clear hcz94_3
       try clear hcz94_4
       try clear hcz97_0
       try clear hcz97_1
       try clear hcz97_2
       try clear hcz97_3
       try clear hcz97_4
       try clear hfz13_0
       try clear hfz13_1
       try clear hfz13_2
       try clear hfz13_3
       try clear hfz13_4
       try clear hfz15_0
       try clear hfz15_1
       try clear hfz15_2
       try clear hfz15_3
       try clear hfz15_4
       try clear hfz23_0
       try clear hfz23_1
       try clear hfz23_2
       try clear hfz23_3
       try clear hfz23_4
       try clear hfz27_0
       try clear hfz27_1
       try clear hfz27_2
       try clear hfz27_3
       try clear hfz27_4
       try clear hfz32_0
       try clear hfz32_1
       try clear hfz32_2
       try clear hfz32_3
       try clear hfz32_4
       try clear hfz41_0
       try clear hfz41_1
       try clear hfz41_2
       try clear hfz41_3
       try clear hfz41_4
       try clear hfz50_0
       try clear hfz50_1
       try clear hfz50_2
       try clear hfz50_3
       try clear hfz50_4
       try clear hfz53_0
       try clear hfz53_1
       try clear hfz53_2
       try clear hfz53_3
       try clear hfz53_4
       try clear hfz58_0
       try clear hfz58_1
       try clear hfz58_2
       try clear hfz58_3
       try clear hfz58_4
       try clear hfz5_0
       try clear hfz5_1
       try clear hfz5_2
       try clear hfz5_3
       try clear hfz5_4
       try clear hfz61_0
       try clear hfz61_1
       try clear hfz61_2
       try clear hfz61_3
       try clear hfz61_4
       try clear hfz78_0
       try clear hfz78_1
       try clear hfz78_2
       try clear hfz78_3
       try clear hfz78_4
       try clear hfz86_0
       try clear hfz86_1
       try clear hfz86_2
       try clear hfz86_3
       try clear hfz86_4
       try clear hfz89_0
       try clear hfz89_1
       try clear hfz89_2
       try clear hfz89_3
       try clear hfz89_4
       try clear hfz94_0
       try clear hfz94_1
       try clear hfz94_2
       try clear hfz94_3
       try clear hfz94_4
       try clear hfz97_0
       try clear hfz97_1
       try clear hfz97_2
       try clear hfz97_3
       try clear hfz97_4
       try clear p2
       obtain ⟨kq, x61_67, rfl, HA, HJ67, HO_739002, HO_739003, HO_739004, HO_751002, HO_751003, HO_751004, HO_764002, HO_764003, HO_764004, BK713, BK738, BK750, BK763, HB⟩ := hcut
       have hl751002_67 := (Kd.R_reads' HO_751002.out).1
       rw [hl751002_67] at HO_751002
       (try simp only [hl751002_67])
       (try simp only [hl751002_67] at BK713)
       (try simp only [hl751002_67] at BK738)
       (try simp only [hl751002_67] at BK750)
       (try simp only [hl751002_67] at BK763)
       (try simp only [hl751002_67] at HO_739002)
       (try simp only [hl751002_67] at HO_739003)
       (try simp only [hl751002_67] at HO_739004)
       (try simp only [hl751002_67] at HO_751003)
       (try simp only [hl751002_67] at HO_751004)
       (try simp only [hl751002_67] at HO_764002)
       (try simp only [hl751002_67] at HO_764003)
       (try simp only [hl751002_67] at HO_764004)
       have hl751003_67 := (Kd.R_reads' HO_751003.out).1
       rw [hl751003_67] at HO_751003
       (try simp only [hl751003_67])
       (try simp only [hl751003_67] at BK713)
       (try simp only [hl751003_67] at BK738)
       (try simp only [hl751003_67] at BK750)
       (try simp only [hl751003_67] at BK763)
       (try simp only [hl751003_67] at HO_739002)
       (try simp only [hl751003_67] at HO_739003)
       (try simp only [hl751003_67] at HO_739004)
       (try simp only [hl751003_67] at HO_751002)
       (try simp only [hl751003_67] at HO_751004)
       (try simp only [hl751003_67] at HO_764002)
       (try simp only [hl751003_67] at HO_764003)
       (try simp only [hl751003_67] at HO_764004)
       have hl751004_67 := (Kd.R_reads' HO_751004.out).1
       rw [hl751004_67] at HO_751004
       (try simp only [hl751004_67])
       (try simp only [hl751004_67] at BK713)
       (try simp only [hl751004_67] at BK738)
       (try simp only [hl751004_67] at BK750)
       (try simp only [hl751004_67] at BK763)
       (try simp only [hl751004_67] at HO_739002)
       (try simp only [hl751004_67] at HO_739003)
       (try simp only [hl751004_67] at HO_739004)
       (try simp only [hl751004_67] at HO_751002)
       (try simp only [hl751004_67] at HO_751003)
       (try simp only [hl751004_67] at HO_764002)
       (try simp only [hl751004_67] at HO_764003)
       (try simp only [hl751004_67] at HO_764004)
       cases kq with
       | zero => exact absurd HA.out (by simp [laws_FnExactRedoAct.j1])
       | succ kj67 =>
        have H := HA.out
        clear HA
        simp only [laws_FnExactRedoAct.j1] at H
        by_cases c99 : x61_67 = true
        ·subst c99
         rw [if_pos rfl] at H
         try dsimp only at H
         obtain rfl := Option.some.inj H
         go_wp2
         go_ret
         exact ⟨eq_, bq⟩
        ·replace c99 := Bool.eq_false_iff.mpr c99
         subst c99
         rw [if_neg (show ¬ (false = true) by decide)] at H
         try dsimp only at H
         obtain ⟨⟨t782, t783, t784, t785⟩, A100, H⟩ := bindq H
         try dsimp only at H
         obtain ⟨t786, A101, H⟩ := bindq H
         try dsimp only at H
         by_cases c102 : t786 < 0
         ·rw [if_pos c102] at H
          have c102b0 : decide (t786 < 0) = true := decide_eq_true c102
          clear c102
          obtain rfl := Option.some.inj H
          have hnb103 := NB763_713.out
          have hnc103 := NB713_763.out
          have hnb104 := NB763_738.out
          have hnc104 := NB738_763.out
          have hnb105 := NB763_750.out
          have hnc105 := NB750_763.out
          have ⟨hcz106_0, hcz106_1, hcz106_2, hcz106_3, hcz106_4, hfz106_0, hfz106_1, hfz106_2, hfz106_3, hfz106_4⟩ := bc5 BK763
          go_wp2_with (first | ((with_reducible refine gate_callee (f := 25) rfl ?_); refine goesQ (some 64) Try.func25 #[.agg #[.int .i64 t751, .int .i64 t752, .slice Ao42 t753.length co42, .slice Ao43 t756.length co43, .slice Ao44 t759.length co44], .int .i64 1] ?_; (with_reducible refine (laws_markSession.calls kj67 t751 t752 (fun k_ => some k_ = (.slice Ao42 t753.length co42 : Value).ownBlock) (.slice Ao42 t753.length co42) t753 (fun k_ => some k_ = (.slice Ao43 t756.length co43 : Value).ownBlock) (.slice Ao43 t756.length co43) t756 (fun k_ => some k_ = (.slice Ao44 t759.length co44 : Value).ownBlock) (.slice Ao44 t759.length co44) t759 1 t782 t783 t784 t785 w _ ?s1 ?s2 ?s3 ?s4 ?s5 ?s6 A100.out).mono ?_); (case s1 => repeat (first | (with_reducible first | exact HB.out | apply below_alloc | apply pw_below_drewN | apply below_drew1 | refine below_set ?_ GE713.out | refine below_set ?_ GE738.out | refine below_set ?_ GE750.out | refine below_set ?_ GE763.out) | exact HB.out)); (case s2 => exact Kd.R_tight rfl HO_764002.out); (case s3 => exact Kd.R_tight rfl HO_764003.out); (case s4 => exact fun k_ e_ => (HO_764003.out.1 k_ e_.symm).2.2.2.2); (case s5 => exact Kd.R_tight rfl HO_764004.out); (case s6 => exact fun k_ e_ => (HO_764004.out.1 k_ e_.symm).2.2.2.2); rintro e w107 ⟨rfl, hy0, hy1, hy2, hb, hkp⟩; refine ⟨_, rfl, ?_⟩; replace HO_739002 := Aside0.mk (Kd.R_mono (ok' := fun k_ => some k_ ≠ (.slice Ao33 t778.length co33 : Value).ownBlock ∧ some k_ ≠ (.slice Ao42 t753.length co42 : Value).ownBlock) (Kd.R_keptB ((Kd.R_apart' (Kd.R_apart' HO_739002.out (Kd.R_typed HO_764003.out) (by decide)) (Kd.R_typed HO_764004.out) (by decide))) hkp (fun k_ hk_ hs_ => Or.elim hs_ (fun e_ => (hk_.1.1.2) e_) (fun e_ => Or.elim e_ (fun e_ => (hk_.1.2) e_) (fun e_ => (hk_.2) e_)))) (fun k_ hk_ => ⟨hk_.1.1.1.1, hk_.1.1.1.2⟩)); replace HO_739003 := Aside0.mk (Kd.R_mono (ok' := fun k_ => some k_ ≠ (.slice Ao26 t734.length co26 : Value).ownBlock ∧ some k_ ≠ (.slice Ao34 t779.length co34 : Value).ownBlock ∧ some k_ ≠ (.slice Ao35 t780.length co35 : Value).ownBlock ∧ some k_ ≠ (.slice Ao43 t756.length co43 : Value).ownBlock ∧ some k_ ≠ (.slice Ao44 t759.length co44 : Value).ownBlock) (Kd.R_keptB ((Kd.R_apart' HO_739003.out (Kd.R_typed HO_764002.out) (by decide))) hkp (fun k_ hk_ hs_ => Or.elim hs_ (fun e_ => (hk_.2) e_) (fun e_ => Or.elim e_ (fun e_ => (hk_.1.2.2.2.1) e_) (fun e_ => (hk_.1.2.2.2.2) e_)))) (fun k_ hk_ => ⟨hk_.1.1.1, hk_.1.1.2.1, hk_.1.1.2.2.1, hk_.1.1.2.2.2.1, hk_.1.1.2.2.2.2⟩)); replace HO_739004 := Aside0.mk (Kd.R_mono (ok' := fun k_ => some k_ ≠ (.slice Ao25 t731.length co25 : Value).ownBlock ∧ some k_ ≠ (.slice Ao34 t779.length co34 : Value).ownBlock ∧ some k_ ≠ (.slice Ao35 t780.length co35 : Value).ownBlock ∧ some k_ ≠ (.slice Ao43 t756.length co43 : Value).ownBlock ∧ some k_ ≠ (.slice Ao44 t759.length co44 : Value).ownBlock) (Kd.R_keptB ((Kd.R_apart' HO_739004.out (Kd.R_typed HO_764002.out) (by decide))) hkp (fun k_ hk_ hs_ => Or.elim hs_ (fun e_ => (hk_.2) e_) (fun e_ => Or.elim e_ (fun e_ => (hk_.1.2.2.2.1) e_) (fun e_ => (hk_.1.2.2.2.2) e_)))) (fun k_ hk_ => ⟨hk_.1.1.1, hk_.1.1.2.1, hk_.1.1.2.2.1, hk_.1.1.2.2.2.1, hk_.1.1.2.2.2.2⟩)); replace HO_751002 := Aside0.mk (Kd.R_mono (ok' := fun k_ => some k_ ≠ (.slice Ao24 t728.length co24 : Value).ownBlock ∧ some k_ ≠ (.slice Ao42 t753.length co42 : Value).ownBlock) (Kd.R_keptB ((Kd.R_apart' (Kd.R_apart' HO_751002.out (Kd.R_typed HO_764003.out) (by decide)) (Kd.R_typed HO_764004.out) (by decide))) hkp (fun k_ hk_ hs_ => Or.elim hs_ (fun e_ => (hk_.1.1.2) e_) (fun e_ => Or.elim e_ (fun e_ => (hk_.1.2) e_) (fun e_ => (hk_.2) e_)))) (fun k_ hk_ => ⟨hk_.1.1.1.1, hk_.1.1.1.2⟩)); replace HO_751003 := Aside0.mk (Kd.R_mono (ok' := fun k_ => some k_ ≠ (.slice Ao25 t731.length co25 : Value).ownBlock ∧ some k_ ≠ (.slice Ao26 t734.length co26 : Value).ownBlock ∧ some k_ ≠ (.slice Ao35 t780.length co35 : Value).ownBlock ∧ some k_ ≠ (.slice Ao43 t756.length co43 : Value).ownBlock ∧ some k_ ≠ (.slice Ao44 t759.length co44 : Value).ownBlock) (Kd.R_keptB ((Kd.R_apart' HO_751003.out (Kd.R_typed HO_764002.out) (by decide))) hkp (fun k_ hk_ hs_ => Or.elim hs_ (fun e_ => (hk_.2) e_) (fun e_ => Or.elim e_ (fun e_ => (hk_.1.2.2.2.1) e_) (fun e_ => (hk_.1.2.2.2.2) e_)))) (fun k_ hk_ => ⟨hk_.1.1.1, hk_.1.1.2.1, hk_.1.1.2.2.1, hk_.1.1.2.2.2.1, hk_.1.1.2.2.2.2⟩)); replace HO_751004 := Aside0.mk (Kd.R_mono (ok' := fun k_ => some k_ ≠ (.slice Ao25 t731.length co25 : Value).ownBlock ∧ some k_ ≠ (.slice Ao26 t734.length co26 : Value).ownBlock ∧ some k_ ≠ (.slice Ao34 t779.length co34 : Value).ownBlock ∧ some k_ ≠ (.slice Ao43 t756.length co43 : Value).ownBlock ∧ some k_ ≠ (.slice Ao44 t759.length co44 : Value).ownBlock) (Kd.R_keptB ((Kd.R_apart' HO_751004.out (Kd.R_typed HO_764002.out) (by decide))) hkp (fun k_ hk_ hs_ => Or.elim hs_ (fun e_ => (hk_.2) e_) (fun e_ => Or.elim e_ (fun e_ => (hk_.1.2.2.2.1) e_) (fun e_ => (hk_.1.2.2.2.2) e_)))) (fun k_ hk_ => ⟨hk_.1.1.1, hk_.1.1.2.1, hk_.1.1.2.2.1, hk_.1.1.2.2.2.1, hk_.1.1.2.2.2.2⟩)); replace BK713 := Aside0.mk (blk_kept (zq BK713) hkp (fun hs_ => Or.elim hs_ (fun e_ => (fun e_ => (Kd.R_ne HO_764002.out BK713.out (by decide)) e_) e_) (fun e_ => Or.elim e_ (fun e_ => (fun e_ => (Kd.R_ne HO_764003.out BK713.out (by decide)) e_) e_) (fun e_ => (fun e_ => (Kd.R_ne HO_764004.out BK713.out (by decide)) e_) e_)))); replace BK738 := Aside0.mk (blk_kept (zq BK738) hkp (fun hs_ => Or.elim hs_ (fun e_ => (fun e_ => (Kd.R_ne HO_764002.out BK738.out (by decide)) e_) e_) (fun e_ => Or.elim e_ (fun e_ => (fun e_ => (Kd.R_ne HO_764003.out BK738.out (by decide)) e_) e_) (fun e_ => (fun e_ => (Kd.R_ne HO_764004.out BK738.out (by decide)) e_) e_)))); replace BK750 := Aside0.mk (blk_kept (zq BK750) hkp (fun hs_ => Or.elim hs_ (fun e_ => (fun e_ => (Kd.R_ne HO_764002.out BK750.out (by decide)) e_) e_) (fun e_ => Or.elim e_ (fun e_ => (fun e_ => (Kd.R_ne HO_764003.out BK750.out (by decide)) e_) e_) (fun e_ => (fun e_ => (Kd.R_ne HO_764004.out BK750.out (by decide)) e_) e_)))); replace BK763 := Aside0.mk (blk_kept (zq BK763) hkp (fun hs_ => Or.elim hs_ (fun e_ => (fun e_ => (Kd.R_ne HO_764002.out BK763.out (by decide)) e_) e_) (fun e_ => Or.elim e_ (fun e_ => (fun e_ => (Kd.R_ne HO_764003.out BK763.out (by decide)) e_) e_) (fun e_ => (fun e_ => (Kd.R_ne HO_764004.out BK763.out (by decide)) e_) e_)))); replace HO_764002 := Aside0.mk (Kd.R_reok rfl hy0 (fun k_ e_ => HO_764002.out.1 k_ e_)); replace HO_764003 := Aside0.mk (Kd.R_reok rfl hy1 (fun k_ e_ => HO_764003.out.1 k_ e_)); replace HO_764004 := Aside0.mk (Kd.R_reok rfl hy2 (fun k_ e_ => HO_764004.out.1 k_ e_)); replace HB := Aside0.mk (hb); (try clear hb hkp hy0 hy1 hy2); have ⟨hcz108_0, hcz108_1, hcz108_2, hcz108_3, hcz108_4, hfz108_0, hfz108_1, hfz108_2, hfz108_3, hfz108_4⟩ := bc5 BK763) | ((with_reducible refine gate_callee (f := 26) rfl ?_); refine goesL_ (some 67) rfl rfl Try.func26 (by kernel_rfl) rfl #[.agg #[.int .i64 t751, .int .i64 t752, .slice Ao42 t783.length co42, .slice Ao43 t784.length co43, .slice Ao44 t785.length co44], .int .i64 1] rfl (by (try simp only [List.map_toArray, List.map_cons, List.map_nil]); first | done | (rw [show t783.length = t753.length from (Kd.R_reads' HO_764002.out).1.symm, show t784.length = t756.length from (Kd.R_reads' HO_764003.out).1.symm, show t785.length = t759.length from (Kd.R_reads' HO_764004.out).1.symm] <;> rfl) | rfl | (simp only [List.length_drop, List.length_take]; rfl)) ?_; (with_reducible refine (laws_heldSession.calls kj67 t751 t752 _ _ t783 _ _ t784 _ _ t785 1 t786 _ ?s1 ?s2 ?s3 ?s4 ?s5 ?s6 A101.out).mono ?_); (case s1 => exact cr HO_764002); (case s2 => rw [show t783.length = t753.length from (Kd.R_reads' HO_764002.out).1.symm]; exact r1 HO_764002); (case s3 => exact cr HO_764003); (case s4 => rw [show t784.length = t756.length from (Kd.R_reads' HO_764003.out).1.symm]; exact r1 HO_764003); (case s5 => exact cr HO_764004); (case s6 => rw [show t785.length = t759.length from (Kd.R_reads' HO_764004.out).1.symm]; exact r1 HO_764004); rintro e w109 ⟨rfl, hb⟩; refine ⟨_, rfl, ?_⟩; replace HO_739002 := rb HO_739002 hb; replace HO_739003 := rb HO_739003 hb; replace HO_739004 := rb HO_739004 hb; replace HO_751002 := rb HO_751002 hb; replace HO_751003 := rb HO_751003 hb; replace HO_751004 := rb HO_751004 hb; replace HO_764002 := rb HO_764002 hb; replace HO_764003 := rb HO_764003 hb; replace HO_764004 := rb HO_764004 hb; replace BK713 := zb BK713 hb; replace BK738 := zb BK738 hb; replace BK750 := zb BK750 hb; replace BK763 := zb BK763 hb; replace HB := sb hb; (try clear hb)))
          go_ret
          exact ⟨eq_, bq⟩
         ·rw [if_neg c102] at H
          have c102b0 : decide (t786 < 0) = false := decide_eq_false c102
          clear c102
          by_cases c110 : t786 = t782
          ·rw [if_pos c110] at H
           have c110b0 : (t786 == t782) = true := beq_iff_eq.mpr c110
           have c110b1 : (t786 != t782) = false := bne_eq_false_iff_eq.mpr c110
           clear c110
           obtain ⟨⟨t787, t788, t789, t792, t795⟩, A111, H⟩ := bindq H
           try dsimp only at H
           obtain ⟨⟨t798, t799, t800, t803, t806, t809⟩, A112, H⟩ := bindq H
           try dsimp only at H
           have HC113 := Aside0.mk H
           clear H
           have hnb114 := NB763_713.out
           have hnc114 := NB713_763.out
           have hnb115 := NB763_738.out
           have hnc115 := NB738_763.out
           have hnb116 := NB763_750.out
           have hnc116 := NB750_763.out
           have ⟨hcz117_0, hcz117_1, hcz117_2, hcz117_3, hcz117_4, hfz117_0, hfz117_1, hfz117_2, hfz117_3, hfz117_4⟩ := bc5 BK763
           go_upto_region 25 with (first | ((with_reducible refine gate_callee (f := 25) rfl ?_); refine goesQ (some 64) Try.func25 #[.agg #[.int .i64 t751, .int .i64 t752, .slice Ao42 t753.length co42, .slice Ao43 t756.length co43, .slice Ao44 t759.length co44], .int .i64 1] ?_; (with_reducible refine (laws_markSession.calls kj67 t751 t752 (fun k_ => some k_ = (.slice Ao42 t753.length co42 : Value).ownBlock) (.slice Ao42 t753.length co42) t753 (fun k_ => some k_ = (.slice Ao43 t756.length co43 : Value).ownBlock) (.slice Ao43 t756.length co43) t756 (fun k_ => some k_ = (.slice Ao44 t759.length co44 : Value).ownBlock) (.slice Ao44 t759.length co44) t759 1 t782 t783 t784 t785 w _ ?s1 ?s2 ?s3 ?s4 ?s5 ?s6 A100.out).mono ?_); (case s1 => repeat (first | (with_reducible first | exact HB.out | apply below_alloc | apply pw_below_drewN | apply below_drew1 | refine below_set ?_ GE713.out | refine below_set ?_ GE738.out | refine below_set ?_ GE750.out | refine below_set ?_ GE763.out) | exact HB.out)); (case s2 => exact Kd.R_tight rfl HO_764002.out); (case s3 => exact Kd.R_tight rfl HO_764003.out); (case s4 => exact fun k_ e_ => (HO_764003.out.1 k_ e_.symm).2.2.2.2); (case s5 => exact Kd.R_tight rfl HO_764004.out); (case s6 => exact fun k_ e_ => (HO_764004.out.1 k_ e_.symm).2.2.2.2); rintro e w118 ⟨rfl, hy0, hy1, hy2, hb, hkp⟩; refine ⟨_, rfl, ?_⟩; replace HO_739002 := Aside0.mk (Kd.R_mono (ok' := fun k_ => some k_ ≠ (.slice Ao33 t778.length co33 : Value).ownBlock ∧ some k_ ≠ (.slice Ao42 t753.length co42 : Value).ownBlock) (Kd.R_keptB ((Kd.R_apart' (Kd.R_apart' HO_739002.out (Kd.R_typed HO_764003.out) (by decide)) (Kd.R_typed HO_764004.out) (by decide))) hkp (fun k_ hk_ hs_ => Or.elim hs_ (fun e_ => (hk_.1.1.2) e_) (fun e_ => Or.elim e_ (fun e_ => (hk_.1.2) e_) (fun e_ => (hk_.2) e_)))) (fun k_ hk_ => ⟨hk_.1.1.1.1, hk_.1.1.1.2⟩)); replace HO_739003 := Aside0.mk (Kd.R_mono (ok' := fun k_ => some k_ ≠ (.slice Ao26 t734.length co26 : Value).ownBlock ∧ some k_ ≠ (.slice Ao34 t779.length co34 : Value).ownBlock ∧ some k_ ≠ (.slice Ao35 t780.length co35 : Value).ownBlock ∧ some k_ ≠ (.slice Ao43 t756.length co43 : Value).ownBlock ∧ some k_ ≠ (.slice Ao44 t759.length co44 : Value).ownBlock) (Kd.R_keptB ((Kd.R_apart' HO_739003.out (Kd.R_typed HO_764002.out) (by decide))) hkp (fun k_ hk_ hs_ => Or.elim hs_ (fun e_ => (hk_.2) e_) (fun e_ => Or.elim e_ (fun e_ => (hk_.1.2.2.2.1) e_) (fun e_ => (hk_.1.2.2.2.2) e_)))) (fun k_ hk_ => ⟨hk_.1.1.1, hk_.1.1.2.1, hk_.1.1.2.2.1, hk_.1.1.2.2.2.1, hk_.1.1.2.2.2.2⟩)); replace HO_739004 := Aside0.mk (Kd.R_mono (ok' := fun k_ => some k_ ≠ (.slice Ao25 t731.length co25 : Value).ownBlock ∧ some k_ ≠ (.slice Ao34 t779.length co34 : Value).ownBlock ∧ some k_ ≠ (.slice Ao35 t780.length co35 : Value).ownBlock ∧ some k_ ≠ (.slice Ao43 t756.length co43 : Value).ownBlock ∧ some k_ ≠ (.slice Ao44 t759.length co44 : Value).ownBlock) (Kd.R_keptB ((Kd.R_apart' HO_739004.out (Kd.R_typed HO_764002.out) (by decide))) hkp (fun k_ hk_ hs_ => Or.elim hs_ (fun e_ => (hk_.2) e_) (fun e_ => Or.elim e_ (fun e_ => (hk_.1.2.2.2.1) e_) (fun e_ => (hk_.1.2.2.2.2) e_)))) (fun k_ hk_ => ⟨hk_.1.1.1, hk_.1.1.2.1, hk_.1.1.2.2.1, hk_.1.1.2.2.2.1, hk_.1.1.2.2.2.2⟩)); replace HO_751002 := Aside0.mk (Kd.R_mono (ok' := fun k_ => some k_ ≠ (.slice Ao24 t728.length co24 : Value).ownBlock ∧ some k_ ≠ (.slice Ao42 t753.length co42 : Value).ownBlock) (Kd.R_keptB ((Kd.R_apart' (Kd.R_apart' HO_751002.out (Kd.R_typed HO_764003.out) (by decide)) (Kd.R_typed HO_764004.out) (by decide))) hkp (fun k_ hk_ hs_ => Or.elim hs_ (fun e_ => (hk_.1.1.2) e_) (fun e_ => Or.elim e_ (fun e_ => (hk_.1.2) e_) (fun e_ => (hk_.2) e_)))) (fun k_ hk_ => ⟨hk_.1.1.1.1, hk_.1.1.1.2⟩)); replace HO_751003 := Aside0.mk (Kd.R_mono (ok' := fun k_ => some k_ ≠ (.slice Ao25 t731.length co25 : Value).ownBlock ∧ some k_ ≠ (.slice Ao26 t734.length co26 : Value).ownBlock ∧ some k_ ≠ (.slice Ao35 t780.length co35 : Value).ownBlock ∧ some k_ ≠ (.slice Ao43 t756.length co43 : Value).ownBlock ∧ some k_ ≠ (.slice Ao44 t759.length co44 : Value).ownBlock) (Kd.R_keptB ((Kd.R_apart' HO_751003.out (Kd.R_typed HO_764002.out) (by decide))) hkp (fun k_ hk_ hs_ => Or.elim hs_ (fun e_ => (hk_.2) e_) (fun e_ => Or.elim e_ (fun e_ => (hk_.1.2.2.2.1) e_) (fun e_ => (hk_.1.2.2.2.2) e_)))) (fun k_ hk_ => ⟨hk_.1.1.1, hk_.1.1.2.1, hk_.1.1.2.2.1, hk_.1.1.2.2.2.1, hk_.1.1.2.2.2.2⟩)); replace HO_751004 := Aside0.mk (Kd.R_mono (ok' := fun k_ => some k_ ≠ (.slice Ao25 t731.length co25 : Value).ownBlock ∧ some k_ ≠ (.slice Ao26 t734.length co26 : Value).ownBlock ∧ some k_ ≠ (.slice Ao34 t779.length co34 : Value).ownBlock ∧ some k_ ≠ (.slice Ao43 t756.length co43 : Value).ownBlock ∧ some k_ ≠ (.slice Ao44 t759.length co44 : Value).ownBlock) (Kd.R_keptB ((Kd.R_apart' HO_751004.out (Kd.R_typed HO_764002.out) (by decide))) hkp (fun k_ hk_ hs_ => Or.elim hs_ (fun e_ => (hk_.2) e_) (fun e_ => Or.elim e_ (fun e_ => (hk_.1.2.2.2.1) e_) (fun e_ => (hk_.1.2.2.2.2) e_)))) (fun k_ hk_ => ⟨hk_.1.1.1, hk_.1.1.2.1, hk_.1.1.2.2.1, hk_.1.1.2.2.2.1, hk_.1.1.2.2.2.2⟩)); replace BK713 := Aside0.mk (blk_kept (zq BK713) hkp (fun hs_ => Or.elim hs_ (fun e_ => (fun e_ => (Kd.R_ne HO_764002.out BK713.out (by decide)) e_) e_) (fun e_ => Or.elim e_ (fun e_ => (fun e_ => (Kd.R_ne HO_764003.out BK713.out (by decide)) e_) e_) (fun e_ => (fun e_ => (Kd.R_ne HO_764004.out BK713.out (by decide)) e_) e_)))); replace BK738 := Aside0.mk (blk_kept (zq BK738) hkp (fun hs_ => Or.elim hs_ (fun e_ => (fun e_ => (Kd.R_ne HO_764002.out BK738.out (by decide)) e_) e_) (fun e_ => Or.elim e_ (fun e_ => (fun e_ => (Kd.R_ne HO_764003.out BK738.out (by decide)) e_) e_) (fun e_ => (fun e_ => (Kd.R_ne HO_764004.out BK738.out (by decide)) e_) e_)))); replace BK750 := Aside0.mk (blk_kept (zq BK750) hkp (fun hs_ => Or.elim hs_ (fun e_ => (fun e_ => (Kd.R_ne HO_764002.out BK750.out (by decide)) e_) e_) (fun e_ => Or.elim e_ (fun e_ => (fun e_ => (Kd.R_ne HO_764003.out BK750.out (by decide)) e_) e_) (fun e_ => (fun e_ => (Kd.R_ne HO_764004.out BK750.out (by decide)) e_) e_)))); replace BK763 := Aside0.mk (blk_kept (zq BK763) hkp (fun hs_ => Or.elim hs_ (fun e_ => (fun e_ => (Kd.R_ne HO_764002.out BK763.out (by decide)) e_) e_) (fun e_ => Or.elim e_ (fun e_ => (fun e_ => (Kd.R_ne HO_764003.out BK763.out (by decide)) e_) e_) (fun e_ => (fun e_ => (Kd.R_ne HO_764004.out BK763.out (by decide)) e_) e_)))); replace HO_764002 := Aside0.mk (Kd.R_reok rfl hy0 (fun k_ e_ => HO_764002.out.1 k_ e_)); replace HO_764003 := Aside0.mk (Kd.R_reok rfl hy1 (fun k_ e_ => HO_764003.out.1 k_ e_)); replace HO_764004 := Aside0.mk (Kd.R_reok rfl hy2 (fun k_ e_ => HO_764004.out.1 k_ e_)); replace HB := Aside0.mk (hb); (try clear hb hkp hy0 hy1 hy2); have ⟨hcz119_0, hcz119_1, hcz119_2, hcz119_3, hcz119_4, hfz119_0, hfz119_1, hfz119_2, hfz119_3, hfz119_4⟩ := bc5 BK763) | ((with_reducible refine gate_callee (f := 26) rfl ?_); refine goesL_ (some 67) rfl rfl Try.func26 (by kernel_rfl) rfl #[.agg #[.int .i64 t751, .int .i64 t752, .slice Ao42 t783.length co42, .slice Ao43 t784.length co43, .slice Ao44 t785.length co44], .int .i64 1] rfl (by (try simp only [List.map_toArray, List.map_cons, List.map_nil]); first | done | (rw [show t783.length = t753.length from (Kd.R_reads' HO_764002.out).1.symm, show t784.length = t756.length from (Kd.R_reads' HO_764003.out).1.symm, show t785.length = t759.length from (Kd.R_reads' HO_764004.out).1.symm] <;> rfl) | rfl | (simp only [List.length_drop, List.length_take]; rfl)) ?_; (with_reducible refine (laws_heldSession.calls kj67 t751 t752 _ _ t783 _ _ t784 _ _ t785 1 t786 _ ?s1 ?s2 ?s3 ?s4 ?s5 ?s6 A101.out).mono ?_); (case s1 => exact cr HO_764002); (case s2 => rw [show t783.length = t753.length from (Kd.R_reads' HO_764002.out).1.symm]; exact r1 HO_764002); (case s3 => exact cr HO_764003); (case s4 => rw [show t784.length = t756.length from (Kd.R_reads' HO_764003.out).1.symm]; exact r1 HO_764003); (case s5 => exact cr HO_764004); (case s6 => rw [show t785.length = t759.length from (Kd.R_reads' HO_764004.out).1.symm]; exact r1 HO_764004); rintro e w120 ⟨rfl, hb⟩; refine ⟨_, rfl, ?_⟩; replace HO_739002 := rb HO_739002 hb; replace HO_739003 := rb HO_739003 hb; replace HO_739004 := rb HO_739004 hb; replace HO_751002 := rb HO_751002 hb; replace HO_751003 := rb HO_751003 hb; replace HO_751004 := rb HO_751004 hb; replace HO_764002 := rb HO_764002 hb; replace HO_764003 := rb HO_764003 hb; replace HO_764004 := rb HO_764004 hb; replace BK713 := zb BK713 hb; replace BK738 := zb BK738 hb; replace BK750 := zb BK750 hb; replace BK763 := zb BK763 hb; replace HB := sb hb; (try clear hb); have hnb121 := NB713_738.out; have hnc121 := NB738_713.out; have hnb122 := NB713_750.out; have hnc122 := NB750_713.out; have ⟨hcz123_0, hcz123_1, hcz123_2, hcz123_3, hcz123_4, hfz123_0, hfz123_1, hfz123_2, hfz123_3, hfz123_4⟩ := bc5 BK713) | ((with_reducible refine gate_callee (f := 16) rfl ?_); refine goesQ (some 75) Try.func16 #[.agg #[.int .i64 a0_0, .int .i64 a0_1, .slice A0_2 l0_2.length c0_2, .slice A0_3 l0_3.length c0_3, .slice A0_4 l0_4.length c0_4]] ?_; (with_reducible refine (laws_toSession.calls kj67 a0_0 a0_1 _ _ l0_2 _ _ l0_3 _ _ l0_4 t787 t788 t789 t792 t795 _ ?s1 ?s2 ?s3 ?s4 ?s5 ?s6 A111.out).mono ?_); (case s1 => exact cq (Kd.C_below HR0_2.out HB.out)); (case s2 => exact HC0_2.out); (case s3 => exact cq (Kd.C_below HR0_3.out HB.out)); (case s4 => exact HC0_3.out); (case s5 => exact cq (Kd.C_below HR0_4.out HB.out)); (case s6 => exact HC0_4.out); rintro e w124 ⟨v790, v793, v796, rfl, ho0, ho1, ho2, hb⟩; refine ⟨_, rfl, ?_⟩; have HO791 := Aside0.mk (Kd.R_lower (Kd.R_new' (Kd.R_new' (Kd.R_new' ho0 (Kd.R_lt (rq HO_739002))) (Kd.R_lt (rq HO_751002))) (Kd.R_lt (rq HO_764002))) (below_size bq)); replace HO_739002 := Aside0.mk (Kd.R_elder' (rq HO_739002) (Kd.R_base ho0) hb); replace HO_751002 := Aside0.mk (Kd.R_elder' (rq HO_751002) (Kd.R_base ho0) hb); replace HO_764002 := Aside0.mk (Kd.R_elder' (rq HO_764002) (Kd.R_base ho0) hb); have HO794 := Aside0.mk (Kd.R_lower (Kd.R_new' (Kd.R_new' (Kd.R_new' (Kd.R_new' (Kd.R_new' (Kd.R_new' ho1 (Kd.R_lt (rq HO_739003))) (Kd.R_lt (rq HO_739004))) (Kd.R_lt (rq HO_751003))) (Kd.R_lt (rq HO_751004))) (Kd.R_lt (rq HO_764003))) (Kd.R_lt (rq HO_764004))) (below_size bq)); have HO797 := Aside0.mk (Kd.R_lower (Kd.R_new' (Kd.R_new' (Kd.R_new' (Kd.R_new' (Kd.R_new' (Kd.R_new' ho2 (Kd.R_lt (rq HO_739003))) (Kd.R_lt (rq HO_739004))) (Kd.R_lt (rq HO_751003))) (Kd.R_lt (rq HO_751004))) (Kd.R_lt (rq HO_764003))) (Kd.R_lt (rq HO_764004))) (below_size bq)); replace HO_739003 := Aside0.mk (Kd.R_mono (Kd.R_told (Kd.R_told (Kd.R_old (rq HO_739003) hb) (Kd.R_base ho1)) (Kd.R_base ho2)) (fun _ h_ => h_.1)); replace HO_739004 := Aside0.mk (Kd.R_mono (Kd.R_told (Kd.R_told (Kd.R_old (rq HO_739004) hb) (Kd.R_base ho1)) (Kd.R_base ho2)) (fun _ h_ => h_.1)); replace HO_751003 := Aside0.mk (Kd.R_mono (Kd.R_told (Kd.R_told (Kd.R_old (rq HO_751003) hb) (Kd.R_base ho1)) (Kd.R_base ho2)) (fun _ h_ => h_.1)); replace HO_751004 := Aside0.mk (Kd.R_mono (Kd.R_told (Kd.R_told (Kd.R_old (rq HO_751004) hb) (Kd.R_base ho1)) (Kd.R_base ho2)) (fun _ h_ => h_.1)); replace HO_764003 := Aside0.mk (Kd.R_mono (Kd.R_told (Kd.R_told (Kd.R_old (rq HO_764003) hb) (Kd.R_base ho1)) (Kd.R_base ho2)) (fun _ h_ => h_.1)); replace HO_764004 := Aside0.mk (Kd.R_mono (Kd.R_told (Kd.R_told (Kd.R_old (rq HO_764004) hb) (Kd.R_base ho1)) (Kd.R_base ho2)) (fun _ h_ => h_.1)); replace BK713 := zb BK713 hb; replace BK738 := zb BK738 hb; replace BK750 := zb BK750 hb; replace BK763 := zb BK763 hb; replace HB := sb hb; (try clear hb ho0 ho1 ho2); obtain ⟨Ao125, co125, eo125⟩ := Kd.R_slice HO791.out; subst eo125; obtain ⟨Ao126, co126, eo126⟩ := Kd.R_slice HO794.out; subst eo126; obtain ⟨Ao127, co127, eo127⟩ := Kd.R_slice HO797.out; subst eo127) | ((with_reducible refine gate_callee (f := 33) rfl ?_); refine goesQ (some 76) Try.func33 #[.agg #[.int .i64 t787, .int .i64 t788, .slice Ao125 t789.length co125, .slice Ao126 t792.length co126, .slice Ao127 t795.length co127]] ?_; (with_reducible refine (impl_RedoAct.calls kj67 t787 t788 _ _ t789 _ _ t792 _ _ t795 t798 t799 t800 t803 t806 t809 _ ?s1 ?s2 ?s3 ?s4 ?s5 ?s6 A112.out).mono ?_); (case s1 => exact cr HO791); (case s2 => exact r1 HO791); (case s3 => exact cr HO794); (case s4 => exact r1 HO794); (case s5 => exact cr HO797); (case s6 => exact r1 HO797); rintro e w128 ⟨v801, v804, v807, rfl, ho0, ho1, ho2, hb⟩; refine ⟨_, rfl, ?_⟩; have HO802 := Aside0.mk (Kd.R_lower (Kd.R_new' (Kd.R_new' (Kd.R_new' (Kd.R_new' ho0 (Kd.R_lt (rq HO_739002))) (Kd.R_lt (rq HO_751002))) (Kd.R_lt (rq HO_764002))) (Kd.R_lt (rq HO791))) (below_size bq)); replace HO_739002 := Aside0.mk (Kd.R_elder' (rq HO_739002) (Kd.R_base ho0) hb); replace HO_751002 := Aside0.mk (Kd.R_elder' (rq HO_751002) (Kd.R_base ho0) hb); replace HO_764002 := Aside0.mk (Kd.R_elder' (rq HO_764002) (Kd.R_base ho0) hb); have HO805 := Aside0.mk (Kd.R_lower (Kd.R_new' (Kd.R_new' (Kd.R_new' (Kd.R_new' (Kd.R_new' (Kd.R_new' (Kd.R_new' (Kd.R_new' ho1 (Kd.R_lt (rq HO_739003))) (Kd.R_lt (rq HO_739004))) (Kd.R_lt (rq HO_751003))) (Kd.R_lt (rq HO_751004))) (Kd.R_lt (rq HO_764003))) (Kd.R_lt (rq HO_764004))) (Kd.R_lt (rq HO794))) (Kd.R_lt (rq HO797))) (below_size bq)); have HO808 := Aside0.mk (Kd.R_lower (Kd.R_new' (Kd.R_new' (Kd.R_new' (Kd.R_new' (Kd.R_new' (Kd.R_new' (Kd.R_new' (Kd.R_new' ho2 (Kd.R_lt (rq HO_739003))) (Kd.R_lt (rq HO_739004))) (Kd.R_lt (rq HO_751003))) (Kd.R_lt (rq HO_751004))) (Kd.R_lt (rq HO_764003))) (Kd.R_lt (rq HO_764004))) (Kd.R_lt (rq HO794))) (Kd.R_lt (rq HO797))) (below_size bq)); replace HO_739003 := Aside0.mk (Kd.R_mono (Kd.R_told (Kd.R_told (Kd.R_old (rq HO_739003) hb) (Kd.R_base ho1)) (Kd.R_base ho2)) (fun _ h_ => h_.1)); replace HO_739004 := Aside0.mk (Kd.R_mono (Kd.R_told (Kd.R_told (Kd.R_old (rq HO_739004) hb) (Kd.R_base ho1)) (Kd.R_base ho2)) (fun _ h_ => h_.1)); replace HO_751003 := Aside0.mk (Kd.R_mono (Kd.R_told (Kd.R_told (Kd.R_old (rq HO_751003) hb) (Kd.R_base ho1)) (Kd.R_base ho2)) (fun _ h_ => h_.1)); replace HO_751004 := Aside0.mk (Kd.R_mono (Kd.R_told (Kd.R_told (Kd.R_old (rq HO_751004) hb) (Kd.R_base ho1)) (Kd.R_base ho2)) (fun _ h_ => h_.1)); replace HO_764003 := Aside0.mk (Kd.R_mono (Kd.R_told (Kd.R_told (Kd.R_old (rq HO_764003) hb) (Kd.R_base ho1)) (Kd.R_base ho2)) (fun _ h_ => h_.1)); replace HO_764004 := Aside0.mk (Kd.R_mono (Kd.R_told (Kd.R_told (Kd.R_old (rq HO_764004) hb) (Kd.R_base ho1)) (Kd.R_base ho2)) (fun _ h_ => h_.1)); replace BK713 := zb BK713 hb; replace BK738 := zb BK738 hb; replace BK750 := zb BK750 hb; replace BK763 := zb BK763 hb; replace HB := sb hb; (try clear hb ho0 ho1 ho2)) | ((with_reducible refine gate_dst (N := 12) rfl ?_); refine box_event ?hg (N := 12) ?hd (cs := #[.int .i64 0, .int .i64 0, .slice none 0 0, .slice none 0 0, .slice none 0 0]) (t := 35) ?hr ?_; (case hd => rfl); (case hg => rfl); (case hr => first | (go_simp; done) | (go_simp; rfl)); intro gb810 hg w129 hbox hb; replace HO_739002 := rb HO_739002 hb; replace HO_739003 := rb HO_739003 hb; replace HO_739004 := rb HO_739004 hb; replace HO_751002 := rb HO_751002 hb; replace HO_751003 := rb HO_751003 hb; replace HO_751004 := rb HO_751004 hb; replace HO_764002 := rb HO_764002 hb; replace HO_764003 := rb HO_764003 hb; replace HO_764004 := rb HO_764004 hb; replace HO802 := rb HO802 hb; replace HO805 := rb HO805 hb; replace HO808 := rb HO808 hb; have BK810 := Aside0.mk (hbox); have GE810 := Aside0.mk (gq hg); replace HB := sb hb; have NB713_810 := nl hg BK713; have NB810_713 := ng hg BK713; replace BK713 := zb BK713 hb; have NB738_810 := nl hg BK738; have NB810_738 := ng hg BK738; replace BK738 := zb BK738 hb; have NB750_810 := nl hg BK750; have NB810_750 := ng hg BK750; replace BK750 := zb BK750 hb; have NB763_810 := nl hg BK763; have NB810_763 := ng hg BK763; replace BK763 := zb BK763 hb; clear hb hbox hg; have hnb130 := NB810_713.out; have hnc130 := NB713_810.out; have hnb131 := NB810_738.out; have hnc131 := NB738_810.out; have hnb132 := NB810_750.out; have hnc132 := NB750_810.out; have hnb133 := NB810_763.out; have hnc133 := NB763_810.out; have ⟨hcz134_0, hcz134_1, hcz134_2, hcz134_3, hcz134_4, hfz134_0, hfz134_1, hfz134_2, hfz134_3, hfz134_4⟩ := bc5 BK810; obtain ⟨Ao135, co135, eo135⟩ := Kd.R_slice HO802.out; subst eo135; obtain ⟨Ao136, co136, eo136⟩ := Kd.R_slice HO805.out; subst eo136; obtain ⟨Ao137, co137, eo137⟩ := Kd.R_slice HO808.out; subst eo137))
           (try simp only [Act.put, List.setIfInBounds_toArray, List.set_cons_zero, List.set_cons_succ])
           go_cut [87] (fun v87 wc => ∃ (kq : Nat) (x87_112 : Bool), v87 = .bool x87_112 ∧ Aside0 (laws_FnExactRedoAct.j2 kq t782 x87_112 t751 t752 t783 t784 t785 = some r) ∧ Aside0 (kq ≤ kj67) ∧ Aside0 (Kd.R k58 58 wc w.heap.size (fun k_ => some k_ ≠ ((.slice Ao33 t778.length co33) : Value).ownBlock ∧ some k_ ≠ ((.slice Ao42 t753.length co42) : Value).ownBlock ∧ some k_ ≠ ((.slice Ao135 t800.length co135) : Value).ownBlock) (.slice Ao24 t728.length co24) t728) ∧ Aside0 (Kd.R k60 60 wc w.heap.size (fun k_ => some k_ ≠ ((.slice Ao26 t734.length co26) : Value).ownBlock ∧ some k_ ≠ ((.slice Ao34 t779.length co34) : Value).ownBlock ∧ some k_ ≠ ((.slice Ao35 t780.length co35) : Value).ownBlock ∧ some k_ ≠ ((.slice Ao43 t756.length co43) : Value).ownBlock ∧ some k_ ≠ ((.slice Ao44 t759.length co44) : Value).ownBlock ∧ some k_ ≠ ((.slice Ao136 t803.length co136) : Value).ownBlock ∧ some k_ ≠ ((.slice Ao137 t806.length co137) : Value).ownBlock) (.slice Ao25 t731.length co25) t731) ∧ Aside0 (Kd.R k60 60 wc w.heap.size (fun k_ => some k_ ≠ ((.slice Ao25 t731.length co25) : Value).ownBlock ∧ some k_ ≠ ((.slice Ao34 t779.length co34) : Value).ownBlock ∧ some k_ ≠ ((.slice Ao35 t780.length co35) : Value).ownBlock ∧ some k_ ≠ ((.slice Ao43 t756.length co43) : Value).ownBlock ∧ some k_ ≠ ((.slice Ao44 t759.length co44) : Value).ownBlock ∧ some k_ ≠ ((.slice Ao136 t803.length co136) : Value).ownBlock ∧ some k_ ≠ ((.slice Ao137 t806.length co137) : Value).ownBlock) (.slice Ao26 t734.length co26) t734) ∧ Aside0 (Kd.R k58 58 wc w.heap.size (fun k_ => some k_ ≠ ((.slice Ao24 t728.length co24) : Value).ownBlock ∧ some k_ ≠ ((.slice Ao42 t753.length co42) : Value).ownBlock ∧ some k_ ≠ ((.slice Ao135 t800.length co135) : Value).ownBlock) (.slice Ao33 t778.length co33) t778) ∧ Aside0 (Kd.R k60 60 wc w.heap.size (fun k_ => some k_ ≠ ((.slice Ao25 t731.length co25) : Value).ownBlock ∧ some k_ ≠ ((.slice Ao26 t734.length co26) : Value).ownBlock ∧ some k_ ≠ ((.slice Ao35 t780.length co35) : Value).ownBlock ∧ some k_ ≠ ((.slice Ao43 t756.length co43) : Value).ownBlock ∧ some k_ ≠ ((.slice Ao44 t759.length co44) : Value).ownBlock ∧ some k_ ≠ ((.slice Ao136 t803.length co136) : Value).ownBlock ∧ some k_ ≠ ((.slice Ao137 t806.length co137) : Value).ownBlock) (.slice Ao34 t779.length co34) t779) ∧ Aside0 (Kd.R k60 60 wc w.heap.size (fun k_ => some k_ ≠ ((.slice Ao25 t731.length co25) : Value).ownBlock ∧ some k_ ≠ ((.slice Ao26 t734.length co26) : Value).ownBlock ∧ some k_ ≠ ((.slice Ao34 t779.length co34) : Value).ownBlock ∧ some k_ ≠ ((.slice Ao43 t756.length co43) : Value).ownBlock ∧ some k_ ≠ ((.slice Ao44 t759.length co44) : Value).ownBlock ∧ some k_ ≠ ((.slice Ao136 t803.length co136) : Value).ownBlock ∧ some k_ ≠ ((.slice Ao137 t806.length co137) : Value).ownBlock) (.slice Ao35 t780.length co35) t780) ∧ Aside0 (Kd.R k58 58 wc w.heap.size (fun k_ => some k_ ≠ ((.slice Ao24 t728.length co24) : Value).ownBlock ∧ some k_ ≠ ((.slice Ao33 t778.length co33) : Value).ownBlock ∧ some k_ ≠ ((.slice Ao135 t800.length co135) : Value).ownBlock) (.slice Ao42 t753.length co42) t783) ∧ Aside0 (Kd.R k60 60 wc w.heap.size (fun k_ => some k_ ≠ ((.slice Ao25 t731.length co25) : Value).ownBlock ∧ some k_ ≠ ((.slice Ao26 t734.length co26) : Value).ownBlock ∧ some k_ ≠ ((.slice Ao34 t779.length co34) : Value).ownBlock ∧ some k_ ≠ ((.slice Ao35 t780.length co35) : Value).ownBlock ∧ some k_ ≠ ((.slice Ao44 t759.length co44) : Value).ownBlock ∧ some k_ ≠ ((.slice Ao136 t803.length co136) : Value).ownBlock ∧ some k_ ≠ ((.slice Ao137 t806.length co137) : Value).ownBlock) (.slice Ao43 t756.length co43) t784) ∧ Aside0 (Kd.R k60 60 wc w.heap.size (fun k_ => some k_ ≠ ((.slice Ao25 t731.length co25) : Value).ownBlock ∧ some k_ ≠ ((.slice Ao26 t734.length co26) : Value).ownBlock ∧ some k_ ≠ ((.slice Ao34 t779.length co34) : Value).ownBlock ∧ some k_ ≠ ((.slice Ao35 t780.length co35) : Value).ownBlock ∧ some k_ ≠ ((.slice Ao43 t756.length co43) : Value).ownBlock ∧ some k_ ≠ ((.slice Ao136 t803.length co136) : Value).ownBlock ∧ some k_ ≠ ((.slice Ao137 t806.length co137) : Value).ownBlock) (.slice Ao44 t759.length co44) t785) ∧ Aside0 (Kd.R k58 58 wc w.heap.size (fun k_ => some k_ ≠ ((.slice Ao24 t728.length co24) : Value).ownBlock ∧ some k_ ≠ ((.slice Ao33 t778.length co33) : Value).ownBlock ∧ some k_ ≠ ((.slice Ao42 t753.length co42) : Value).ownBlock) (.slice Ao135 t800.length co135) t800) ∧ Aside0 (Kd.R k60 60 wc w.heap.size (fun k_ => some k_ ≠ ((.slice Ao25 t731.length co25) : Value).ownBlock ∧ some k_ ≠ ((.slice Ao26 t734.length co26) : Value).ownBlock ∧ some k_ ≠ ((.slice Ao34 t779.length co34) : Value).ownBlock ∧ some k_ ≠ ((.slice Ao35 t780.length co35) : Value).ownBlock ∧ some k_ ≠ ((.slice Ao43 t756.length co43) : Value).ownBlock ∧ some k_ ≠ ((.slice Ao44 t759.length co44) : Value).ownBlock ∧ some k_ ≠ ((.slice Ao137 t806.length co137) : Value).ownBlock) (.slice Ao136 t803.length co136) t803) ∧ Aside0 (Kd.R k60 60 wc w.heap.size (fun k_ => some k_ ≠ ((.slice Ao25 t731.length co25) : Value).ownBlock ∧ some k_ ≠ ((.slice Ao26 t734.length co26) : Value).ownBlock ∧ some k_ ≠ ((.slice Ao34 t779.length co34) : Value).ownBlock ∧ some k_ ≠ ((.slice Ao35 t780.length co35) : Value).ownBlock ∧ some k_ ≠ ((.slice Ao43 t756.length co43) : Value).ownBlock ∧ some k_ ≠ ((.slice Ao44 t759.length co44) : Value).ownBlock ∧ some k_ ≠ ((.slice Ao136 t803.length co136) : Value).ownBlock) (.slice Ao137 t806.length co137) t806) ∧ Aside0 (wc.heap[gb713]? = some (.cells #[.int .i64 a0_0, .int .i64 a0_1, (.slice A0_2 l0_2.length c0_2), (.slice A0_3 l0_3.length c0_3), (.slice A0_4 l0_4.length c0_4)] 27 (0, 0))) ∧ Aside0 (wc.heap[gb738]? = some (.cells #[.int .i64 t726, .int .i64 t727, (.slice Ao24 t728.length co24), (.slice Ao25 t731.length co25), (.slice Ao26 t734.length co26)] 35 (0, 0))) ∧ Aside0 (wc.heap[gb750]? = some (.cells #[.int .i64 t739, .int .i64 t740, (.slice Ao33 t778.length co33), (.slice Ao34 t779.length co34), (.slice Ao35 t780.length co35)] 35 (0, 0))) ∧ Aside0 (wc.heap[gb763]? = some (.cells #[.int .i64 t751, .int .i64 t752, (.slice Ao42 t753.length co42), (.slice Ao43 t756.length co43), (.slice Ao44 t759.length co44)] 35 (0, 0))) ∧ Aside0 (wc.heap[gb810]? = some (.cells #[.int .i64 t798, .int .i64 t799, (.slice Ao135 t800.length co135), (.slice Ao136 t803.length co136), (.slice Ao137 t806.length co137)] 35 (0, 0))) ∧ Aside0 (Below w.heap.size w wc))
           case first =>
            have H := HC113.out
            clear HC113
            obtain ⟨t811, A138, H⟩ := bindq H
            try dsimp only at H
            by_cases c139 : t811 = true
            ·subst c139
             rw [if_pos rfl] at H
             try dsimp only at H
             have H' := Aside0.mk H
             clear H
             have hnb140 := NB810_713.out
             have hnc140 := NB713_810.out
             have hnb141 := NB810_738.out
             have hnc141 := NB738_810.out
             have hnb142 := NB810_750.out
             have hnc142 := NB750_810.out
             have hnb143 := NB810_763.out
             have hnc143 := NB763_810.out
             have ⟨hcz144_0, hcz144_1, hcz144_2, hcz144_3, hcz144_4, hfz144_0, hfz144_1, hfz144_2, hfz144_3, hfz144_4⟩ := bc5 BK810
             have hnb145 := NB738_713.out
             have hnc145 := NB713_738.out
             have hnb146 := NB738_750.out
             have hnc146 := NB750_738.out
             have hnb147 := NB738_763.out
             have hnc147 := NB763_738.out
             have ⟨hcz148_0, hcz148_1, hcz148_2, hcz148_3, hcz148_4, hfz148_0, hfz148_1, hfz148_2, hfz148_3, hfz148_4⟩ := bc5 BK738
             go_wp2_with (first | ((with_reducible refine gate_callee (f := 18) rfl ?_); refine goesQ (some 81) Try.func18 #[.agg #[.int .i64 t798, .int .i64 t799, .slice Ao135 t800.length co135, .slice Ao136 t803.length co136, .slice Ao137 t806.length co137], .agg #[.int .i64 t726, .int .i64 t727, .slice Ao24 t728.length co24, .slice Ao25 t731.length co25, .slice Ao26 t734.length co26]] ?_; (with_reducible refine (laws_eqSession.calls kj67 t798 t799 _ _ t800 _ _ t803 _ _ t806 t726 t727 _ _ t728 _ _ t731 _ _ t734 true _ ?s1 ?s2 ?s3 ?s4 ?s5 ?s6 ?s7 ?s8 ?s9 ?s10 ?s11 ?s12 A138.out).mono ?_); (case s1 => refine (Kd.R_reads' (e := 58) (base := w.heap.size) (ok := fun k_ => ((((True ∧ some k_ ≠ (.slice Ao24 t728.length co24 : Value).ownBlock) ∧ some k_ ≠ (.slice Ao33 t778.length co33 : Value).ownBlock) ∧ some k_ ≠ (.slice Ao42 t753.length co42 : Value).ownBlock) ∧ some k_ ≠ (.slice Ao125 t789.length co125 : Value).ownBlock)) (n := t800.length) (c := co135) ?_).2.2; exact (by (with_reducible repeat (first | apply Kd.R_alloc | apply Kd.R_drewN | apply Kd.R_drew)); exact (Kd.R_mono (Kd.R_far (p := ⟨gb810, 4, none⟩) (Kd.R_far (p := ⟨gb810, 3, none⟩) (Kd.R_far (p := ⟨gb810, 2, none⟩) (Kd.R_far (p := ⟨gb810, 1, none⟩) (Kd.R_far (p := ⟨gb810, 0, none⟩) (Kd.R_types HO802.out BK810.out (by decide)) (fun _ hk => hk.2) (.int .i64 t798)) (fun _ hk => hk.2) (.int .i64 t799)) (fun _ hk => hk.2) (.slice Ao135 t800.length co135)) (fun _ hk => hk.2) (.slice Ao136 t803.length co136)) (fun _ hk => hk.2) (.slice Ao137 t806.length co137)) (fun _ h_ => h_.1)))); (case s2 => exact r1 HO802); (case s3 => refine (Kd.R_reads' (e := 60) (base := w.heap.size) (ok := fun k_ => ((((((((some k_ ≠ (.slice Ao137 t806.length co137 : Value).ownBlock ∧ some k_ ≠ (.slice Ao25 t731.length co25 : Value).ownBlock) ∧ some k_ ≠ (.slice Ao26 t734.length co26 : Value).ownBlock) ∧ some k_ ≠ (.slice Ao34 t779.length co34 : Value).ownBlock) ∧ some k_ ≠ (.slice Ao35 t780.length co35 : Value).ownBlock) ∧ some k_ ≠ (.slice Ao43 t756.length co43 : Value).ownBlock) ∧ some k_ ≠ (.slice Ao44 t759.length co44 : Value).ownBlock) ∧ some k_ ≠ (.slice Ao126 t792.length co126 : Value).ownBlock) ∧ some k_ ≠ (.slice Ao127 t795.length co127 : Value).ownBlock)) (n := t803.length) (c := co136) ?_).2.2; exact (by (with_reducible repeat (first | apply Kd.R_alloc | apply Kd.R_drewN | apply Kd.R_drew)); exact (Kd.R_mono (Kd.R_far (p := ⟨gb810, 4, none⟩) (Kd.R_far (p := ⟨gb810, 3, none⟩) (Kd.R_far (p := ⟨gb810, 2, none⟩) (Kd.R_far (p := ⟨gb810, 1, none⟩) (Kd.R_far (p := ⟨gb810, 0, none⟩) (Kd.R_types HO805.out BK810.out (by decide)) (fun _ hk => hk.2) (.int .i64 t798)) (fun _ hk => hk.2) (.int .i64 t799)) (fun _ hk => hk.2) (.slice Ao135 t800.length co135)) (fun _ hk => hk.2) (.slice Ao136 t803.length co136)) (fun _ hk => hk.2) (.slice Ao137 t806.length co137)) (fun _ h_ => h_.1)))); (case s4 => exact r1 HO805); (case s5 => refine (Kd.R_reads' (e := 60) (base := w.heap.size) (ok := fun k_ => ((((((((some k_ ≠ (.slice Ao136 t803.length co136 : Value).ownBlock ∧ some k_ ≠ (.slice Ao25 t731.length co25 : Value).ownBlock) ∧ some k_ ≠ (.slice Ao26 t734.length co26 : Value).ownBlock) ∧ some k_ ≠ (.slice Ao34 t779.length co34 : Value).ownBlock) ∧ some k_ ≠ (.slice Ao35 t780.length co35 : Value).ownBlock) ∧ some k_ ≠ (.slice Ao43 t756.length co43 : Value).ownBlock) ∧ some k_ ≠ (.slice Ao44 t759.length co44 : Value).ownBlock) ∧ some k_ ≠ (.slice Ao126 t792.length co126 : Value).ownBlock) ∧ some k_ ≠ (.slice Ao127 t795.length co127 : Value).ownBlock)) (n := t806.length) (c := co137) ?_).2.2; exact (by (with_reducible repeat (first | apply Kd.R_alloc | apply Kd.R_drewN | apply Kd.R_drew)); exact (Kd.R_mono (Kd.R_far (p := ⟨gb810, 4, none⟩) (Kd.R_far (p := ⟨gb810, 3, none⟩) (Kd.R_far (p := ⟨gb810, 2, none⟩) (Kd.R_far (p := ⟨gb810, 1, none⟩) (Kd.R_far (p := ⟨gb810, 0, none⟩) (Kd.R_types HO808.out BK810.out (by decide)) (fun _ hk => hk.2) (.int .i64 t798)) (fun _ hk => hk.2) (.int .i64 t799)) (fun _ hk => hk.2) (.slice Ao135 t800.length co135)) (fun _ hk => hk.2) (.slice Ao136 t803.length co136)) (fun _ hk => hk.2) (.slice Ao137 t806.length co137)) (fun _ h_ => h_.1)))); (case s6 => exact r1 HO808); (case s7 => refine (Kd.R_reads' (e := 58) (base := w.heap.size) (ok := fun k_ => (((some k_ ≠ (.slice Ao33 t778.length co33 : Value).ownBlock ∧ some k_ ≠ (.slice Ao42 t753.length co42 : Value).ownBlock) ∧ some k_ ≠ (.slice Ao125 t789.length co125 : Value).ownBlock) ∧ some k_ ≠ (.slice Ao135 t800.length co135 : Value).ownBlock)) (n := t728.length) (c := co24) ?_).2.2; exact (by (with_reducible repeat (first | apply Kd.R_alloc | apply Kd.R_drewN | apply Kd.R_drew)); exact (Kd.R_mono (Kd.R_far (p := ⟨gb810, 4, none⟩) (Kd.R_far (p := ⟨gb810, 3, none⟩) (Kd.R_far (p := ⟨gb810, 2, none⟩) (Kd.R_far (p := ⟨gb810, 1, none⟩) (Kd.R_far (p := ⟨gb810, 0, none⟩) (Kd.R_types HO_739002.out BK810.out (by decide)) (fun _ hk => hk.2) (.int .i64 t798)) (fun _ hk => hk.2) (.int .i64 t799)) (fun _ hk => hk.2) (.slice Ao135 t800.length co135)) (fun _ hk => hk.2) (.slice Ao136 t803.length co136)) (fun _ hk => hk.2) (.slice Ao137 t806.length co137)) (fun _ h_ => h_.1)))); (case s8 => exact r1 HO_739002); (case s9 => refine (Kd.R_reads' (e := 60) (base := w.heap.size) (ok := fun k_ => (((((some k_ ≠ (.slice Ao26 t734.length co26 : Value).ownBlock ∧ (some k_ ≠ (.slice Ao34 t779.length co34 : Value).ownBlock ∧ (some k_ ≠ (.slice Ao35 t780.length co35 : Value).ownBlock ∧ (some k_ ≠ (.slice Ao43 t756.length co43 : Value).ownBlock ∧ some k_ ≠ (.slice Ao44 t759.length co44 : Value).ownBlock)))) ∧ some k_ ≠ (.slice Ao126 t792.length co126 : Value).ownBlock) ∧ some k_ ≠ (.slice Ao127 t795.length co127 : Value).ownBlock) ∧ some k_ ≠ (.slice Ao136 t803.length co136 : Value).ownBlock) ∧ some k_ ≠ (.slice Ao137 t806.length co137 : Value).ownBlock)) (n := t731.length) (c := co25) ?_).2.2; exact (by (with_reducible repeat (first | apply Kd.R_alloc | apply Kd.R_drewN | apply Kd.R_drew)); exact (Kd.R_mono (Kd.R_far (p := ⟨gb810, 4, none⟩) (Kd.R_far (p := ⟨gb810, 3, none⟩) (Kd.R_far (p := ⟨gb810, 2, none⟩) (Kd.R_far (p := ⟨gb810, 1, none⟩) (Kd.R_far (p := ⟨gb810, 0, none⟩) (Kd.R_types HO_739003.out BK810.out (by decide)) (fun _ hk => hk.2) (.int .i64 t798)) (fun _ hk => hk.2) (.int .i64 t799)) (fun _ hk => hk.2) (.slice Ao135 t800.length co135)) (fun _ hk => hk.2) (.slice Ao136 t803.length co136)) (fun _ hk => hk.2) (.slice Ao137 t806.length co137)) (fun _ h_ => h_.1)))); (case s10 => exact r1 HO_739003); (case s11 => refine (Kd.R_reads' (e := 60) (base := w.heap.size) (ok := fun k_ => (((((some k_ ≠ (.slice Ao25 t731.length co25 : Value).ownBlock ∧ (some k_ ≠ (.slice Ao34 t779.length co34 : Value).ownBlock ∧ (some k_ ≠ (.slice Ao35 t780.length co35 : Value).ownBlock ∧ (some k_ ≠ (.slice Ao43 t756.length co43 : Value).ownBlock ∧ some k_ ≠ (.slice Ao44 t759.length co44 : Value).ownBlock)))) ∧ some k_ ≠ (.slice Ao126 t792.length co126 : Value).ownBlock) ∧ some k_ ≠ (.slice Ao127 t795.length co127 : Value).ownBlock) ∧ some k_ ≠ (.slice Ao136 t803.length co136 : Value).ownBlock) ∧ some k_ ≠ (.slice Ao137 t806.length co137 : Value).ownBlock)) (n := t734.length) (c := co26) ?_).2.2; exact (by (with_reducible repeat (first | apply Kd.R_alloc | apply Kd.R_drewN | apply Kd.R_drew)); exact (Kd.R_mono (Kd.R_far (p := ⟨gb810, 4, none⟩) (Kd.R_far (p := ⟨gb810, 3, none⟩) (Kd.R_far (p := ⟨gb810, 2, none⟩) (Kd.R_far (p := ⟨gb810, 1, none⟩) (Kd.R_far (p := ⟨gb810, 0, none⟩) (Kd.R_types HO_739004.out BK810.out (by decide)) (fun _ hk => hk.2) (.int .i64 t798)) (fun _ hk => hk.2) (.int .i64 t799)) (fun _ hk => hk.2) (.slice Ao135 t800.length co135)) (fun _ hk => hk.2) (.slice Ao136 t803.length co136)) (fun _ hk => hk.2) (.slice Ao137 t806.length co137)) (fun _ h_ => h_.1)))); (case s12 => exact r1 HO_739004); rintro e w149 ⟨rfl, hb⟩; refine ⟨_, rfl, ?_⟩; replace HO_739002 := Aside0.mk (Kd.R_below (by (with_reducible repeat (first | apply Kd.R_alloc | apply Kd.R_drewN | apply Kd.R_drew)); exact (Kd.R_mono (Kd.R_far (p := ⟨gb810, 4, none⟩) (Kd.R_far (p := ⟨gb810, 3, none⟩) (Kd.R_far (p := ⟨gb810, 2, none⟩) (Kd.R_far (p := ⟨gb810, 1, none⟩) (Kd.R_far (p := ⟨gb810, 0, none⟩) (Kd.R_types HO_739002.out BK810.out (by decide)) (fun _ hk => hk.2) (.int .i64 t798)) (fun _ hk => hk.2) (.int .i64 t799)) (fun _ hk => hk.2) (.slice Ao135 t800.length co135)) (fun _ hk => hk.2) (.slice Ao136 t803.length co136)) (fun _ hk => hk.2) (.slice Ao137 t806.length co137)) (fun _ h_ => h_.1))) hb); replace HO_739003 := Aside0.mk (Kd.R_below (by (with_reducible repeat (first | apply Kd.R_alloc | apply Kd.R_drewN | apply Kd.R_drew)); exact (Kd.R_mono (Kd.R_far (p := ⟨gb810, 4, none⟩) (Kd.R_far (p := ⟨gb810, 3, none⟩) (Kd.R_far (p := ⟨gb810, 2, none⟩) (Kd.R_far (p := ⟨gb810, 1, none⟩) (Kd.R_far (p := ⟨gb810, 0, none⟩) (Kd.R_types HO_739003.out BK810.out (by decide)) (fun _ hk => hk.2) (.int .i64 t798)) (fun _ hk => hk.2) (.int .i64 t799)) (fun _ hk => hk.2) (.slice Ao135 t800.length co135)) (fun _ hk => hk.2) (.slice Ao136 t803.length co136)) (fun _ hk => hk.2) (.slice Ao137 t806.length co137)) (fun _ h_ => h_.1))) hb); replace HO_739004 := Aside0.mk (Kd.R_below (by (with_reducible repeat (first | apply Kd.R_alloc | apply Kd.R_drewN | apply Kd.R_drew)); exact (Kd.R_mono (Kd.R_far (p := ⟨gb810, 4, none⟩) (Kd.R_far (p := ⟨gb810, 3, none⟩) (Kd.R_far (p := ⟨gb810, 2, none⟩) (Kd.R_far (p := ⟨gb810, 1, none⟩) (Kd.R_far (p := ⟨gb810, 0, none⟩) (Kd.R_types HO_739004.out BK810.out (by decide)) (fun _ hk => hk.2) (.int .i64 t798)) (fun _ hk => hk.2) (.int .i64 t799)) (fun _ hk => hk.2) (.slice Ao135 t800.length co135)) (fun _ hk => hk.2) (.slice Ao136 t803.length co136)) (fun _ hk => hk.2) (.slice Ao137 t806.length co137)) (fun _ h_ => h_.1))) hb); replace HO_751002 := Aside0.mk (Kd.R_below (by (with_reducible repeat (first | apply Kd.R_alloc | apply Kd.R_drewN | apply Kd.R_drew)); exact (Kd.R_mono (Kd.R_far (p := ⟨gb810, 4, none⟩) (Kd.R_far (p := ⟨gb810, 3, none⟩) (Kd.R_far (p := ⟨gb810, 2, none⟩) (Kd.R_far (p := ⟨gb810, 1, none⟩) (Kd.R_far (p := ⟨gb810, 0, none⟩) (Kd.R_types HO_751002.out BK810.out (by decide)) (fun _ hk => hk.2) (.int .i64 t798)) (fun _ hk => hk.2) (.int .i64 t799)) (fun _ hk => hk.2) (.slice Ao135 t800.length co135)) (fun _ hk => hk.2) (.slice Ao136 t803.length co136)) (fun _ hk => hk.2) (.slice Ao137 t806.length co137)) (fun _ h_ => h_.1))) hb); replace HO_751003 := Aside0.mk (Kd.R_below (by (with_reducible repeat (first | apply Kd.R_alloc | apply Kd.R_drewN | apply Kd.R_drew)); exact (Kd.R_mono (Kd.R_far (p := ⟨gb810, 4, none⟩) (Kd.R_far (p := ⟨gb810, 3, none⟩) (Kd.R_far (p := ⟨gb810, 2, none⟩) (Kd.R_far (p := ⟨gb810, 1, none⟩) (Kd.R_far (p := ⟨gb810, 0, none⟩) (Kd.R_types HO_751003.out BK810.out (by decide)) (fun _ hk => hk.2) (.int .i64 t798)) (fun _ hk => hk.2) (.int .i64 t799)) (fun _ hk => hk.2) (.slice Ao135 t800.length co135)) (fun _ hk => hk.2) (.slice Ao136 t803.length co136)) (fun _ hk => hk.2) (.slice Ao137 t806.length co137)) (fun _ h_ => h_.1))) hb); replace HO_751004 := Aside0.mk (Kd.R_below (by (with_reducible repeat (first | apply Kd.R_alloc | apply Kd.R_drewN | apply Kd.R_drew)); exact (Kd.R_mono (Kd.R_far (p := ⟨gb810, 4, none⟩) (Kd.R_far (p := ⟨gb810, 3, none⟩) (Kd.R_far (p := ⟨gb810, 2, none⟩) (Kd.R_far (p := ⟨gb810, 1, none⟩) (Kd.R_far (p := ⟨gb810, 0, none⟩) (Kd.R_types HO_751004.out BK810.out (by decide)) (fun _ hk => hk.2) (.int .i64 t798)) (fun _ hk => hk.2) (.int .i64 t799)) (fun _ hk => hk.2) (.slice Ao135 t800.length co135)) (fun _ hk => hk.2) (.slice Ao136 t803.length co136)) (fun _ hk => hk.2) (.slice Ao137 t806.length co137)) (fun _ h_ => h_.1))) hb); replace HO_764002 := Aside0.mk (Kd.R_below (by (with_reducible repeat (first | apply Kd.R_alloc | apply Kd.R_drewN | apply Kd.R_drew)); exact (Kd.R_mono (Kd.R_far (p := ⟨gb810, 4, none⟩) (Kd.R_far (p := ⟨gb810, 3, none⟩) (Kd.R_far (p := ⟨gb810, 2, none⟩) (Kd.R_far (p := ⟨gb810, 1, none⟩) (Kd.R_far (p := ⟨gb810, 0, none⟩) (Kd.R_types HO_764002.out BK810.out (by decide)) (fun _ hk => hk.2) (.int .i64 t798)) (fun _ hk => hk.2) (.int .i64 t799)) (fun _ hk => hk.2) (.slice Ao135 t800.length co135)) (fun _ hk => hk.2) (.slice Ao136 t803.length co136)) (fun _ hk => hk.2) (.slice Ao137 t806.length co137)) (fun _ h_ => h_.1))) hb); replace HO_764003 := Aside0.mk (Kd.R_below (by (with_reducible repeat (first | apply Kd.R_alloc | apply Kd.R_drewN | apply Kd.R_drew)); exact (Kd.R_mono (Kd.R_far (p := ⟨gb810, 4, none⟩) (Kd.R_far (p := ⟨gb810, 3, none⟩) (Kd.R_far (p := ⟨gb810, 2, none⟩) (Kd.R_far (p := ⟨gb810, 1, none⟩) (Kd.R_far (p := ⟨gb810, 0, none⟩) (Kd.R_types HO_764003.out BK810.out (by decide)) (fun _ hk => hk.2) (.int .i64 t798)) (fun _ hk => hk.2) (.int .i64 t799)) (fun _ hk => hk.2) (.slice Ao135 t800.length co135)) (fun _ hk => hk.2) (.slice Ao136 t803.length co136)) (fun _ hk => hk.2) (.slice Ao137 t806.length co137)) (fun _ h_ => h_.1))) hb); replace HO_764004 := Aside0.mk (Kd.R_below (by (with_reducible repeat (first | apply Kd.R_alloc | apply Kd.R_drewN | apply Kd.R_drew)); exact (Kd.R_mono (Kd.R_far (p := ⟨gb810, 4, none⟩) (Kd.R_far (p := ⟨gb810, 3, none⟩) (Kd.R_far (p := ⟨gb810, 2, none⟩) (Kd.R_far (p := ⟨gb810, 1, none⟩) (Kd.R_far (p := ⟨gb810, 0, none⟩) (Kd.R_types HO_764004.out BK810.out (by decide)) (fun _ hk => hk.2) (.int .i64 t798)) (fun _ hk => hk.2) (.int .i64 t799)) (fun _ hk => hk.2) (.slice Ao135 t800.length co135)) (fun _ hk => hk.2) (.slice Ao136 t803.length co136)) (fun _ hk => hk.2) (.slice Ao137 t806.length co137)) (fun _ h_ => h_.1))) hb); replace HO802 := Aside0.mk (Kd.R_below (by (with_reducible repeat (first | apply Kd.R_alloc | apply Kd.R_drewN | apply Kd.R_drew)); exact (Kd.R_mono (Kd.R_far (p := ⟨gb810, 4, none⟩) (Kd.R_far (p := ⟨gb810, 3, none⟩) (Kd.R_far (p := ⟨gb810, 2, none⟩) (Kd.R_far (p := ⟨gb810, 1, none⟩) (Kd.R_far (p := ⟨gb810, 0, none⟩) (Kd.R_types HO802.out BK810.out (by decide)) (fun _ hk => hk.2) (.int .i64 t798)) (fun _ hk => hk.2) (.int .i64 t799)) (fun _ hk => hk.2) (.slice Ao135 t800.length co135)) (fun _ hk => hk.2) (.slice Ao136 t803.length co136)) (fun _ hk => hk.2) (.slice Ao137 t806.length co137)) (fun _ h_ => h_.1))) hb); replace HO805 := Aside0.mk (Kd.R_below (by (with_reducible repeat (first | apply Kd.R_alloc | apply Kd.R_drewN | apply Kd.R_drew)); exact (Kd.R_mono (Kd.R_far (p := ⟨gb810, 4, none⟩) (Kd.R_far (p := ⟨gb810, 3, none⟩) (Kd.R_far (p := ⟨gb810, 2, none⟩) (Kd.R_far (p := ⟨gb810, 1, none⟩) (Kd.R_far (p := ⟨gb810, 0, none⟩) (Kd.R_types HO805.out BK810.out (by decide)) (fun _ hk => hk.2) (.int .i64 t798)) (fun _ hk => hk.2) (.int .i64 t799)) (fun _ hk => hk.2) (.slice Ao135 t800.length co135)) (fun _ hk => hk.2) (.slice Ao136 t803.length co136)) (fun _ hk => hk.2) (.slice Ao137 t806.length co137)) (fun _ h_ => h_.1))) hb); replace HO808 := Aside0.mk (Kd.R_below (by (with_reducible repeat (first | apply Kd.R_alloc | apply Kd.R_drewN | apply Kd.R_drew)); exact (Kd.R_mono (Kd.R_far (p := ⟨gb810, 4, none⟩) (Kd.R_far (p := ⟨gb810, 3, none⟩) (Kd.R_far (p := ⟨gb810, 2, none⟩) (Kd.R_far (p := ⟨gb810, 1, none⟩) (Kd.R_far (p := ⟨gb810, 0, none⟩) (Kd.R_types HO808.out BK810.out (by decide)) (fun _ hk => hk.2) (.int .i64 t798)) (fun _ hk => hk.2) (.int .i64 t799)) (fun _ hk => hk.2) (.slice Ao135 t800.length co135)) (fun _ hk => hk.2) (.slice Ao136 t803.length co136)) (fun _ hk => hk.2) (.slice Ao137 t806.length co137)) (fun _ h_ => h_.1))) hb); replace BK713 := Aside0.mk (blk_below (g := gb713) (o := .cells #[.int .i64 a0_0, .int .i64 a0_1, .slice A0_2 l0_2.length c0_2, .slice A0_3 l0_3.length c0_3, .slice A0_4 l0_4.length c0_4] 27 (0, 0)) (by (with_reducible repeat (first | refine blk_drewN ?_ _ | refine blk_drew ?_ | refine blk_alloc ?_ _)); refine blk_far ?_ NB713_810.out _; (with_reducible repeat (first | refine blk_drewN ?_ _ | refine blk_drew ?_ | refine blk_alloc ?_ _)); refine blk_far ?_ NB713_810.out _; (with_reducible repeat (first | refine blk_drewN ?_ _ | refine blk_drew ?_ | refine blk_alloc ?_ _)); refine blk_far ?_ NB713_810.out _; (with_reducible repeat (first | refine blk_drewN ?_ _ | refine blk_drew ?_ | refine blk_alloc ?_ _)); refine blk_far ?_ NB713_810.out _; (with_reducible repeat (first | refine blk_drewN ?_ _ | refine blk_drew ?_ | refine blk_alloc ?_ _)); refine blk_far ?_ NB713_810.out _; (with_reducible repeat (first | refine blk_drewN ?_ _ | refine blk_drew ?_ | refine blk_alloc ?_ _)); exact BK713.out) hb); replace BK738 := Aside0.mk (blk_below (g := gb738) (o := .cells #[.int .i64 t726, .int .i64 t727, .slice Ao24 t728.length co24, .slice Ao25 t731.length co25, .slice Ao26 t734.length co26] 35 (0, 0)) (by (with_reducible repeat (first | refine blk_drewN ?_ _ | refine blk_drew ?_ | refine blk_alloc ?_ _)); refine blk_far ?_ NB738_810.out _; (with_reducible repeat (first | refine blk_drewN ?_ _ | refine blk_drew ?_ | refine blk_alloc ?_ _)); refine blk_far ?_ NB738_810.out _; (with_reducible repeat (first | refine blk_drewN ?_ _ | refine blk_drew ?_ | refine blk_alloc ?_ _)); refine blk_far ?_ NB738_810.out _; (with_reducible repeat (first | refine blk_drewN ?_ _ | refine blk_drew ?_ | refine blk_alloc ?_ _)); refine blk_far ?_ NB738_810.out _; (with_reducible repeat (first | refine blk_drewN ?_ _ | refine blk_drew ?_ | refine blk_alloc ?_ _)); refine blk_far ?_ NB738_810.out _; (with_reducible repeat (first | refine blk_drewN ?_ _ | refine blk_drew ?_ | refine blk_alloc ?_ _)); exact BK738.out) hb); replace BK750 := Aside0.mk (blk_below (g := gb750) (o := .cells #[.int .i64 t739, .int .i64 t740, .slice Ao33 t778.length co33, .slice Ao34 t779.length co34, .slice Ao35 t780.length co35] 35 (0, 0)) (by (with_reducible repeat (first | refine blk_drewN ?_ _ | refine blk_drew ?_ | refine blk_alloc ?_ _)); refine blk_far ?_ NB750_810.out _; (with_reducible repeat (first | refine blk_drewN ?_ _ | refine blk_drew ?_ | refine blk_alloc ?_ _)); refine blk_far ?_ NB750_810.out _; (with_reducible repeat (first | refine blk_drewN ?_ _ | refine blk_drew ?_ | refine blk_alloc ?_ _)); refine blk_far ?_ NB750_810.out _; (with_reducible repeat (first | refine blk_drewN ?_ _ | refine blk_drew ?_ | refine blk_alloc ?_ _)); refine blk_far ?_ NB750_810.out _; (with_reducible repeat (first | refine blk_drewN ?_ _ | refine blk_drew ?_ | refine blk_alloc ?_ _)); refine blk_far ?_ NB750_810.out _; (with_reducible repeat (first | refine blk_drewN ?_ _ | refine blk_drew ?_ | refine blk_alloc ?_ _)); exact BK750.out) hb); replace BK763 := Aside0.mk (blk_below (g := gb763) (o := .cells #[.int .i64 t751, .int .i64 t752, .slice Ao42 t753.length co42, .slice Ao43 t756.length co43, .slice Ao44 t759.length co44] 35 (0, 0)) (by (with_reducible repeat (first | refine blk_drewN ?_ _ | refine blk_drew ?_ | refine blk_alloc ?_ _)); refine blk_far ?_ NB763_810.out _; (with_reducible repeat (first | refine blk_drewN ?_ _ | refine blk_drew ?_ | refine blk_alloc ?_ _)); refine blk_far ?_ NB763_810.out _; (with_reducible repeat (first | refine blk_drewN ?_ _ | refine blk_drew ?_ | refine blk_alloc ?_ _)); refine blk_far ?_ NB763_810.out _; (with_reducible repeat (first | refine blk_drewN ?_ _ | refine blk_drew ?_ | refine blk_alloc ?_ _)); refine blk_far ?_ NB763_810.out _; (with_reducible repeat (first | refine blk_drewN ?_ _ | refine blk_drew ?_ | refine blk_alloc ?_ _)); refine blk_far ?_ NB763_810.out _; (with_reducible repeat (first | refine blk_drewN ?_ _ | refine blk_drew ?_ | refine blk_alloc ?_ _)); exact BK763.out) hb); replace BK810 := Aside0.mk (blk_below (g := gb810) (o := .cells #[.int .i64 t798, .int .i64 t799, .slice Ao135 t800.length co135, .slice Ao136 t803.length co136, .slice Ao137 t806.length co137] 35 (0, 0)) (by (with_reducible repeat (first | refine blk_drewN ?_ _ | refine blk_drew ?_ | refine blk_alloc ?_ _)); refine blk_put (cs := #[.int .i64 t798, .int .i64 t799, .slice Ao135 t800.length co135, .slice Ao136 t803.length co136, .slice none 0 0]) ?_ 4 _ rfl; (with_reducible repeat (first | refine blk_drewN ?_ _ | refine blk_drew ?_ | refine blk_alloc ?_ _)); refine blk_put (cs := #[.int .i64 t798, .int .i64 t799, .slice Ao135 t800.length co135, .slice none 0 0, .slice none 0 0]) ?_ 3 _ rfl; (with_reducible repeat (first | refine blk_drewN ?_ _ | refine blk_drew ?_ | refine blk_alloc ?_ _)); refine blk_put (cs := #[.int .i64 t798, .int .i64 t799, .slice none 0 0, .slice none 0 0, .slice none 0 0]) ?_ 2 _ rfl; (with_reducible repeat (first | refine blk_drewN ?_ _ | refine blk_drew ?_ | refine blk_alloc ?_ _)); refine blk_put (cs := #[.int .i64 t798, .int .i64 0, .slice none 0 0, .slice none 0 0, .slice none 0 0]) ?_ 1 _ rfl; (with_reducible repeat (first | refine blk_drewN ?_ _ | refine blk_drew ?_ | refine blk_alloc ?_ _)); refine blk_put (cs := #[.int .i64 0, .int .i64 0, .slice none 0 0, .slice none 0 0, .slice none 0 0]) ?_ 0 _ rfl; (with_reducible repeat (first | refine blk_drewN ?_ _ | refine blk_drew ?_ | refine blk_alloc ?_ _)); exact BK810.out) hb); replace HB := sb hb; (try clear hb hb2 hk hi)))
             go_meet
             case rel => exact ⟨_, ((t809 != t737)), sq, H', ⟨by have := HJ10.out; have := HJ67.out; first | omega | exact Nat.le_refl _⟩, ⟨by (try simp only [hl751002_67]); (try simp only [hl751003_67]); (try simp only [hl751004_67]); (with_reducible repeat (first | apply Kd.R_alloc | apply Kd.R_drewN | apply Kd.R_drew)); exact Kd.R_mono HO_739002.out (fun _ hk => ⟨hk.1.1.1, ⟨hk.1.1.2, hk.2⟩⟩)⟩, ⟨by (try simp only [hl751002_67]); (try simp only [hl751003_67]); (try simp only [hl751004_67]); (with_reducible repeat (first | apply Kd.R_alloc | apply Kd.R_drewN | apply Kd.R_drew)); exact Kd.R_mono HO_739003.out (fun _ hk => ⟨hk.1.1.1.1.1, ⟨hk.1.1.1.1.2.1, ⟨hk.1.1.1.1.2.2.1, ⟨hk.1.1.1.1.2.2.2.1, ⟨hk.1.1.1.1.2.2.2.2, ⟨hk.1.2, hk.2⟩⟩⟩⟩⟩⟩)⟩, ⟨by (try simp only [hl751002_67]); (try simp only [hl751003_67]); (try simp only [hl751004_67]); (with_reducible repeat (first | apply Kd.R_alloc | apply Kd.R_drewN | apply Kd.R_drew)); exact Kd.R_mono HO_739004.out (fun _ hk => ⟨hk.1.1.1.1.1, ⟨hk.1.1.1.1.2.1, ⟨hk.1.1.1.1.2.2.1, ⟨hk.1.1.1.1.2.2.2.1, ⟨hk.1.1.1.1.2.2.2.2, ⟨hk.1.2, hk.2⟩⟩⟩⟩⟩⟩)⟩, ⟨by (try simp only [hl751002_67]); (try simp only [hl751003_67]); (try simp only [hl751004_67]); (with_reducible repeat (first | apply Kd.R_alloc | apply Kd.R_drewN | apply Kd.R_drew)); exact Kd.R_mono HO_751002.out (fun _ hk => ⟨hk.1.1.1, ⟨hk.1.1.2, hk.2⟩⟩)⟩, ⟨by (try simp only [hl751002_67]); (try simp only [hl751003_67]); (try simp only [hl751004_67]); (with_reducible repeat (first | apply Kd.R_alloc | apply Kd.R_drewN | apply Kd.R_drew)); exact Kd.R_mono HO_751003.out (fun _ hk => ⟨hk.1.1.1.1.1, ⟨hk.1.1.1.1.2.1, ⟨hk.1.1.1.1.2.2.1, ⟨hk.1.1.1.1.2.2.2.1, ⟨hk.1.1.1.1.2.2.2.2, ⟨hk.1.2, hk.2⟩⟩⟩⟩⟩⟩)⟩, ⟨by (try simp only [hl751002_67]); (try simp only [hl751003_67]); (try simp only [hl751004_67]); (with_reducible repeat (first | apply Kd.R_alloc | apply Kd.R_drewN | apply Kd.R_drew)); exact Kd.R_mono HO_751004.out (fun _ hk => ⟨hk.1.1.1.1.1, ⟨hk.1.1.1.1.2.1, ⟨hk.1.1.1.1.2.2.1, ⟨hk.1.1.1.1.2.2.2.1, ⟨hk.1.1.1.1.2.2.2.2, ⟨hk.1.2, hk.2⟩⟩⟩⟩⟩⟩)⟩, ⟨by (try simp only [hl751002_67]); (try simp only [hl751003_67]); (try simp only [hl751004_67]); (with_reducible repeat (first | apply Kd.R_alloc | apply Kd.R_drewN | apply Kd.R_drew)); exact Kd.R_mono HO_764002.out (fun _ hk => ⟨hk.1.1.1, ⟨hk.1.1.2, hk.2⟩⟩)⟩, ⟨by (try simp only [hl751002_67]); (try simp only [hl751003_67]); (try simp only [hl751004_67]); (with_reducible repeat (first | apply Kd.R_alloc | apply Kd.R_drewN | apply Kd.R_drew)); exact Kd.R_mono HO_764003.out (fun _ hk => ⟨hk.1.1.1.1.1, ⟨hk.1.1.1.1.2.1, ⟨hk.1.1.1.1.2.2.1, ⟨hk.1.1.1.1.2.2.2.1, ⟨hk.1.1.1.1.2.2.2.2, ⟨hk.1.2, hk.2⟩⟩⟩⟩⟩⟩)⟩, ⟨by (try simp only [hl751002_67]); (try simp only [hl751003_67]); (try simp only [hl751004_67]); (with_reducible repeat (first | apply Kd.R_alloc | apply Kd.R_drewN | apply Kd.R_drew)); exact Kd.R_mono HO_764004.out (fun _ hk => ⟨hk.1.1.1.1.1, ⟨hk.1.1.1.1.2.1, ⟨hk.1.1.1.1.2.2.1, ⟨hk.1.1.1.1.2.2.2.1, ⟨hk.1.1.1.1.2.2.2.2, ⟨hk.1.2, hk.2⟩⟩⟩⟩⟩⟩)⟩, ⟨by (try simp only [hl751002_67]); (try simp only [hl751003_67]); (try simp only [hl751004_67]); (with_reducible repeat (first | apply Kd.R_alloc | apply Kd.R_drewN | apply Kd.R_drew)); exact Kd.R_mono HO802.out (fun _ hk => ⟨hk.1.1.1.2, ⟨hk.1.1.2, hk.1.2⟩⟩)⟩, ⟨by (try simp only [hl751002_67]); (try simp only [hl751003_67]); (try simp only [hl751004_67]); (with_reducible repeat (first | apply Kd.R_alloc | apply Kd.R_drewN | apply Kd.R_drew)); exact Kd.R_mono HO805.out (fun _ hk => ⟨hk.1.1.1.1.1.1.1.2, ⟨hk.1.1.1.1.1.1.2, ⟨hk.1.1.1.1.1.2, ⟨hk.1.1.1.1.2, ⟨hk.1.1.1.2, ⟨hk.1.1.2, hk.1.1.1.1.1.1.1.1⟩⟩⟩⟩⟩⟩)⟩, ⟨by (try simp only [hl751002_67]); (try simp only [hl751003_67]); (try simp only [hl751004_67]); (with_reducible repeat (first | apply Kd.R_alloc | apply Kd.R_drewN | apply Kd.R_drew)); exact Kd.R_mono HO808.out (fun _ hk => ⟨hk.1.1.1.1.1.1.1.2, ⟨hk.1.1.1.1.1.1.2, ⟨hk.1.1.1.1.1.2, ⟨hk.1.1.1.1.2, ⟨hk.1.1.1.2, ⟨hk.1.1.2, hk.1.1.1.1.1.1.1.1⟩⟩⟩⟩⟩⟩)⟩, ⟨by (try simp only [hl751002_67]); (try simp only [hl751003_67]); (try simp only [hl751004_67]); (with_reducible repeat (first | refine blk_drewN ?_ _ | refine blk_drew ?_ | refine blk_alloc ?_ _)); exact BK713.out⟩, ⟨by (try simp only [hl751002_67]); (try simp only [hl751003_67]); (try simp only [hl751004_67]); (with_reducible repeat (first | refine blk_drewN ?_ _ | refine blk_drew ?_ | refine blk_alloc ?_ _)); exact BK738.out⟩, ⟨by (try simp only [hl751002_67]); (try simp only [hl751003_67]); (try simp only [hl751004_67]); (with_reducible repeat (first | refine blk_drewN ?_ _ | refine blk_drew ?_ | refine blk_alloc ?_ _)); exact BK750.out⟩, ⟨by (try simp only [hl751002_67]); (try simp only [hl751003_67]); (try simp only [hl751004_67]); (with_reducible repeat (first | refine blk_drewN ?_ _ | refine blk_drew ?_ | refine blk_alloc ?_ _)); exact BK763.out⟩, ⟨by (try simp only [hl751002_67]); (try simp only [hl751003_67]); (try simp only [hl751004_67]); (with_reducible repeat (first | refine blk_drewN ?_ _ | refine blk_drew ?_ | refine blk_alloc ?_ _)); exact BK810.out⟩, ⟨bq⟩⟩
            ·replace c139 := Bool.eq_false_iff.mpr c139
             subst c139
             rw [if_neg (show ¬ (false = true) by decide)] at H
             try dsimp only at H
             have H' := Aside0.mk H
             clear H
             have hnb150 := NB810_713.out
             have hnc150 := NB713_810.out
             have hnb151 := NB810_738.out
             have hnc151 := NB738_810.out
             have hnb152 := NB810_750.out
             have hnc152 := NB750_810.out
             have hnb153 := NB810_763.out
             have hnc153 := NB763_810.out
             have ⟨hcz154_0, hcz154_1, hcz154_2, hcz154_3, hcz154_4, hfz154_0, hfz154_1, hfz154_2, hfz154_3, hfz154_4⟩ := bc5 BK810
             have hnb155 := NB738_713.out
             have hnc155 := NB713_738.out
             have hnb156 := NB738_750.out
             have hnc156 := NB750_738.out
             have hnb157 := NB738_763.out
             have hnc157 := NB763_738.out
             have ⟨hcz158_0, hcz158_1, hcz158_2, hcz158_3, hcz158_4, hfz158_0, hfz158_1, hfz158_2, hfz158_3, hfz158_4⟩ := bc5 BK738
             go_wp2_with (first | ((with_reducible refine gate_callee (f := 18) rfl ?_); refine goesQ (some 81) Try.func18 #[.agg #[.int .i64 t798, .int .i64 t799, .slice Ao135 t800.length co135, .slice Ao136 t803.length co136, .slice Ao137 t806.length co137], .agg #[.int .i64 t726, .int .i64 t727, .slice Ao24 t728.length co24, .slice Ao25 t731.length co25, .slice Ao26 t734.length co26]] ?_; (with_reducible refine (laws_eqSession.calls kj67 t798 t799 _ _ t800 _ _ t803 _ _ t806 t726 t727 _ _ t728 _ _ t731 _ _ t734 false _ ?s1 ?s2 ?s3 ?s4 ?s5 ?s6 ?s7 ?s8 ?s9 ?s10 ?s11 ?s12 A138.out).mono ?_); (case s1 => refine (Kd.R_reads' (e := 58) (base := w.heap.size) (ok := fun k_ => ((((True ∧ some k_ ≠ (.slice Ao24 t728.length co24 : Value).ownBlock) ∧ some k_ ≠ (.slice Ao33 t778.length co33 : Value).ownBlock) ∧ some k_ ≠ (.slice Ao42 t753.length co42 : Value).ownBlock) ∧ some k_ ≠ (.slice Ao125 t789.length co125 : Value).ownBlock)) (n := t800.length) (c := co135) ?_).2.2; exact (by (with_reducible repeat (first | apply Kd.R_alloc | apply Kd.R_drewN | apply Kd.R_drew)); exact (Kd.R_mono (Kd.R_far (p := ⟨gb810, 4, none⟩) (Kd.R_far (p := ⟨gb810, 3, none⟩) (Kd.R_far (p := ⟨gb810, 2, none⟩) (Kd.R_far (p := ⟨gb810, 1, none⟩) (Kd.R_far (p := ⟨gb810, 0, none⟩) (Kd.R_types HO802.out BK810.out (by decide)) (fun _ hk => hk.2) (.int .i64 t798)) (fun _ hk => hk.2) (.int .i64 t799)) (fun _ hk => hk.2) (.slice Ao135 t800.length co135)) (fun _ hk => hk.2) (.slice Ao136 t803.length co136)) (fun _ hk => hk.2) (.slice Ao137 t806.length co137)) (fun _ h_ => h_.1)))); (case s2 => exact r1 HO802); (case s3 => refine (Kd.R_reads' (e := 60) (base := w.heap.size) (ok := fun k_ => ((((((((some k_ ≠ (.slice Ao137 t806.length co137 : Value).ownBlock ∧ some k_ ≠ (.slice Ao25 t731.length co25 : Value).ownBlock) ∧ some k_ ≠ (.slice Ao26 t734.length co26 : Value).ownBlock) ∧ some k_ ≠ (.slice Ao34 t779.length co34 : Value).ownBlock) ∧ some k_ ≠ (.slice Ao35 t780.length co35 : Value).ownBlock) ∧ some k_ ≠ (.slice Ao43 t756.length co43 : Value).ownBlock) ∧ some k_ ≠ (.slice Ao44 t759.length co44 : Value).ownBlock) ∧ some k_ ≠ (.slice Ao126 t792.length co126 : Value).ownBlock) ∧ some k_ ≠ (.slice Ao127 t795.length co127 : Value).ownBlock)) (n := t803.length) (c := co136) ?_).2.2; exact (by (with_reducible repeat (first | apply Kd.R_alloc | apply Kd.R_drewN | apply Kd.R_drew)); exact (Kd.R_mono (Kd.R_far (p := ⟨gb810, 4, none⟩) (Kd.R_far (p := ⟨gb810, 3, none⟩) (Kd.R_far (p := ⟨gb810, 2, none⟩) (Kd.R_far (p := ⟨gb810, 1, none⟩) (Kd.R_far (p := ⟨gb810, 0, none⟩) (Kd.R_types HO805.out BK810.out (by decide)) (fun _ hk => hk.2) (.int .i64 t798)) (fun _ hk => hk.2) (.int .i64 t799)) (fun _ hk => hk.2) (.slice Ao135 t800.length co135)) (fun _ hk => hk.2) (.slice Ao136 t803.length co136)) (fun _ hk => hk.2) (.slice Ao137 t806.length co137)) (fun _ h_ => h_.1)))); (case s4 => exact r1 HO805); (case s5 => refine (Kd.R_reads' (e := 60) (base := w.heap.size) (ok := fun k_ => ((((((((some k_ ≠ (.slice Ao136 t803.length co136 : Value).ownBlock ∧ some k_ ≠ (.slice Ao25 t731.length co25 : Value).ownBlock) ∧ some k_ ≠ (.slice Ao26 t734.length co26 : Value).ownBlock) ∧ some k_ ≠ (.slice Ao34 t779.length co34 : Value).ownBlock) ∧ some k_ ≠ (.slice Ao35 t780.length co35 : Value).ownBlock) ∧ some k_ ≠ (.slice Ao43 t756.length co43 : Value).ownBlock) ∧ some k_ ≠ (.slice Ao44 t759.length co44 : Value).ownBlock) ∧ some k_ ≠ (.slice Ao126 t792.length co126 : Value).ownBlock) ∧ some k_ ≠ (.slice Ao127 t795.length co127 : Value).ownBlock)) (n := t806.length) (c := co137) ?_).2.2; exact (by (with_reducible repeat (first | apply Kd.R_alloc | apply Kd.R_drewN | apply Kd.R_drew)); exact (Kd.R_mono (Kd.R_far (p := ⟨gb810, 4, none⟩) (Kd.R_far (p := ⟨gb810, 3, none⟩) (Kd.R_far (p := ⟨gb810, 2, none⟩) (Kd.R_far (p := ⟨gb810, 1, none⟩) (Kd.R_far (p := ⟨gb810, 0, none⟩) (Kd.R_types HO808.out BK810.out (by decide)) (fun _ hk => hk.2) (.int .i64 t798)) (fun _ hk => hk.2) (.int .i64 t799)) (fun _ hk => hk.2) (.slice Ao135 t800.length co135)) (fun _ hk => hk.2) (.slice Ao136 t803.length co136)) (fun _ hk => hk.2) (.slice Ao137 t806.length co137)) (fun _ h_ => h_.1)))); (case s6 => exact r1 HO808); (case s7 => refine (Kd.R_reads' (e := 58) (base := w.heap.size) (ok := fun k_ => (((some k_ ≠ (.slice Ao33 t778.length co33 : Value).ownBlock ∧ some k_ ≠ (.slice Ao42 t753.length co42 : Value).ownBlock) ∧ some k_ ≠ (.slice Ao125 t789.length co125 : Value).ownBlock) ∧ some k_ ≠ (.slice Ao135 t800.length co135 : Value).ownBlock)) (n := t728.length) (c := co24) ?_).2.2; exact (by (with_reducible repeat (first | apply Kd.R_alloc | apply Kd.R_drewN | apply Kd.R_drew)); exact (Kd.R_mono (Kd.R_far (p := ⟨gb810, 4, none⟩) (Kd.R_far (p := ⟨gb810, 3, none⟩) (Kd.R_far (p := ⟨gb810, 2, none⟩) (Kd.R_far (p := ⟨gb810, 1, none⟩) (Kd.R_far (p := ⟨gb810, 0, none⟩) (Kd.R_types HO_739002.out BK810.out (by decide)) (fun _ hk => hk.2) (.int .i64 t798)) (fun _ hk => hk.2) (.int .i64 t799)) (fun _ hk => hk.2) (.slice Ao135 t800.length co135)) (fun _ hk => hk.2) (.slice Ao136 t803.length co136)) (fun _ hk => hk.2) (.slice Ao137 t806.length co137)) (fun _ h_ => h_.1)))); (case s8 => exact r1 HO_739002); (case s9 => refine (Kd.R_reads' (e := 60) (base := w.heap.size) (ok := fun k_ => (((((some k_ ≠ (.slice Ao26 t734.length co26 : Value).ownBlock ∧ (some k_ ≠ (.slice Ao34 t779.length co34 : Value).ownBlock ∧ (some k_ ≠ (.slice Ao35 t780.length co35 : Value).ownBlock ∧ (some k_ ≠ (.slice Ao43 t756.length co43 : Value).ownBlock ∧ some k_ ≠ (.slice Ao44 t759.length co44 : Value).ownBlock)))) ∧ some k_ ≠ (.slice Ao126 t792.length co126 : Value).ownBlock) ∧ some k_ ≠ (.slice Ao127 t795.length co127 : Value).ownBlock) ∧ some k_ ≠ (.slice Ao136 t803.length co136 : Value).ownBlock) ∧ some k_ ≠ (.slice Ao137 t806.length co137 : Value).ownBlock)) (n := t731.length) (c := co25) ?_).2.2; exact (by (with_reducible repeat (first | apply Kd.R_alloc | apply Kd.R_drewN | apply Kd.R_drew)); exact (Kd.R_mono (Kd.R_far (p := ⟨gb810, 4, none⟩) (Kd.R_far (p := ⟨gb810, 3, none⟩) (Kd.R_far (p := ⟨gb810, 2, none⟩) (Kd.R_far (p := ⟨gb810, 1, none⟩) (Kd.R_far (p := ⟨gb810, 0, none⟩) (Kd.R_types HO_739003.out BK810.out (by decide)) (fun _ hk => hk.2) (.int .i64 t798)) (fun _ hk => hk.2) (.int .i64 t799)) (fun _ hk => hk.2) (.slice Ao135 t800.length co135)) (fun _ hk => hk.2) (.slice Ao136 t803.length co136)) (fun _ hk => hk.2) (.slice Ao137 t806.length co137)) (fun _ h_ => h_.1)))); (case s10 => exact r1 HO_739003); (case s11 => refine (Kd.R_reads' (e := 60) (base := w.heap.size) (ok := fun k_ => (((((some k_ ≠ (.slice Ao25 t731.length co25 : Value).ownBlock ∧ (some k_ ≠ (.slice Ao34 t779.length co34 : Value).ownBlock ∧ (some k_ ≠ (.slice Ao35 t780.length co35 : Value).ownBlock ∧ (some k_ ≠ (.slice Ao43 t756.length co43 : Value).ownBlock ∧ some k_ ≠ (.slice Ao44 t759.length co44 : Value).ownBlock)))) ∧ some k_ ≠ (.slice Ao126 t792.length co126 : Value).ownBlock) ∧ some k_ ≠ (.slice Ao127 t795.length co127 : Value).ownBlock) ∧ some k_ ≠ (.slice Ao136 t803.length co136 : Value).ownBlock) ∧ some k_ ≠ (.slice Ao137 t806.length co137 : Value).ownBlock)) (n := t734.length) (c := co26) ?_).2.2; exact (by (with_reducible repeat (first | apply Kd.R_alloc | apply Kd.R_drewN | apply Kd.R_drew)); exact (Kd.R_mono (Kd.R_far (p := ⟨gb810, 4, none⟩) (Kd.R_far (p := ⟨gb810, 3, none⟩) (Kd.R_far (p := ⟨gb810, 2, none⟩) (Kd.R_far (p := ⟨gb810, 1, none⟩) (Kd.R_far (p := ⟨gb810, 0, none⟩) (Kd.R_types HO_739004.out BK810.out (by decide)) (fun _ hk => hk.2) (.int .i64 t798)) (fun _ hk => hk.2) (.int .i64 t799)) (fun _ hk => hk.2) (.slice Ao135 t800.length co135)) (fun _ hk => hk.2) (.slice Ao136 t803.length co136)) (fun _ hk => hk.2) (.slice Ao137 t806.length co137)) (fun _ h_ => h_.1)))); (case s12 => exact r1 HO_739004); rintro e w159 ⟨rfl, hb⟩; refine ⟨_, rfl, ?_⟩; replace HO_739002 := Aside0.mk (Kd.R_below (by (with_reducible repeat (first | apply Kd.R_alloc | apply Kd.R_drewN | apply Kd.R_drew)); exact (Kd.R_mono (Kd.R_far (p := ⟨gb810, 4, none⟩) (Kd.R_far (p := ⟨gb810, 3, none⟩) (Kd.R_far (p := ⟨gb810, 2, none⟩) (Kd.R_far (p := ⟨gb810, 1, none⟩) (Kd.R_far (p := ⟨gb810, 0, none⟩) (Kd.R_types HO_739002.out BK810.out (by decide)) (fun _ hk => hk.2) (.int .i64 t798)) (fun _ hk => hk.2) (.int .i64 t799)) (fun _ hk => hk.2) (.slice Ao135 t800.length co135)) (fun _ hk => hk.2) (.slice Ao136 t803.length co136)) (fun _ hk => hk.2) (.slice Ao137 t806.length co137)) (fun _ h_ => h_.1))) hb); replace HO_739003 := Aside0.mk (Kd.R_below (by (with_reducible repeat (first | apply Kd.R_alloc | apply Kd.R_drewN | apply Kd.R_drew)); exact (Kd.R_mono (Kd.R_far (p := ⟨gb810, 4, none⟩) (Kd.R_far (p := ⟨gb810, 3, none⟩) (Kd.R_far (p := ⟨gb810, 2, none⟩) (Kd.R_far (p := ⟨gb810, 1, none⟩) (Kd.R_far (p := ⟨gb810, 0, none⟩) (Kd.R_types HO_739003.out BK810.out (by decide)) (fun _ hk => hk.2) (.int .i64 t798)) (fun _ hk => hk.2) (.int .i64 t799)) (fun _ hk => hk.2) (.slice Ao135 t800.length co135)) (fun _ hk => hk.2) (.slice Ao136 t803.length co136)) (fun _ hk => hk.2) (.slice Ao137 t806.length co137)) (fun _ h_ => h_.1))) hb); replace HO_739004 := Aside0.mk (Kd.R_below (by (with_reducible repeat (first | apply Kd.R_alloc | apply Kd.R_drewN | apply Kd.R_drew)); exact (Kd.R_mono (Kd.R_far (p := ⟨gb810, 4, none⟩) (Kd.R_far (p := ⟨gb810, 3, none⟩) (Kd.R_far (p := ⟨gb810, 2, none⟩) (Kd.R_far (p := ⟨gb810, 1, none⟩) (Kd.R_far (p := ⟨gb810, 0, none⟩) (Kd.R_types HO_739004.out BK810.out (by decide)) (fun _ hk => hk.2) (.int .i64 t798)) (fun _ hk => hk.2) (.int .i64 t799)) (fun _ hk => hk.2) (.slice Ao135 t800.length co135)) (fun _ hk => hk.2) (.slice Ao136 t803.length co136)) (fun _ hk => hk.2) (.slice Ao137 t806.length co137)) (fun _ h_ => h_.1))) hb); replace HO_751002 := Aside0.mk (Kd.R_below (by (with_reducible repeat (first | apply Kd.R_alloc | apply Kd.R_drewN | apply Kd.R_drew)); exact (Kd.R_mono (Kd.R_far (p := ⟨gb810, 4, none⟩) (Kd.R_far (p := ⟨gb810, 3, none⟩) (Kd.R_far (p := ⟨gb810, 2, none⟩) (Kd.R_far (p := ⟨gb810, 1, none⟩) (Kd.R_far (p := ⟨gb810, 0, none⟩) (Kd.R_types HO_751002.out BK810.out (by decide)) (fun _ hk => hk.2) (.int .i64 t798)) (fun _ hk => hk.2) (.int .i64 t799)) (fun _ hk => hk.2) (.slice Ao135 t800.length co135)) (fun _ hk => hk.2) (.slice Ao136 t803.length co136)) (fun _ hk => hk.2) (.slice Ao137 t806.length co137)) (fun _ h_ => h_.1))) hb); replace HO_751003 := Aside0.mk (Kd.R_below (by (with_reducible repeat (first | apply Kd.R_alloc | apply Kd.R_drewN | apply Kd.R_drew)); exact (Kd.R_mono (Kd.R_far (p := ⟨gb810, 4, none⟩) (Kd.R_far (p := ⟨gb810, 3, none⟩) (Kd.R_far (p := ⟨gb810, 2, none⟩) (Kd.R_far (p := ⟨gb810, 1, none⟩) (Kd.R_far (p := ⟨gb810, 0, none⟩) (Kd.R_types HO_751003.out BK810.out (by decide)) (fun _ hk => hk.2) (.int .i64 t798)) (fun _ hk => hk.2) (.int .i64 t799)) (fun _ hk => hk.2) (.slice Ao135 t800.length co135)) (fun _ hk => hk.2) (.slice Ao136 t803.length co136)) (fun _ hk => hk.2) (.slice Ao137 t806.length co137)) (fun _ h_ => h_.1))) hb); replace HO_751004 := Aside0.mk (Kd.R_below (by (with_reducible repeat (first | apply Kd.R_alloc | apply Kd.R_drewN | apply Kd.R_drew)); exact (Kd.R_mono (Kd.R_far (p := ⟨gb810, 4, none⟩) (Kd.R_far (p := ⟨gb810, 3, none⟩) (Kd.R_far (p := ⟨gb810, 2, none⟩) (Kd.R_far (p := ⟨gb810, 1, none⟩) (Kd.R_far (p := ⟨gb810, 0, none⟩) (Kd.R_types HO_751004.out BK810.out (by decide)) (fun _ hk => hk.2) (.int .i64 t798)) (fun _ hk => hk.2) (.int .i64 t799)) (fun _ hk => hk.2) (.slice Ao135 t800.length co135)) (fun _ hk => hk.2) (.slice Ao136 t803.length co136)) (fun _ hk => hk.2) (.slice Ao137 t806.length co137)) (fun _ h_ => h_.1))) hb); replace HO_764002 := Aside0.mk (Kd.R_below (by (with_reducible repeat (first | apply Kd.R_alloc | apply Kd.R_drewN | apply Kd.R_drew)); exact (Kd.R_mono (Kd.R_far (p := ⟨gb810, 4, none⟩) (Kd.R_far (p := ⟨gb810, 3, none⟩) (Kd.R_far (p := ⟨gb810, 2, none⟩) (Kd.R_far (p := ⟨gb810, 1, none⟩) (Kd.R_far (p := ⟨gb810, 0, none⟩) (Kd.R_types HO_764002.out BK810.out (by decide)) (fun _ hk => hk.2) (.int .i64 t798)) (fun _ hk => hk.2) (.int .i64 t799)) (fun _ hk => hk.2) (.slice Ao135 t800.length co135)) (fun _ hk => hk.2) (.slice Ao136 t803.length co136)) (fun _ hk => hk.2) (.slice Ao137 t806.length co137)) (fun _ h_ => h_.1))) hb); replace HO_764003 := Aside0.mk (Kd.R_below (by (with_reducible repeat (first | apply Kd.R_alloc | apply Kd.R_drewN | apply Kd.R_drew)); exact (Kd.R_mono (Kd.R_far (p := ⟨gb810, 4, none⟩) (Kd.R_far (p := ⟨gb810, 3, none⟩) (Kd.R_far (p := ⟨gb810, 2, none⟩) (Kd.R_far (p := ⟨gb810, 1, none⟩) (Kd.R_far (p := ⟨gb810, 0, none⟩) (Kd.R_types HO_764003.out BK810.out (by decide)) (fun _ hk => hk.2) (.int .i64 t798)) (fun _ hk => hk.2) (.int .i64 t799)) (fun _ hk => hk.2) (.slice Ao135 t800.length co135)) (fun _ hk => hk.2) (.slice Ao136 t803.length co136)) (fun _ hk => hk.2) (.slice Ao137 t806.length co137)) (fun _ h_ => h_.1))) hb); replace HO_764004 := Aside0.mk (Kd.R_below (by (with_reducible repeat (first | apply Kd.R_alloc | apply Kd.R_drewN | apply Kd.R_drew)); exact (Kd.R_mono (Kd.R_far (p := ⟨gb810, 4, none⟩) (Kd.R_far (p := ⟨gb810, 3, none⟩) (Kd.R_far (p := ⟨gb810, 2, none⟩) (Kd.R_far (p := ⟨gb810, 1, none⟩) (Kd.R_far (p := ⟨gb810, 0, none⟩) (Kd.R_types HO_764004.out BK810.out (by decide)) (fun _ hk => hk.2) (.int .i64 t798)) (fun _ hk => hk.2) (.int .i64 t799)) (fun _ hk => hk.2) (.slice Ao135 t800.length co135)) (fun _ hk => hk.2) (.slice Ao136 t803.length co136)) (fun _ hk => hk.2) (.slice Ao137 t806.length co137)) (fun _ h_ => h_.1))) hb); replace HO802 := Aside0.mk (Kd.R_below (by (with_reducible repeat (first | apply Kd.R_alloc | apply Kd.R_drewN | apply Kd.R_drew)); exact (Kd.R_mono (Kd.R_far (p := ⟨gb810, 4, none⟩) (Kd.R_far (p := ⟨gb810, 3, none⟩) (Kd.R_far (p := ⟨gb810, 2, none⟩) (Kd.R_far (p := ⟨gb810, 1, none⟩) (Kd.R_far (p := ⟨gb810, 0, none⟩) (Kd.R_types HO802.out BK810.out (by decide)) (fun _ hk => hk.2) (.int .i64 t798)) (fun _ hk => hk.2) (.int .i64 t799)) (fun _ hk => hk.2) (.slice Ao135 t800.length co135)) (fun _ hk => hk.2) (.slice Ao136 t803.length co136)) (fun _ hk => hk.2) (.slice Ao137 t806.length co137)) (fun _ h_ => h_.1))) hb); replace HO805 := Aside0.mk (Kd.R_below (by (with_reducible repeat (first | apply Kd.R_alloc | apply Kd.R_drewN | apply Kd.R_drew)); exact (Kd.R_mono (Kd.R_far (p := ⟨gb810, 4, none⟩) (Kd.R_far (p := ⟨gb810, 3, none⟩) (Kd.R_far (p := ⟨gb810, 2, none⟩) (Kd.R_far (p := ⟨gb810, 1, none⟩) (Kd.R_far (p := ⟨gb810, 0, none⟩) (Kd.R_types HO805.out BK810.out (by decide)) (fun _ hk => hk.2) (.int .i64 t798)) (fun _ hk => hk.2) (.int .i64 t799)) (fun _ hk => hk.2) (.slice Ao135 t800.length co135)) (fun _ hk => hk.2) (.slice Ao136 t803.length co136)) (fun _ hk => hk.2) (.slice Ao137 t806.length co137)) (fun _ h_ => h_.1))) hb); replace HO808 := Aside0.mk (Kd.R_below (by (with_reducible repeat (first | apply Kd.R_alloc | apply Kd.R_drewN | apply Kd.R_drew)); exact (Kd.R_mono (Kd.R_far (p := ⟨gb810, 4, none⟩) (Kd.R_far (p := ⟨gb810, 3, none⟩) (Kd.R_far (p := ⟨gb810, 2, none⟩) (Kd.R_far (p := ⟨gb810, 1, none⟩) (Kd.R_far (p := ⟨gb810, 0, none⟩) (Kd.R_types HO808.out BK810.out (by decide)) (fun _ hk => hk.2) (.int .i64 t798)) (fun _ hk => hk.2) (.int .i64 t799)) (fun _ hk => hk.2) (.slice Ao135 t800.length co135)) (fun _ hk => hk.2) (.slice Ao136 t803.length co136)) (fun _ hk => hk.2) (.slice Ao137 t806.length co137)) (fun _ h_ => h_.1))) hb); replace BK713 := Aside0.mk (blk_below (g := gb713) (o := .cells #[.int .i64 a0_0, .int .i64 a0_1, .slice A0_2 l0_2.length c0_2, .slice A0_3 l0_3.length c0_3, .slice A0_4 l0_4.length c0_4] 27 (0, 0)) (by (with_reducible repeat (first | refine blk_drewN ?_ _ | refine blk_drew ?_ | refine blk_alloc ?_ _)); refine blk_far ?_ NB713_810.out _; (with_reducible repeat (first | refine blk_drewN ?_ _ | refine blk_drew ?_ | refine blk_alloc ?_ _)); refine blk_far ?_ NB713_810.out _; (with_reducible repeat (first | refine blk_drewN ?_ _ | refine blk_drew ?_ | refine blk_alloc ?_ _)); refine blk_far ?_ NB713_810.out _; (with_reducible repeat (first | refine blk_drewN ?_ _ | refine blk_drew ?_ | refine blk_alloc ?_ _)); refine blk_far ?_ NB713_810.out _; (with_reducible repeat (first | refine blk_drewN ?_ _ | refine blk_drew ?_ | refine blk_alloc ?_ _)); refine blk_far ?_ NB713_810.out _; (with_reducible repeat (first | refine blk_drewN ?_ _ | refine blk_drew ?_ | refine blk_alloc ?_ _)); exact BK713.out) hb); replace BK738 := Aside0.mk (blk_below (g := gb738) (o := .cells #[.int .i64 t726, .int .i64 t727, .slice Ao24 t728.length co24, .slice Ao25 t731.length co25, .slice Ao26 t734.length co26] 35 (0, 0)) (by (with_reducible repeat (first | refine blk_drewN ?_ _ | refine blk_drew ?_ | refine blk_alloc ?_ _)); refine blk_far ?_ NB738_810.out _; (with_reducible repeat (first | refine blk_drewN ?_ _ | refine blk_drew ?_ | refine blk_alloc ?_ _)); refine blk_far ?_ NB738_810.out _; (with_reducible repeat (first | refine blk_drewN ?_ _ | refine blk_drew ?_ | refine blk_alloc ?_ _)); refine blk_far ?_ NB738_810.out _; (with_reducible repeat (first | refine blk_drewN ?_ _ | refine blk_drew ?_ | refine blk_alloc ?_ _)); refine blk_far ?_ NB738_810.out _; (with_reducible repeat (first | refine blk_drewN ?_ _ | refine blk_drew ?_ | refine blk_alloc ?_ _)); refine blk_far ?_ NB738_810.out _; (with_reducible repeat (first | refine blk_drewN ?_ _ | refine blk_drew ?_ | refine blk_alloc ?_ _)); exact BK738.out) hb); replace BK750 := Aside0.mk (blk_below (g := gb750) (o := .cells #[.int .i64 t739, .int .i64 t740, .slice Ao33 t778.length co33, .slice Ao34 t779.length co34, .slice Ao35 t780.length co35] 35 (0, 0)) (by (with_reducible repeat (first | refine blk_drewN ?_ _ | refine blk_drew ?_ | refine blk_alloc ?_ _)); refine blk_far ?_ NB750_810.out _; (with_reducible repeat (first | refine blk_drewN ?_ _ | refine blk_drew ?_ | refine blk_alloc ?_ _)); refine blk_far ?_ NB750_810.out _; (with_reducible repeat (first | refine blk_drewN ?_ _ | refine blk_drew ?_ | refine blk_alloc ?_ _)); refine blk_far ?_ NB750_810.out _; (with_reducible repeat (first | refine blk_drewN ?_ _ | refine blk_drew ?_ | refine blk_alloc ?_ _)); refine blk_far ?_ NB750_810.out _; (with_reducible repeat (first | refine blk_drewN ?_ _ | refine blk_drew ?_ | refine blk_alloc ?_ _)); refine blk_far ?_ NB750_810.out _; (with_reducible repeat (first | refine blk_drewN ?_ _ | refine blk_drew ?_ | refine blk_alloc ?_ _)); exact BK750.out) hb); replace BK763 := Aside0.mk (blk_below (g := gb763) (o := .cells #[.int .i64 t751, .int .i64 t752, .slice Ao42 t753.length co42, .slice Ao43 t756.length co43, .slice Ao44 t759.length co44] 35 (0, 0)) (by (with_reducible repeat (first | refine blk_drewN ?_ _ | refine blk_drew ?_ | refine blk_alloc ?_ _)); refine blk_far ?_ NB763_810.out _; (with_reducible repeat (first | refine blk_drewN ?_ _ | refine blk_drew ?_ | refine blk_alloc ?_ _)); refine blk_far ?_ NB763_810.out _; (with_reducible repeat (first | refine blk_drewN ?_ _ | refine blk_drew ?_ | refine blk_alloc ?_ _)); refine blk_far ?_ NB763_810.out _; (with_reducible repeat (first | refine blk_drewN ?_ _ | refine blk_drew ?_ | refine blk_alloc ?_ _)); refine blk_far ?_ NB763_810.out _; (with_reducible repeat (first | refine blk_drewN ?_ _ | refine blk_drew ?_ | refine blk_alloc ?_ _)); refine blk_far ?_ NB763_810.out _; (with_reducible repeat (first | refine blk_drewN ?_ _ | refine blk_drew ?_ | refine blk_alloc ?_ _)); exact BK763.out) hb); replace BK810 := Aside0.mk (blk_below (g := gb810) (o := .cells #[.int .i64 t798, .int .i64 t799, .slice Ao135 t800.length co135, .slice Ao136 t803.length co136, .slice Ao137 t806.length co137] 35 (0, 0)) (by (with_reducible repeat (first | refine blk_drewN ?_ _ | refine blk_drew ?_ | refine blk_alloc ?_ _)); refine blk_put (cs := #[.int .i64 t798, .int .i64 t799, .slice Ao135 t800.length co135, .slice Ao136 t803.length co136, .slice none 0 0]) ?_ 4 _ rfl; (with_reducible repeat (first | refine blk_drewN ?_ _ | refine blk_drew ?_ | refine blk_alloc ?_ _)); refine blk_put (cs := #[.int .i64 t798, .int .i64 t799, .slice Ao135 t800.length co135, .slice none 0 0, .slice none 0 0]) ?_ 3 _ rfl; (with_reducible repeat (first | refine blk_drewN ?_ _ | refine blk_drew ?_ | refine blk_alloc ?_ _)); refine blk_put (cs := #[.int .i64 t798, .int .i64 t799, .slice none 0 0, .slice none 0 0, .slice none 0 0]) ?_ 2 _ rfl; (with_reducible repeat (first | refine blk_drewN ?_ _ | refine blk_drew ?_ | refine blk_alloc ?_ _)); refine blk_put (cs := #[.int .i64 t798, .int .i64 0, .slice none 0 0, .slice none 0 0, .slice none 0 0]) ?_ 1 _ rfl; (with_reducible repeat (first | refine blk_drewN ?_ _ | refine blk_drew ?_ | refine blk_alloc ?_ _)); refine blk_put (cs := #[.int .i64 0, .int .i64 0, .slice none 0 0, .slice none 0 0, .slice none 0 0]) ?_ 0 _ rfl; (with_reducible repeat (first | refine blk_drewN ?_ _ | refine blk_drew ?_ | refine blk_alloc ?_ _)); exact BK810.out) hb); replace HB := sb hb; (try clear hb hb2 hk hi)))
             go_meet
             case rel => exact ⟨_, (true), sq, H', ⟨by have := HJ10.out; have := HJ67.out; first | omega | exact Nat.le_refl _⟩, ⟨by (try simp only [hl751002_67]); (try simp only [hl751003_67]); (try simp only [hl751004_67]); (with_reducible repeat (first | apply Kd.R_alloc | apply Kd.R_drewN | apply Kd.R_drew)); exact Kd.R_mono HO_739002.out (fun _ hk => ⟨hk.1.1.1, ⟨hk.1.1.2, hk.2⟩⟩)⟩, ⟨by (try simp only [hl751002_67]); (try simp only [hl751003_67]); (try simp only [hl751004_67]); (with_reducible repeat (first | apply Kd.R_alloc | apply Kd.R_drewN | apply Kd.R_drew)); exact Kd.R_mono HO_739003.out (fun _ hk => ⟨hk.1.1.1.1.1, ⟨hk.1.1.1.1.2.1, ⟨hk.1.1.1.1.2.2.1, ⟨hk.1.1.1.1.2.2.2.1, ⟨hk.1.1.1.1.2.2.2.2, ⟨hk.1.2, hk.2⟩⟩⟩⟩⟩⟩)⟩, ⟨by (try simp only [hl751002_67]); (try simp only [hl751003_67]); (try simp only [hl751004_67]); (with_reducible repeat (first | apply Kd.R_alloc | apply Kd.R_drewN | apply Kd.R_drew)); exact Kd.R_mono HO_739004.out (fun _ hk => ⟨hk.1.1.1.1.1, ⟨hk.1.1.1.1.2.1, ⟨hk.1.1.1.1.2.2.1, ⟨hk.1.1.1.1.2.2.2.1, ⟨hk.1.1.1.1.2.2.2.2, ⟨hk.1.2, hk.2⟩⟩⟩⟩⟩⟩)⟩, ⟨by (try simp only [hl751002_67]); (try simp only [hl751003_67]); (try simp only [hl751004_67]); (with_reducible repeat (first | apply Kd.R_alloc | apply Kd.R_drewN | apply Kd.R_drew)); exact Kd.R_mono HO_751002.out (fun _ hk => ⟨hk.1.1.1, ⟨hk.1.1.2, hk.2⟩⟩)⟩, ⟨by (try simp only [hl751002_67]); (try simp only [hl751003_67]); (try simp only [hl751004_67]); (with_reducible repeat (first | apply Kd.R_alloc | apply Kd.R_drewN | apply Kd.R_drew)); exact Kd.R_mono HO_751003.out (fun _ hk => ⟨hk.1.1.1.1.1, ⟨hk.1.1.1.1.2.1, ⟨hk.1.1.1.1.2.2.1, ⟨hk.1.1.1.1.2.2.2.1, ⟨hk.1.1.1.1.2.2.2.2, ⟨hk.1.2, hk.2⟩⟩⟩⟩⟩⟩)⟩, ⟨by (try simp only [hl751002_67]); (try simp only [hl751003_67]); (try simp only [hl751004_67]); (with_reducible repeat (first | apply Kd.R_alloc | apply Kd.R_drewN | apply Kd.R_drew)); exact Kd.R_mono HO_751004.out (fun _ hk => ⟨hk.1.1.1.1.1, ⟨hk.1.1.1.1.2.1, ⟨hk.1.1.1.1.2.2.1, ⟨hk.1.1.1.1.2.2.2.1, ⟨hk.1.1.1.1.2.2.2.2, ⟨hk.1.2, hk.2⟩⟩⟩⟩⟩⟩)⟩, ⟨by (try simp only [hl751002_67]); (try simp only [hl751003_67]); (try simp only [hl751004_67]); (with_reducible repeat (first | apply Kd.R_alloc | apply Kd.R_drewN | apply Kd.R_drew)); exact Kd.R_mono HO_764002.out (fun _ hk => ⟨hk.1.1.1, ⟨hk.1.1.2, hk.2⟩⟩)⟩, ⟨by (try simp only [hl751002_67]); (try simp only [hl751003_67]); (try simp only [hl751004_67]); (with_reducible repeat (first | apply Kd.R_alloc | apply Kd.R_drewN | apply Kd.R_drew)); exact Kd.R_mono HO_764003.out (fun _ hk => ⟨hk.1.1.1.1.1, ⟨hk.1.1.1.1.2.1, ⟨hk.1.1.1.1.2.2.1, ⟨hk.1.1.1.1.2.2.2.1, ⟨hk.1.1.1.1.2.2.2.2, ⟨hk.1.2, hk.2⟩⟩⟩⟩⟩⟩)⟩, ⟨by (try simp only [hl751002_67]); (try simp only [hl751003_67]); (try simp only [hl751004_67]); (with_reducible repeat (first | apply Kd.R_alloc | apply Kd.R_drewN | apply Kd.R_drew)); exact Kd.R_mono HO_764004.out (fun _ hk => ⟨hk.1.1.1.1.1, ⟨hk.1.1.1.1.2.1, ⟨hk.1.1.1.1.2.2.1, ⟨hk.1.1.1.1.2.2.2.1, ⟨hk.1.1.1.1.2.2.2.2, ⟨hk.1.2, hk.2⟩⟩⟩⟩⟩⟩)⟩, ⟨by (try simp only [hl751002_67]); (try simp only [hl751003_67]); (try simp only [hl751004_67]); (with_reducible repeat (first | apply Kd.R_alloc | apply Kd.R_drewN | apply Kd.R_drew)); exact Kd.R_mono HO802.out (fun _ hk => ⟨hk.1.1.1.2, ⟨hk.1.1.2, hk.1.2⟩⟩)⟩, ⟨by (try simp only [hl751002_67]); (try simp only [hl751003_67]); (try simp only [hl751004_67]); (with_reducible repeat (first | apply Kd.R_alloc | apply Kd.R_drewN | apply Kd.R_drew)); exact Kd.R_mono HO805.out (fun _ hk => ⟨hk.1.1.1.1.1.1.1.2, ⟨hk.1.1.1.1.1.1.2, ⟨hk.1.1.1.1.1.2, ⟨hk.1.1.1.1.2, ⟨hk.1.1.1.2, ⟨hk.1.1.2, hk.1.1.1.1.1.1.1.1⟩⟩⟩⟩⟩⟩)⟩, ⟨by (try simp only [hl751002_67]); (try simp only [hl751003_67]); (try simp only [hl751004_67]); (with_reducible repeat (first | apply Kd.R_alloc | apply Kd.R_drewN | apply Kd.R_drew)); exact Kd.R_mono HO808.out (fun _ hk => ⟨hk.1.1.1.1.1.1.1.2, ⟨hk.1.1.1.1.1.1.2, ⟨hk.1.1.1.1.1.2, ⟨hk.1.1.1.1.2, ⟨hk.1.1.1.2, ⟨hk.1.1.2, hk.1.1.1.1.1.1.1.1⟩⟩⟩⟩⟩⟩)⟩, ⟨by (try simp only [hl751002_67]); (try simp only [hl751003_67]); (try simp only [hl751004_67]); (with_reducible repeat (first | refine blk_drewN ?_ _ | refine blk_drew ?_ | refine blk_alloc ?_ _)); exact BK713.out⟩, ⟨by (try simp only [hl751002_67]); (try simp only [hl751003_67]); (try simp only [hl751004_67]); (with_reducible repeat (first | refine blk_drewN ?_ _ | refine blk_drew ?_ | refine blk_alloc ?_ _)); exact BK738.out⟩, ⟨by (try simp only [hl751002_67]); (try simp only [hl751003_67]); (try simp only [hl751004_67]); (with_reducible repeat (first | refine blk_drewN ?_ _ | refine blk_drew ?_ | refine blk_alloc ?_ _)); exact BK750.out⟩, ⟨by (try simp only [hl751002_67]); (try simp only [hl751003_67]); (try simp only [hl751004_67]); (with_reducible repeat (first | refine blk_drewN ?_ _ | refine blk_drew ?_ | refine blk_alloc ?_ _)); exact BK763.out⟩, ⟨by (try simp only [hl751002_67]); (try simp only [hl751003_67]); (try simp only [hl751004_67]); (with_reducible repeat (first | refine blk_drewN ?_ _ | refine blk_drew ?_ | refine blk_alloc ?_ _)); exact BK810.out⟩, ⟨bq⟩⟩
           case rest =>
            clear HC113
            try clear c1
            try clear c2
            try clear p2
            try clear c3
            try clear c3b0
            try clear c4
            try clear c5
            try clear c6
            try clear c7
            try clear c8
            try clear c9
            try clear c10
            try clear c11
            try clear c12
            try clear c13
            try clear c14
            try clear c15
            try clear c16
            try clear c18
            try clear c22
            try clear c25
            try clear c26
            try clear c30
            try clear c31
            try clear c32
            try clear c33
            try clear c38
            try clear c39
            try clear c40
            try clear c46
            try clear c47
            try clear c48
            try clear c49
            try clear c51
            try clear c52
            try clear c55
            try clear c56
            try clear c57
            try clear c59
            try clear c60
            try clear c63
            try clear c66
            try clear c75
            try clear c76
            try clear c77
            try clear c80
            try clear c80b0
            try clear c82
            try clear c83
            try clear c84
            try clear c85
            try clear c87
            try clear c88
            try clear c91
            try clear c92
            try clear c93
            try clear c95
            try clear c96
            try clear c99
            try clear c102
            try clear c102b0
            try clear c103
            try clear c104
            try clear c105
            try clear c110
            try clear c110b0
            try clear c110b1
            try clear c114
            try clear c115
            try clear c116
            try clear c121
            try clear c122
            try clear c130
            try clear c131
            try clear c132
            try clear c133
            try clear c139
            try clear c140
            try clear c141
            try clear c142
            try clear c143
            try clear c145
            try clear c146
            try clear c147
            try clear c150
            try clear c151
            try clear c152
            try clear c153
            try clear c155
            try clear c156
            try clear c157
            try clear hcz106_0
            try clear hcz106_1
            try clear hcz106_2
            try clear hcz106_3
            try clear hcz106_4
            try clear hcz108_0
            try clear hcz108_1
            try clear hcz108_2
            try clear hcz108_3
            try clear hcz108_4
            try clear hcz117_0
            try clear hcz117_1
            try clear hcz117_2
            try clear hcz117_3
            try clear hcz117_4
            try clear hcz119_0
            try clear hcz119_1
            try clear hcz119_2
            try clear hcz119_3
            try clear hcz119_4
            try clear hcz123_0
            try clear hcz123_1
            try clear hcz123_2
            try clear hcz123_3
            try clear hcz123_4
            try clear hcz134_0
            try clear hcz134_1
            try clear hcz134_2
            try clear hcz134_3
            try clear hcz134_4
            try clear hcz13_0
            try clear hcz13_1
            try clear hcz13_2
            try clear hcz13_3
            try clear hcz13_4
            try clear hcz144_0
            try clear hcz144_1
            try clear hcz144_2
            try clear hcz144_3
            try clear hcz144_4
            try clear hcz148_0
            try clear hcz148_1
            try clear hcz148_2
            try clear hcz148_3
            try clear hcz148_4
            try clear hcz154_0
            try clear hcz154_1
            try clear hcz154_2
            try clear hcz154_3
            try clear hcz154_4
            try clear hcz158_0
            try clear hcz158_1
            try clear hcz158_2
            try clear hcz158_3
            try clear hcz158_4
            try clear hcz15_0
            try clear hcz15_1
            try clear hcz15_2
            try clear hcz15_3
            try clear hcz15_4
            try clear hcz23_0
            try clear hcz23_1
            try clear hcz23_2
            try clear hcz23_3
            try clear hcz23_4
            try clear hcz27_0
            try clear hcz27_1
            try clear hcz27_2
            try clear hcz27_3
            try clear hcz27_4
            try clear hcz32_0
            try clear hcz32_1
            try clear hcz32_2
            try clear hcz32_3
            try clear hcz32_4
            try clear hcz41_0
            try clear hcz41_1
            try clear hcz41_2
            try clear hcz41_3
            try clear hcz41_4
            try clear hcz50_0
            try clear hcz50_1
            try clear hcz50_2
            try clear hcz50_3
            try clear hcz50_4
            try clear hcz53_0
            try clear hcz53_1
            try clear hcz53_2
            try clear hcz53_3
            try clear hcz53_4
            try clear hcz58_0
            try clear hcz58_1
            try clear hcz58_2
            try clear hcz58_3
            try clear hcz58_4
            try clear hcz5_0
            try clear hcz5_1
            try clear hcz5_2
            try clear hcz5_3
            try clear hcz5_4
            try clear hcz61_0
            try clear hcz61_1
            try clear hcz61_2
            try clear hcz61_3
            try clear hcz61_4
            try clear hcz78_0
            try clear hcz78_1
            try clear hcz78_2
            try clear hcz78_3
            try clear hcz78_4
            try clear hcz86_0
            try clear hcz86_1
            try clear hcz86_2
            try clear hcz86_3
            try clear hcz86_4
            try clear hcz89_0
            try clear hcz89_1
            try clear hcz89_2
            try clear hcz89_3
            try clear hcz89_4
            try clear hcz94_0
            try clear hcz94_1
            try clear hcz94_2
            try clear hcz94_3
            try clear hcz94_4
            try clear hcz97_0
            try clear hcz97_1
            try clear hcz97_2
            try clear hcz97_3
            try clear hcz97_4
            try clear hfz106_0
            try clear hfz106_1
            try clear hfz106_2
            try clear hfz106_3
            try clear hfz106_4
            try clear hfz108_0
            try clear hfz108_1
            try clear hfz108_2
            try clear hfz108_3
            try clear hfz108_4
            try clear hfz117_0
            try clear hfz117_1
            try clear hfz117_2
            try clear hfz117_3
            try clear hfz117_4
            try clear hfz119_0
            try clear hfz119_1
            try clear hfz119_2
            try clear hfz119_3
            try clear hfz119_4
            try clear hfz123_0
            try clear hfz123_1
            try clear hfz123_2
            try clear hfz123_3
            try clear hfz123_4
            try clear hfz134_0
            try clear hfz134_1
            try clear hfz134_2
            try clear hfz134_3
            try clear hfz134_4
            try clear hfz13_0
            try clear hfz13_1
            try clear hfz13_2
            try clear hfz13_3
            try clear hfz13_4
            try clear hfz144_0
            try clear hfz144_1
            try clear hfz144_2
            try clear hfz144_3
            try clear hfz144_4
            try clear hfz148_0
            try clear hfz148_1
            try clear hfz148_2
            try clear hfz148_3
            try clear hfz148_4
            try clear hfz154_0
            try clear hfz154_1
            try clear hfz154_2
            try clear hfz154_3
            try clear hfz154_4
            try clear hfz158_0
            try clear hfz158_1
            try clear hfz158_2
            try clear hfz158_3
            try clear hfz158_4
            try clear hfz15_0
            try clear hfz15_1
            try clear hfz15_2
            try clear hfz15_3
            try clear hfz15_4
            try clear hfz23_0
            try clear hfz23_1
            try clear hfz23_2
            try clear hfz23_3
            try clear hfz23_4
            try clear hfz27_0
            try clear hfz27_1
            try clear hfz27_2
            try clear hfz27_3
            try clear hfz27_4
            try clear hfz32_0
            try clear hfz32_1
            try clear hfz32_2
            try clear hfz32_3
            try clear hfz32_4
            try clear hfz41_0
            try clear hfz41_1
            try clear hfz41_2
            try clear hfz41_3
            try clear hfz41_4
            try clear hfz50_0
            try clear hfz50_1
            try clear hfz50_2
            try clear hfz50_3
            try clear hfz50_4
            try clear hfz53_0
            try clear hfz53_1
            try clear hfz53_2
            try clear hfz53_3
            try clear hfz53_4
            try clear hfz58_0
            try clear hfz58_1
            try clear hfz58_2
            try clear hfz58_3
            try clear hfz58_4
            try clear hfz5_0
            try clear hfz5_1
            try clear hfz5_2
            try clear hfz5_3
            try clear hfz5_4
            try clear hfz61_0
            try clear hfz61_1
            try clear hfz61_2
            try clear hfz61_3
            try clear hfz61_4
            try clear hfz78_0
            try clear hfz78_1
            try clear hfz78_2
            try clear hfz78_3
            try clear hfz78_4
            try clear hfz86_0
            try clear hfz86_1
            try clear hfz86_2
            try clear hfz86_3
            try clear hfz86_4
            try clear hfz89_0
            try clear hfz89_1
            try clear hfz89_2
            try clear hfz89_3
            try clear hfz89_4
            try clear hfz94_0
            try clear hfz94_1
            try clear hfz94_2
            try clear hfz94_3
            try clear hfz94_4
            try clear hfz97_0
            try clear hfz97_1
            try clear hfz97_2
            try clear hfz97_3
            try clear hfz97_4
            try clear p2
            obtain ⟨kq, x87_112, rfl, HA, HJ112, HO_739002, HO_739003, HO_739004, HO_751002, HO_751003, HO_751004, HO_764002, HO_764003, HO_764004, HO_811002, HO_811003, HO_811004, BK713, BK738, BK750, BK763, BK810, HB⟩ := hcut
            have hl764002_112 := (Kd.R_reads' HO_764002.out).1
            rw [hl764002_112] at HO_764002
            (try simp only [hl764002_112])
            (try simp only [hl764002_112] at BK713)
            (try simp only [hl764002_112] at BK738)
            (try simp only [hl764002_112] at BK750)
            (try simp only [hl764002_112] at BK763)
            (try simp only [hl764002_112] at BK810)
            (try simp only [hl764002_112] at HO_739002)
            (try simp only [hl764002_112] at HO_739003)
            (try simp only [hl764002_112] at HO_739004)
            (try simp only [hl764002_112] at HO_751002)
            (try simp only [hl764002_112] at HO_751003)
            (try simp only [hl764002_112] at HO_751004)
            (try simp only [hl764002_112] at HO_764003)
            (try simp only [hl764002_112] at HO_764004)
            (try simp only [hl764002_112] at HO_811002)
            (try simp only [hl764002_112] at HO_811003)
            (try simp only [hl764002_112] at HO_811004)
            have hl764003_112 := (Kd.R_reads' HO_764003.out).1
            rw [hl764003_112] at HO_764003
            (try simp only [hl764003_112])
            (try simp only [hl764003_112] at BK713)
            (try simp only [hl764003_112] at BK738)
            (try simp only [hl764003_112] at BK750)
            (try simp only [hl764003_112] at BK763)
            (try simp only [hl764003_112] at BK810)
            (try simp only [hl764003_112] at HO_739002)
            (try simp only [hl764003_112] at HO_739003)
            (try simp only [hl764003_112] at HO_739004)
            (try simp only [hl764003_112] at HO_751002)
            (try simp only [hl764003_112] at HO_751003)
            (try simp only [hl764003_112] at HO_751004)
            (try simp only [hl764003_112] at HO_764002)
            (try simp only [hl764003_112] at HO_764004)
            (try simp only [hl764003_112] at HO_811002)
            (try simp only [hl764003_112] at HO_811003)
            (try simp only [hl764003_112] at HO_811004)
            have hl764004_112 := (Kd.R_reads' HO_764004.out).1
            rw [hl764004_112] at HO_764004
            (try simp only [hl764004_112])
            (try simp only [hl764004_112] at BK713)
            (try simp only [hl764004_112] at BK738)
            (try simp only [hl764004_112] at BK750)
            (try simp only [hl764004_112] at BK763)
            (try simp only [hl764004_112] at BK810)
            (try simp only [hl764004_112] at HO_739002)
            (try simp only [hl764004_112] at HO_739003)
            (try simp only [hl764004_112] at HO_739004)
            (try simp only [hl764004_112] at HO_751002)
            (try simp only [hl764004_112] at HO_751003)
            (try simp only [hl764004_112] at HO_751004)
            (try simp only [hl764004_112] at HO_764002)
            (try simp only [hl764004_112] at HO_764003)
            (try simp only [hl764004_112] at HO_811002)
            (try simp only [hl764004_112] at HO_811003)
            (try simp only [hl764004_112] at HO_811004)
            cases kq with
            | zero => exact absurd HA.out (by simp [laws_FnExactRedoAct.j2])
            | succ kj112 =>
             have H := HA.out
             clear HA
             simp only [laws_FnExactRedoAct.j2] at H
             by_cases c160 : x87_112 = true
             ·subst c160
              rw [if_pos rfl] at H
              try dsimp only at H
              obtain rfl := Option.some.inj H
              go_wp2
              go_ret
              exact ⟨eq_, bq⟩
             ·replace c160 := Bool.eq_false_iff.mpr c160
              subst c160
              rw [if_neg (show ¬ (false = true) by decide)] at H
              try dsimp only at H
              obtain ⟨t812, A161, H⟩ := bindq H
              try dsimp only at H
              by_cases c162 : t812 < 0
              ·rw [if_pos c162] at H
               have c162b0 : decide (t812 < 0) = true := decide_eq_true c162
               clear c162
               obtain rfl := Option.some.inj H
               have hnb163 := NB763_713.out
               have hnc163 := NB713_763.out
               have hnb164 := NB763_738.out
               have hnc164 := NB738_763.out
               have hnb165 := NB763_750.out
               have hnc165 := NB750_763.out
               have hnb166 := NB763_810.out
               have hnc166 := NB810_763.out
               have ⟨hcz167_0, hcz167_1, hcz167_2, hcz167_3, hcz167_4, hfz167_0, hfz167_1, hfz167_2, hfz167_3, hfz167_4⟩ := bc5 BK763
               go_wp2_with (first | ((with_reducible refine gate_callee (f := 26) rfl ?_); refine goesQ (some 90) Try.func26 #[.agg #[.int .i64 t751, .int .i64 t752, .slice Ao42 t783.length co42, .slice Ao43 t784.length co43, .slice Ao44 t785.length co44], .int .i64 1] ?_; (with_reducible refine (laws_heldSession.calls kj112 t751 t752 _ _ t783 _ _ t784 _ _ t785 1 t812 _ ?s1 ?s2 ?s3 ?s4 ?s5 ?s6 A161.out).mono ?_); (case s1 => exact cr HO_764002); (case s2 => exact r1 HO_764002); (case s3 => exact cr HO_764003); (case s4 => exact r1 HO_764003); (case s5 => exact cr HO_764004); (case s6 => exact r1 HO_764004); rintro e w168 ⟨rfl, hb⟩; refine ⟨_, rfl, ?_⟩; replace HO_739002 := rb HO_739002 hb; replace HO_739003 := rb HO_739003 hb; replace HO_739004 := rb HO_739004 hb; replace HO_751002 := rb HO_751002 hb; replace HO_751003 := rb HO_751003 hb; replace HO_751004 := rb HO_751004 hb; replace HO_764002 := rb HO_764002 hb; replace HO_764003 := rb HO_764003 hb; replace HO_764004 := rb HO_764004 hb; replace BK713 := zb BK713 hb; replace BK750 := zb BK750 hb; replace BK763 := zb BK763 hb; replace HB := sb hb; (try clear hb)))
               go_ret
               exact ⟨eq_, bq⟩
              ·rw [if_neg c162] at H
               have c162b0 : decide (t812 < 0) = false := decide_eq_false c162
               clear c162
               by_cases c169 : t812 = t782
               ·rw [if_pos c169] at H
                have c169b0 : (t812 == t782) = true := beq_iff_eq.mpr c169
                have c169b1 : (t812 != t782) = false := bne_eq_false_iff_eq.mpr c169
                clear c169
                obtain rfl := Option.some.inj H
                have hnb170 := NB763_713.out
                have hnc170 := NB713_763.out
                have hnb171 := NB763_738.out
                have hnc171 := NB738_763.out
                have hnb172 := NB763_750.out
                have hnc172 := NB750_763.out
                have hnb173 := NB763_810.out
                have hnc173 := NB810_763.out
                have ⟨hcz174_0, hcz174_1, hcz174_2, hcz174_3, hcz174_4, hfz174_0, hfz174_1, hfz174_2, hfz174_3, hfz174_4⟩ := bc5 BK763
                go_wp2_with (first | ((with_reducible refine gate_callee (f := 26) rfl ?_); refine goesQ (some 90) Try.func26 #[.agg #[.int .i64 t751, .int .i64 t752, .slice Ao42 t783.length co42, .slice Ao43 t784.length co43, .slice Ao44 t785.length co44], .int .i64 1] ?_; (with_reducible refine (laws_heldSession.calls kj112 t751 t752 _ _ t783 _ _ t784 _ _ t785 1 t812 _ ?s1 ?s2 ?s3 ?s4 ?s5 ?s6 A161.out).mono ?_); (case s1 => exact cr HO_764002); (case s2 => exact r1 HO_764002); (case s3 => exact cr HO_764003); (case s4 => exact r1 HO_764003); (case s5 => exact cr HO_764004); (case s6 => exact r1 HO_764004); rintro e w175 ⟨rfl, hb⟩; refine ⟨_, rfl, ?_⟩; replace HO_739002 := rb HO_739002 hb; replace HO_739003 := rb HO_739003 hb; replace HO_739004 := rb HO_739004 hb; replace HO_751002 := rb HO_751002 hb; replace HO_751003 := rb HO_751003 hb; replace HO_751004 := rb HO_751004 hb; replace HO_764002 := rb HO_764002 hb; replace HO_764003 := rb HO_764003 hb; replace HO_764004 := rb HO_764004 hb; replace BK713 := zb BK713 hb; replace BK750 := zb BK750 hb; replace BK763 := zb BK763 hb; replace HB := sb hb; (try clear hb)))
                go_ret
                exact ⟨eq_, bq⟩
               ·rw [if_neg c169] at H
                have c169b0 : (t812 == t782) = false := beq_eq_false_iff_ne.mpr c169
                have c169b1 : (t812 != t782) = true := bne_iff_ne.mpr c169
                obtain rfl := Option.some.inj H
                have hnb176 := NB763_713.out
                have hnc176 := NB713_763.out
                have hnb177 := NB763_738.out
                have hnc177 := NB738_763.out
                have hnb178 := NB763_750.out
                have hnc178 := NB750_763.out
                have hnb179 := NB763_810.out
                have hnc179 := NB810_763.out
                have ⟨hcz180_0, hcz180_1, hcz180_2, hcz180_3, hcz180_4, hfz180_0, hfz180_1, hfz180_2, hfz180_3, hfz180_4⟩ := bc5 BK763
                go_wp2_with (first | ((with_reducible refine gate_callee (f := 26) rfl ?_); refine goesQ (some 90) Try.func26 #[.agg #[.int .i64 t751, .int .i64 t752, .slice Ao42 t783.length co42, .slice Ao43 t784.length co43, .slice Ao44 t785.length co44], .int .i64 1] ?_; (with_reducible refine (laws_heldSession.calls kj112 t751 t752 _ _ t783 _ _ t784 _ _ t785 1 t812 _ ?s1 ?s2 ?s3 ?s4 ?s5 ?s6 A161.out).mono ?_); (case s1 => exact cr HO_764002); (case s2 => exact r1 HO_764002); (case s3 => exact cr HO_764003); (case s4 => exact r1 HO_764003); (case s5 => exact cr HO_764004); (case s6 => exact r1 HO_764004); rintro e w181 ⟨rfl, hb⟩; refine ⟨_, rfl, ?_⟩; replace HO_739002 := rb HO_739002 hb; replace HO_739003 := rb HO_739003 hb; replace HO_739004 := rb HO_739004 hb; replace HO_751002 := rb HO_751002 hb; replace HO_751003 := rb HO_751003 hb; replace HO_751004 := rb HO_751004 hb; replace HO_764002 := rb HO_764002 hb; replace HO_764003 := rb HO_764003 hb; replace HO_764004 := rb HO_764004 hb; replace BK713 := zb BK713 hb; replace BK750 := zb BK750 hb; replace BK763 := zb BK763 hb; replace HB := sb hb; (try clear hb)))
                go_ret
                exact ⟨eq_, bq⟩
          ·rw [if_neg c110] at H
           have c110b0 : (t786 == t782) = false := beq_eq_false_iff_ne.mpr c110
           have c110b1 : (t786 != t782) = true := bne_iff_ne.mpr c110
           obtain rfl := Option.some.inj H
           have hnb182 := NB763_713.out
           have hnc182 := NB713_763.out
           have hnb183 := NB763_738.out
           have hnc183 := NB738_763.out
           have hnb184 := NB763_750.out
           have hnc184 := NB750_763.out
           have ⟨hcz185_0, hcz185_1, hcz185_2, hcz185_3, hcz185_4, hfz185_0, hfz185_1, hfz185_2, hfz185_3, hfz185_4⟩ := bc5 BK763
           go_wp2_with (first | ((with_reducible refine gate_callee (f := 25) rfl ?_); refine goesQ (some 64) Try.func25 #[.agg #[.int .i64 t751, .int .i64 t752, .slice Ao42 t753.length co42, .slice Ao43 t756.length co43, .slice Ao44 t759.length co44], .int .i64 1] ?_; (with_reducible refine (laws_markSession.calls kj67 t751 t752 (fun k_ => some k_ = (.slice Ao42 t753.length co42 : Value).ownBlock) (.slice Ao42 t753.length co42) t753 (fun k_ => some k_ = (.slice Ao43 t756.length co43 : Value).ownBlock) (.slice Ao43 t756.length co43) t756 (fun k_ => some k_ = (.slice Ao44 t759.length co44 : Value).ownBlock) (.slice Ao44 t759.length co44) t759 1 t782 t783 t784 t785 w _ ?s1 ?s2 ?s3 ?s4 ?s5 ?s6 A100.out).mono ?_); (case s1 => repeat (first | (with_reducible first | exact HB.out | apply below_alloc | apply pw_below_drewN | apply below_drew1 | refine below_set ?_ GE713.out | refine below_set ?_ GE738.out | refine below_set ?_ GE750.out | refine below_set ?_ GE763.out) | exact HB.out)); (case s2 => exact Kd.R_tight rfl HO_764002.out); (case s3 => exact Kd.R_tight rfl HO_764003.out); (case s4 => exact fun k_ e_ => (HO_764003.out.1 k_ e_.symm).2.2.2.2); (case s5 => exact Kd.R_tight rfl HO_764004.out); (case s6 => exact fun k_ e_ => (HO_764004.out.1 k_ e_.symm).2.2.2.2); rintro e w186 ⟨rfl, hy0, hy1, hy2, hb, hkp⟩; refine ⟨_, rfl, ?_⟩; replace HO_739002 := Aside0.mk (Kd.R_mono (ok' := fun k_ => some k_ ≠ (.slice Ao33 t778.length co33 : Value).ownBlock ∧ some k_ ≠ (.slice Ao42 t753.length co42 : Value).ownBlock) (Kd.R_keptB ((Kd.R_apart' (Kd.R_apart' HO_739002.out (Kd.R_typed HO_764003.out) (by decide)) (Kd.R_typed HO_764004.out) (by decide))) hkp (fun k_ hk_ hs_ => Or.elim hs_ (fun e_ => (hk_.1.1.2) e_) (fun e_ => Or.elim e_ (fun e_ => (hk_.1.2) e_) (fun e_ => (hk_.2) e_)))) (fun k_ hk_ => ⟨hk_.1.1.1.1, hk_.1.1.1.2⟩)); replace HO_739003 := Aside0.mk (Kd.R_mono (ok' := fun k_ => some k_ ≠ (.slice Ao26 t734.length co26 : Value).ownBlock ∧ some k_ ≠ (.slice Ao34 t779.length co34 : Value).ownBlock ∧ some k_ ≠ (.slice Ao35 t780.length co35 : Value).ownBlock ∧ some k_ ≠ (.slice Ao43 t756.length co43 : Value).ownBlock ∧ some k_ ≠ (.slice Ao44 t759.length co44 : Value).ownBlock) (Kd.R_keptB ((Kd.R_apart' HO_739003.out (Kd.R_typed HO_764002.out) (by decide))) hkp (fun k_ hk_ hs_ => Or.elim hs_ (fun e_ => (hk_.2) e_) (fun e_ => Or.elim e_ (fun e_ => (hk_.1.2.2.2.1) e_) (fun e_ => (hk_.1.2.2.2.2) e_)))) (fun k_ hk_ => ⟨hk_.1.1.1, hk_.1.1.2.1, hk_.1.1.2.2.1, hk_.1.1.2.2.2.1, hk_.1.1.2.2.2.2⟩)); replace HO_739004 := Aside0.mk (Kd.R_mono (ok' := fun k_ => some k_ ≠ (.slice Ao25 t731.length co25 : Value).ownBlock ∧ some k_ ≠ (.slice Ao34 t779.length co34 : Value).ownBlock ∧ some k_ ≠ (.slice Ao35 t780.length co35 : Value).ownBlock ∧ some k_ ≠ (.slice Ao43 t756.length co43 : Value).ownBlock ∧ some k_ ≠ (.slice Ao44 t759.length co44 : Value).ownBlock) (Kd.R_keptB ((Kd.R_apart' HO_739004.out (Kd.R_typed HO_764002.out) (by decide))) hkp (fun k_ hk_ hs_ => Or.elim hs_ (fun e_ => (hk_.2) e_) (fun e_ => Or.elim e_ (fun e_ => (hk_.1.2.2.2.1) e_) (fun e_ => (hk_.1.2.2.2.2) e_)))) (fun k_ hk_ => ⟨hk_.1.1.1, hk_.1.1.2.1, hk_.1.1.2.2.1, hk_.1.1.2.2.2.1, hk_.1.1.2.2.2.2⟩)); replace HO_751002 := Aside0.mk (Kd.R_mono (ok' := fun k_ => some k_ ≠ (.slice Ao24 t728.length co24 : Value).ownBlock ∧ some k_ ≠ (.slice Ao42 t753.length co42 : Value).ownBlock) (Kd.R_keptB ((Kd.R_apart' (Kd.R_apart' HO_751002.out (Kd.R_typed HO_764003.out) (by decide)) (Kd.R_typed HO_764004.out) (by decide))) hkp (fun k_ hk_ hs_ => Or.elim hs_ (fun e_ => (hk_.1.1.2) e_) (fun e_ => Or.elim e_ (fun e_ => (hk_.1.2) e_) (fun e_ => (hk_.2) e_)))) (fun k_ hk_ => ⟨hk_.1.1.1.1, hk_.1.1.1.2⟩)); replace HO_751003 := Aside0.mk (Kd.R_mono (ok' := fun k_ => some k_ ≠ (.slice Ao25 t731.length co25 : Value).ownBlock ∧ some k_ ≠ (.slice Ao26 t734.length co26 : Value).ownBlock ∧ some k_ ≠ (.slice Ao35 t780.length co35 : Value).ownBlock ∧ some k_ ≠ (.slice Ao43 t756.length co43 : Value).ownBlock ∧ some k_ ≠ (.slice Ao44 t759.length co44 : Value).ownBlock) (Kd.R_keptB ((Kd.R_apart' HO_751003.out (Kd.R_typed HO_764002.out) (by decide))) hkp (fun k_ hk_ hs_ => Or.elim hs_ (fun e_ => (hk_.2) e_) (fun e_ => Or.elim e_ (fun e_ => (hk_.1.2.2.2.1) e_) (fun e_ => (hk_.1.2.2.2.2) e_)))) (fun k_ hk_ => ⟨hk_.1.1.1, hk_.1.1.2.1, hk_.1.1.2.2.1, hk_.1.1.2.2.2.1, hk_.1.1.2.2.2.2⟩)); replace HO_751004 := Aside0.mk (Kd.R_mono (ok' := fun k_ => some k_ ≠ (.slice Ao25 t731.length co25 : Value).ownBlock ∧ some k_ ≠ (.slice Ao26 t734.length co26 : Value).ownBlock ∧ some k_ ≠ (.slice Ao34 t779.length co34 : Value).ownBlock ∧ some k_ ≠ (.slice Ao43 t756.length co43 : Value).ownBlock ∧ some k_ ≠ (.slice Ao44 t759.length co44 : Value).ownBlock) (Kd.R_keptB ((Kd.R_apart' HO_751004.out (Kd.R_typed HO_764002.out) (by decide))) hkp (fun k_ hk_ hs_ => Or.elim hs_ (fun e_ => (hk_.2) e_) (fun e_ => Or.elim e_ (fun e_ => (hk_.1.2.2.2.1) e_) (fun e_ => (hk_.1.2.2.2.2) e_)))) (fun k_ hk_ => ⟨hk_.1.1.1, hk_.1.1.2.1, hk_.1.1.2.2.1, hk_.1.1.2.2.2.1, hk_.1.1.2.2.2.2⟩)); replace BK713 := Aside0.mk (blk_kept (zq BK713) hkp (fun hs_ => Or.elim hs_ (fun e_ => (fun e_ => (Kd.R_ne HO_764002.out BK713.out (by decide)) e_) e_) (fun e_ => Or.elim e_ (fun e_ => (fun e_ => (Kd.R_ne HO_764003.out BK713.out (by decide)) e_) e_) (fun e_ => (fun e_ => (Kd.R_ne HO_764004.out BK713.out (by decide)) e_) e_)))); replace BK750 := Aside0.mk (blk_kept (zq BK750) hkp (fun hs_ => Or.elim hs_ (fun e_ => (fun e_ => (Kd.R_ne HO_764002.out BK750.out (by decide)) e_) e_) (fun e_ => Or.elim e_ (fun e_ => (fun e_ => (Kd.R_ne HO_764003.out BK750.out (by decide)) e_) e_) (fun e_ => (fun e_ => (Kd.R_ne HO_764004.out BK750.out (by decide)) e_) e_)))); replace BK763 := Aside0.mk (blk_kept (zq BK763) hkp (fun hs_ => Or.elim hs_ (fun e_ => (fun e_ => (Kd.R_ne HO_764002.out BK763.out (by decide)) e_) e_) (fun e_ => Or.elim e_ (fun e_ => (fun e_ => (Kd.R_ne HO_764003.out BK763.out (by decide)) e_) e_) (fun e_ => (fun e_ => (Kd.R_ne HO_764004.out BK763.out (by decide)) e_) e_)))); replace HO_764002 := Aside0.mk (Kd.R_reok rfl hy0 (fun k_ e_ => HO_764002.out.1 k_ e_)); replace HO_764003 := Aside0.mk (Kd.R_reok rfl hy1 (fun k_ e_ => HO_764003.out.1 k_ e_)); replace HO_764004 := Aside0.mk (Kd.R_reok rfl hy2 (fun k_ e_ => HO_764004.out.1 k_ e_)); replace HB := Aside0.mk (hb); (try clear hb hkp hy0 hy1 hy2); have ⟨hcz187_0, hcz187_1, hcz187_2, hcz187_3, hcz187_4, hfz187_0, hfz187_1, hfz187_2, hfz187_3, hfz187_4⟩ := bc5 BK763) | ((with_reducible refine gate_callee (f := 26) rfl ?_); refine goesL_ (some 67) rfl rfl Try.func26 (by kernel_rfl) rfl #[.agg #[.int .i64 t751, .int .i64 t752, .slice Ao42 t783.length co42, .slice Ao43 t784.length co43, .slice Ao44 t785.length co44], .int .i64 1] rfl (by (try simp only [List.map_toArray, List.map_cons, List.map_nil]); first | done | (rw [show t783.length = t753.length from (Kd.R_reads' HO_764002.out).1.symm, show t784.length = t756.length from (Kd.R_reads' HO_764003.out).1.symm, show t785.length = t759.length from (Kd.R_reads' HO_764004.out).1.symm] <;> rfl) | rfl | (simp only [List.length_drop, List.length_take]; rfl)) ?_; (with_reducible refine (laws_heldSession.calls kj67 t751 t752 _ _ t783 _ _ t784 _ _ t785 1 t786 _ ?s1 ?s2 ?s3 ?s4 ?s5 ?s6 A101.out).mono ?_); (case s1 => exact cr HO_764002); (case s2 => rw [show t783.length = t753.length from (Kd.R_reads' HO_764002.out).1.symm]; exact r1 HO_764002); (case s3 => exact cr HO_764003); (case s4 => rw [show t784.length = t756.length from (Kd.R_reads' HO_764003.out).1.symm]; exact r1 HO_764003); (case s5 => exact cr HO_764004); (case s6 => rw [show t785.length = t759.length from (Kd.R_reads' HO_764004.out).1.symm]; exact r1 HO_764004); rintro e w188 ⟨rfl, hb⟩; refine ⟨_, rfl, ?_⟩; replace HO_739002 := rb HO_739002 hb; replace HO_739003 := rb HO_739003 hb; replace HO_739004 := rb HO_739004 hb; replace HO_751002 := rb HO_751002 hb; replace HO_751003 := rb HO_751003 hb; replace HO_751004 := rb HO_751004 hb; replace HO_764002 := rb HO_764002 hb; replace HO_764003 := rb HO_764003 hb; replace HO_764004 := rb HO_764004 hb; replace BK713 := zb BK713 hb; replace BK750 := zb BK750 hb; replace HB := sb hb; (try clear hb)))
           go_ret
           exact ⟨eq_, bq⟩
     ·replace c66 := Bool.eq_false_iff.mpr c66
      subst c66
      rw [if_neg (show ¬ (false = true) by decide)] at H
      try dsimp only at H
      obtain rfl := Option.some.inj H
      try go_wp2
      replace HO_739002 := Aside0.mk (Kd.R_drew HO_739002.out)
      replace HO_739003 := Aside0.mk (Kd.R_drew HO_739003.out)
      replace HO_739004 := Aside0.mk (Kd.R_drew HO_739004.out)
      replace HO_751002 := Aside0.mk (Kd.R_drew HO_751002.out)
      replace HO_751003 := Aside0.mk (Kd.R_drew HO_751003.out)
      replace HO_751004 := Aside0.mk (Kd.R_drew HO_751004.out)
      replace HO_764002 := Aside0.mk (Kd.R_drew HO_764002.out)
      replace HO_764003 := Aside0.mk (Kd.R_drew HO_764003.out)
      replace HO_764004 := Aside0.mk (Kd.R_drew HO_764004.out)
      replace BK713 := Aside0.mk (blk_drew BK713.out)
      replace BK750 := Aside0.mk (blk_drew BK750.out)
      replace HB := Aside0.mk (below_drew1 HB.out)
      refine start_ (n := 5) (S := fun w' => w'.cell? ⟨gb750, 0, none⟩ = some (.int .i64 t739) ∧ w'.cell? ⟨gb750, 1, none⟩ = some (.int .i64 t740) ∧ w'.cell? ⟨gb750, 2, none⟩ = some (.slice Ao33 t741.length co33) ∧ w'.cell? ⟨gb750, 3, none⟩ = some (.slice Ao34 t744.length co34) ∧ w'.cell? ⟨gb750, 4, none⟩ = some (.slice Ao35 t747.length co35) ∧ w'.cell? ⟨gb713, 0, none⟩ = some (.int .i64 a0_0) ∧ w'.cell? ⟨gb713, 1, none⟩ = some (.int .i64 a0_1) ∧ w'.cell? ⟨gb713, 2, none⟩ = some (.slice A0_2 l0_2.length c0_2) ∧ w'.cell? ⟨gb713, 3, none⟩ = some (.slice A0_3 l0_3.length c0_3) ∧ w'.cell? ⟨gb713, 4, none⟩ = some (.slice A0_4 l0_4.length c0_4)) (ds := []) #[false, false, false, false, false] (by kernel_rfl) rfl rfl ⟨(blk_cell BK750.out 0).trans rfl, (blk_cell BK750.out 1).trans rfl, (blk_cell BK750.out 2).trans rfl, (blk_cell BK750.out 3).trans rfl, (blk_cell BK750.out 4).trans rfl, (blk_cell BK713.out 0).trans rfl, (blk_cell BK713.out 1).trans rfl, (blk_cell BK713.out 2).trans rfl, (blk_cell BK713.out 3).trans rfl, (blk_cell BK713.out 4).trans rfl⟩ (fun hHeld => ?_)
      generalize wc.drew = w189 at HO_739002 HO_739003 HO_739004 HO_751002 HO_751003 HO_751004 HO_764002 HO_764003 HO_764004 BK713 BK750 HB hHeld ⊢
      refine take_ (i := 0) (N := some 41) (v := ?_) (a' := ?_) #[true, false, false, false, false] rfl rfl (by kernel_rfl) (fun _ _ _ h => h) (Or.inl ⟨by rfl, ?_⟩) hHeld ?_ ?_
      rotate_left
      ·rintro w' ⟨s0, s1, s2, s3, s4, s5, s6, s7, s8, s9⟩
       go_simp
       with_reducible rfl
      rotate_left
      ·simp only [Act.put, List.setIfInBounds_toArray, List.set_cons_zero, List.set_cons_succ, i64_w, i32_w]
       rfl
      refine take_ (i := 1) (N := some 42) (v := ?_) (a' := ?_) #[true, true, false, false, false] rfl rfl (by kernel_rfl) (fun _ _ _ h => h) (Or.inl ⟨by rfl, ?_⟩) hHeld ?_ ?_
      rotate_left
      ·rintro w' ⟨s0, s1, s2, s3, s4, s5, s6, s7, s8, s9⟩
       go_simp
       with_reducible rfl
      rotate_left
      ·simp only [Act.put, List.setIfInBounds_toArray, List.set_cons_zero, List.set_cons_succ, i64_w, i32_w]
       rfl
      refine one_ (i := 2) (N := some 43) #[true, true, true, false, false] rfl rfl (by kernel_rfl) (by decide) (fun K hK => ?_)
      refine goes_ Try.func16 (by kernel_rfl) rfl #[.agg #[.int .i64 a0_0, .int .i64 a0_1, .slice A0_2 l0_2.length c0_2, .slice A0_3 l0_3.length c0_3, .slice A0_4 l0_4.length c0_4]] (by rfl) rfl rfl mq ?_
      with_reducible refine (laws_toSession.calls kj10 a0_0 a0_1 _ _ l0_2 _ _ l0_3 _ _ l0_4 t765 t766 t767 t770 t773 _ ?s1 ?s2 ?s3 ?s4 ?s5 ?s6 A64.out).mono ?_
      (case s1 => exact cq (Kd.C_below HR0_2.out HB.out))
      (case s2 => exact HC0_2.out)
      (case s3 => exact cq (Kd.C_below HR0_3.out HB.out))
      (case s4 => exact HC0_3.out)
      (case s5 => exact cq (Kd.C_below HR0_4.out HB.out))
      (case s6 => exact HC0_4.out)
      rintro e w190 ⟨v768, v771, v774, rfl, ho0, ho1, ho2, hb⟩
      refine ⟨_, rfl, ?_⟩
      have HO769 := Aside0.mk (Kd.R_lower (Kd.R_new' (Kd.R_new' (Kd.R_new' ho0 (Kd.R_lt (rq HO_739002))) (Kd.R_lt (rq HO_751002))) (Kd.R_lt (rq HO_764002))) (below_size bq))
      replace HO_751002 := Aside0.mk (Kd.R_elder' (rq HO_751002) (Kd.R_base ho0) hb)
      have HO772 := Aside0.mk (Kd.R_lower (Kd.R_new' (Kd.R_new' (Kd.R_new' (Kd.R_new' (Kd.R_new' (Kd.R_new' ho1 (Kd.R_lt (rq HO_739003))) (Kd.R_lt (rq HO_739004))) (Kd.R_lt (rq HO_751003))) (Kd.R_lt (rq HO_751004))) (Kd.R_lt (rq HO_764003))) (Kd.R_lt (rq HO_764004))) (below_size bq))
      have HO775 := Aside0.mk (Kd.R_lower (Kd.R_new' (Kd.R_new' (Kd.R_new' (Kd.R_new' (Kd.R_new' (Kd.R_new' ho2 (Kd.R_lt (rq HO_739003))) (Kd.R_lt (rq HO_739004))) (Kd.R_lt (rq HO_751003))) (Kd.R_lt (rq HO_751004))) (Kd.R_lt (rq HO_764003))) (Kd.R_lt (rq HO_764004))) (below_size bq))
      replace HO_751003 := Aside0.mk (Kd.R_mono (Kd.R_told (Kd.R_told (Kd.R_old (rq HO_751003) hb) (Kd.R_base ho1)) (Kd.R_base ho2)) (fun _ h_ => h_.1))
      replace HO_751004 := Aside0.mk (Kd.R_mono (Kd.R_told (Kd.R_told (Kd.R_old (rq HO_751004) hb) (Kd.R_base ho1)) (Kd.R_base ho2)) (fun _ h_ => h_.1))
      replace BK713 := zb BK713 hb
      replace BK750 := zb BK750 hb
      replace HB := sb hb
      (try clear hb ho0 ho1 ho2)
      obtain ⟨Ao191, co191, eo191⟩ := Kd.R_slice HO769.out
      (first | subst eo191 | (injection eo191 with f1_ f2_ f3_; have f4_ := f1_.symm; have f5_ := f3_.symm; clear f1_ f2_ f3_; subst f4_; subst f5_))
      obtain ⟨Ao192, co192, eo192⟩ := Kd.R_slice HO772.out
      (first | subst eo192 | (injection eo192 with f1_ f2_ f3_; have f4_ := f1_.symm; have f5_ := f3_.symm; clear f1_ f2_ f3_; subst f4_; subst f5_))
      obtain ⟨Ao193, co193, eo193⟩ := Kd.R_slice HO775.out
      (first | subst eo193 | (injection eo193 with f1_ f2_ f3_; have f4_ := f1_.symm; have f5_ := f3_.symm; clear f1_ f2_ f3_; subst f4_; subst f5_))
      refine hK.out _ _ ⟨(blk_cell BK750.out 0).trans rfl, (blk_cell BK750.out 1).trans rfl, (blk_cell BK750.out 2).trans rfl, (blk_cell BK750.out 3).trans rfl, (blk_cell BK750.out 4).trans rfl, (blk_cell BK713.out 0).trans rfl, (blk_cell BK713.out 1).trans rfl, (blk_cell BK713.out 2).trans rfl, (blk_cell BK713.out 3).trans rfl, (blk_cell BK713.out 4).trans rfl⟩ (fun hHeld => ?_)
      clear hK K
      refine norm_ (a' := ?_) ?_ ?_
      rotate_left
      ·show Act.put _ (some 43) _ = _
       simp only [Act.put, List.setIfInBounds_toArray, List.set_cons_zero, List.set_cons_succ, i64_w, i32_w]
       rfl
      refine one_ (i := 3) (N := some 44) #[true, true, true, true, false] rfl rfl (by kernel_rfl) (by decide) (fun K hK => ?_)
      refine goes_ Try.func18 (by kernel_rfl) rfl #[.agg #[.int .i64 t739, .int .i64 t740, .slice Ao33 t741.length co33, .slice Ao34 t744.length co34, .slice Ao35 t747.length co35], .agg #[.int .i64 t765, .int .i64 t766, .slice Ao191 t767.length co191, .slice Ao192 t770.length co192, .slice Ao193 t773.length co193]] (by rfl) rfl rfl mq ?_
      with_reducible refine (laws_eqSession.calls kj10 t739 t740 _ _ t741 _ _ t744 _ _ t747 t765 t766 _ _ t767 _ _ t770 _ _ t773 false _ ?s1 ?s2 ?s3 ?s4 ?s5 ?s6 ?s7 ?s8 ?s9 ?s10 ?s11 ?s12 A65.out).mono ?_
      (case s1 => exact cr HO_751002)
      (case s2 => exact r1 HO_751002)
      (case s3 => exact cr HO_751003)
      (case s4 => exact r1 HO_751003)
      (case s5 => exact cr HO_751004)
      (case s6 => exact r1 HO_751004)
      (case s7 => exact cr HO769)
      (case s8 => exact r1 HO769)
      (case s9 => exact cr HO772)
      (case s10 => exact r1 HO772)
      (case s11 => exact cr HO775)
      (case s12 => exact r1 HO775)
      rintro e w194 ⟨rfl, hb⟩
      refine ⟨_, rfl, ?_⟩
      replace BK713 := zb BK713 hb
      replace BK750 := zb BK750 hb
      replace HB := sb hb
      (try clear hb)
      refine hK.out _ _ ⟨(blk_cell BK750.out 0).trans rfl, (blk_cell BK750.out 1).trans rfl, (blk_cell BK750.out 2).trans rfl, (blk_cell BK750.out 3).trans rfl, (blk_cell BK750.out 4).trans rfl, (blk_cell BK713.out 0).trans rfl, (blk_cell BK713.out 1).trans rfl, (blk_cell BK713.out 2).trans rfl, (blk_cell BK713.out 3).trans rfl, (blk_cell BK713.out 4).trans rfl⟩ (fun hHeld => ?_)
      clear hK K
      refine norm_ (a' := ?_) ?_ ?_
      rotate_left
      ·show Act.put _ (some 44) _ = _
       simp only [Act.put, List.setIfInBounds_toArray, List.set_cons_zero, List.set_cons_succ, i64_w, i32_w]
       rfl
      refine pure_ (i := 4) (N := some 45) (v := ?_) (a' := ?_) #[true, true, true, true, true] rfl rfl (by kernel_rfl) (fun _ _ _ h => h) (Or.inl ⟨by rfl, ?_⟩) ?_ ?_
      rotate_left
      ·intro w'
       go_simp
       with_reducible rfl
      rotate_left
      ·simp only [Act.put, List.setIfInBounds_toArray, List.set_cons_zero, List.set_cons_succ, i64_w, i32_w]
       rfl
      refine done_ (by kernel_rfl) ?_
      try go_wp2
      go_ret
      exact ⟨eq_, bq⟩




end Go.Proofs.Ytkkgjljcgnegpaa.Pall
