-- written by the kit's print program, put together by a program
import Derived.Test.YtkkgjljcgnegpaaMFnExactRunSession0
namespace Go.Proofs.Ytkkgjljcgnegpaa.Pall
open Go.RowKit Go.Proofs.YtkkgjljcgnegpaaW.PrintWords Go.Proofs.YtkkgjljcgnegpaaW.PrintLast Go.Proofs.YtkkgjljcgnegpaaW.PrintMore
attribute [local go_sem] max2_int min2_int max_two min_two max_three min_three max_four min_four   -- for this text's walks alone
set_option linter.unusedVariables false
set_option linter.unusedSimpArgs false
/-! ### spec_paTurning: function 107 -/
def spec_paTurning.f (a0_0 : Int) (a0_1 : Int) : Option (Bool) := if a0_0 = 3 then (some true) else (some (a0_0 == 6))
set_option maxHeartbeats 8000000 in
set_option maxRecDepth 100000 in
theorem spec_paTurning.calls (a0_0 : Int) (a0_1 : Int) (r : Bool) (w : World) (h : spec_paTurning.f a0_0 a0_1 = some r) :
  Calls Try.prog 107 #[.agg #[.int .i64 a0_0, .int .i64 a0_1]] w fun e w' => e = .returned (.bool r) ∧ Below w.heap.size w w' := by
 have hu58 := Try.underlying58
 have HB := am (Below.refl w.heap.size w)
 have H : (if a0_0 = 3 then (some true) else (some (a0_0 == 6))) = some r := h
 clear h
 by_cases c2 : a0_0 = 3
 ·rw [if_pos c2] at H
  have c2b0 : (a0_0 == 3) = true := beq_iff_eq.mpr c2
  have c2b1 : (a0_0 != 3) = false := bne_eq_false_iff_eq.mpr c2
  clear c2
  obtain rfl := Option.some.inj H
  go_enter Try.func107, Try.ntmps107
  go_wp2_with (first | ((with_reducible refine gate_dst (N := 1) rfl ?_); refine box_event ?hg (N := 1) ?hd (cs := #[.int .i64 a0_0, .int .i64 a0_1]) (t := 58) ?hr ?_; (case hd => rfl); (case hg => rfl); (case hr => first | (go_simp; done) | (go_simp; rfl)); intro gb107 hg w3 hbox hb; have BK107 := am (hbox); have GW107 := am (gq hg); have GE107 := am (gq hg); replace HB := sb hb; clear hb hbox hg; have ⟨hcz4_0, hcz4_1, hfz4_0, hfz4_1⟩ := bc2 BK107))
  go_ret
  exact ⟨eq_, bq⟩
 ·rw [if_neg c2] at H
  have c2b0 : (a0_0 == 3) = false := beq_eq_false_iff_ne.mpr c2
  have c2b1 : (a0_0 != 3) = true := bne_iff_ne.mpr c2
  obtain rfl := Option.some.inj H
  go_enter Try.func107, Try.ntmps107
  go_wp2_with (first | ((with_reducible refine gate_dst (N := 1) rfl ?_); refine box_event ?hg (N := 1) ?hd (cs := #[.int .i64 a0_0, .int .i64 a0_1]) (t := 58) ?hr ?_; (case hd => rfl); (case hg => rfl); (case hr => first | (go_simp; done) | (go_simp; rfl)); intro gb107 hg w5 hbox hb; have BK107 := am (hbox); have GW107 := am (gq hg); have GE107 := am (gq hg); replace HB := sb hb; clear hb hbox hg; have ⟨hcz6_0, hcz6_1, hfz6_0, hfz6_1⟩ := bc2 BK107))
  go_ret
  exact ⟨eq_, bq⟩


/-! ### spec_paGood: function 92 -/
def spec_paGood.f (a0_0 : Int) (a0_1 : Int) : Option (Bool) := (spec_l1In.f a0_0 0 7).bind fun t109 => (if t109 = true then (if a0_1 = 0 then (some true) else (if a0_1 = 1 then ((spec_paTurning.f a0_0 a0_1).bind fun t110 => (some t110)) else (some false))) else (some false))
set_option maxHeartbeats 8000000 in
set_option maxRecDepth 100000 in
theorem spec_paGood.calls (a0_0 : Int) (a0_1 : Int) (r : Bool) (w : World) (h : spec_paGood.f a0_0 a0_1 = some r) :
  Calls Try.prog 92 #[.agg #[.int .i64 a0_0, .int .i64 a0_1]] w fun e w' => e = .returned (.bool r) ∧ Below w.heap.size w w' := by
 have hu58 := Try.underlying58
 have HB := am (Below.refl w.heap.size w)
 have H : ((spec_l1In.f a0_0 0 7).bind fun t109 => (if t109 = true then (if a0_1 = 0 then (some true) else (if a0_1 = 1 then ((spec_paTurning.f a0_0 a0_1).bind fun t110 => (some t110)) else (some false))) else (some false))) = some r := h
 clear h
 obtain ⟨t109, A2, H⟩ := bindq H
 try dsimp only at H
 by_cases c3 : t109 = true
 ·subst c3
  rw [if_pos rfl] at H
  try dsimp only at H
  by_cases c4 : a0_1 = 0
  ·rw [if_pos c4] at H
   have c4b0 : (a0_1 == 0) = true := beq_iff_eq.mpr c4
   have c4b1 : (a0_1 != 0) = false := bne_eq_false_iff_eq.mpr c4
   clear c4
   obtain rfl := Option.some.inj H
   go_enter Try.func92, Try.ntmps92
   go_wp2_with (first | ((with_reducible refine gate_dst (N := 1) rfl ?_); refine box_event ?hg (N := 1) ?hd (cs := #[.int .i64 a0_0, .int .i64 a0_1]) (t := 58) ?hr ?_; (case hd => rfl); (case hg => rfl); (case hr => first | (go_simp; done) | (go_simp; rfl)); intro gb108 hg w5 hbox hb; have BK108 := am (hbox); have GW108 := am (gq hg); have GE108 := am (gq hg); replace HB := sb hb; clear hb hbox hg; have ⟨hcz6_0, hcz6_1, hfz6_0, hfz6_1⟩ := bc2 BK108) | ((with_reducible refine gate_callee (f := 91) rfl ?_); refine goesQ (some 5) Try.func91 #[.int .i64 a0_0, .int .i64 0, .int .i64 7] ?_; (with_reducible refine (spec_l1In.calls a0_0 0 7 true _ A2.out).mono ?_); rintro e w' ⟨rfl, ⟨nd, rfl⟩⟩; refine ⟨_, rfl, ?_⟩))
   go_ret
   exact ⟨eq_, bq⟩
  ·rw [if_neg c4] at H
   have c4b0 : (a0_1 == 0) = false := beq_eq_false_iff_ne.mpr c4
   have c4b1 : (a0_1 != 0) = true := bne_iff_ne.mpr c4
   by_cases c7 : a0_1 = 1
   ·rw [if_pos c7] at H
    have c7b0 : (a0_1 == 1) = true := beq_iff_eq.mpr c7
    have c7b1 : (a0_1 != 1) = false := bne_eq_false_iff_eq.mpr c7
    clear c7
    obtain ⟨t110, A8, H⟩ := bindq H
    try dsimp only at H
    obtain rfl := Option.some.inj H
    go_enter Try.func92, Try.ntmps92
    go_wp2_with (first | ((with_reducible refine gate_dst (N := 1) rfl ?_); refine box_event ?hg (N := 1) ?hd (cs := #[.int .i64 a0_0, .int .i64 a0_1]) (t := 58) ?hr ?_; (case hd => rfl); (case hg => rfl); (case hr => first | (go_simp; done) | (go_simp; rfl)); intro gb108 hg w9 hbox hb; have BK108 := am (hbox); have GW108 := am (gq hg); have GE108 := am (gq hg); replace HB := sb hb; clear hb hbox hg; have ⟨hcz10_0, hcz10_1, hfz10_0, hfz10_1⟩ := bc2 BK108) | ((with_reducible refine gate_callee (f := 91) rfl ?_); refine goesQ (some 5) Try.func91 #[.int .i64 a0_0, .int .i64 0, .int .i64 7] ?_; (with_reducible refine (spec_l1In.calls a0_0 0 7 true _ A2.out).mono ?_); rintro e w' ⟨rfl, ⟨nd, rfl⟩⟩; refine ⟨_, rfl, ?_⟩) | (go_at_call 107; (with_reducible refine (spec_paTurning.calls a0_0 a0_1 t110 _ A8.out).mono ?_); rintro e w11 ⟨rfl, hb⟩; replace BK108 := zb BK108 hb; replace HB := sb hb; (try clear hb)))
    go_ret
    exact ⟨eq_, bq⟩
   ·rw [if_neg c7] at H
    have c7b0 : (a0_1 == 1) = false := beq_eq_false_iff_ne.mpr c7
    have c7b1 : (a0_1 != 1) = true := bne_iff_ne.mpr c7
    obtain rfl := Option.some.inj H
    go_enter Try.func92, Try.ntmps92
    go_wp2_with (first | ((with_reducible refine gate_dst (N := 1) rfl ?_); refine box_event ?hg (N := 1) ?hd (cs := #[.int .i64 a0_0, .int .i64 a0_1]) (t := 58) ?hr ?_; (case hd => rfl); (case hg => rfl); (case hr => first | (go_simp; done) | (go_simp; rfl)); intro gb108 hg w12 hbox hb; have BK108 := am (hbox); have GW108 := am (gq hg); have GE108 := am (gq hg); replace HB := sb hb; clear hb hbox hg; have ⟨hcz13_0, hcz13_1, hfz13_0, hfz13_1⟩ := bc2 BK108) | ((with_reducible refine gate_callee (f := 91) rfl ?_); refine goesQ (some 5) Try.func91 #[.int .i64 a0_0, .int .i64 0, .int .i64 7] ?_; (with_reducible refine (spec_l1In.calls a0_0 0 7 true _ A2.out).mono ?_); rintro e w' ⟨rfl, ⟨nd, rfl⟩⟩; refine ⟨_, rfl, ?_⟩))
    go_ret
    exact ⟨eq_, bq⟩
 ·replace c3 := Bool.eq_false_iff.mpr c3
  subst c3
  rw [if_neg (show ¬ (false = true) by decide)] at H
  try dsimp only at H
  obtain rfl := Option.some.inj H
  go_enter Try.func92, Try.ntmps92
  go_wp2_with (first | ((with_reducible refine gate_dst (N := 1) rfl ?_); refine box_event ?hg (N := 1) ?hd (cs := #[.int .i64 a0_0, .int .i64 a0_1]) (t := 58) ?hr ?_; (case hd => rfl); (case hg => rfl); (case hr => first | (go_simp; done) | (go_simp; rfl)); intro gb108 hg w14 hbox hb; have BK108 := am (hbox); have GW108 := am (gq hg); have GE108 := am (gq hg); replace HB := sb hb; clear hb hbox hg; have ⟨hcz15_0, hcz15_1, hfz15_0, hfz15_1⟩ := bc2 BK108) | ((with_reducible refine gate_callee (f := 91) rfl ?_); refine goesQ (some 5) Try.func91 #[.int .i64 a0_0, .int .i64 0, .int .i64 7] ?_; (with_reducible refine (spec_l1In.calls a0_0 0 7 false _ A2.out).mono ?_); rintro e w' ⟨rfl, ⟨nd, rfl⟩⟩; refine ⟨_, rfl, ?_⟩))
  go_ret
  exact ⟨eq_, bq⟩


/-! ### spec_boGood: function 64 -/
mutual
def spec_boGood.j0 : Nat → Bool → Int → Int → List (S58) → Option (Bool)
 | 0, _, _, _, _ => none
 | k + 1, x25, x112000, x112001, x112002 => if x25 = true then (some false) else (spec_boGood.l0 k x112002 (x112002.length : Int) 0)
def spec_boGood.l0 : Nat → List (S58) → Int → Int → Option (Bool)
 | 0, _, _, _ => none
 | k + 1, x27, x28, x29 => if x29 < x28 then (if 0 ≤ x29 then (if x29 < (x27.length : Int) then ((spec_paGood.f ((rd_T58 x27 x29).f0) ((rd_T58 x27 x29).f1)).bind fun t116 => (if t116 = true then (spec_boGood.l0 k x27 x28 (wrap64 (x29 + 1))) else (some false))) else (none)) else (none)) else (some true)
end
def spec_boGood.f (k : Nat) (a0_0 : Int) (a0_1 : Int) (l0_2 : List (S58)) : Option (Bool) := (spec_l1In.f a0_0 1 10).bind fun t112 => (if t112 = true then ((spec_l1In.f a0_1 1 9).bind fun t113 => (if t113 = true then (spec_boGood.j0 k ((l0_2.length : Int) != (wrap64 (a0_0 * a0_1))) a0_0 a0_1 l0_2) else (spec_boGood.j0 k true a0_0 a0_1 l0_2))) else (spec_boGood.j0 k true a0_0 a0_1 l0_2))
theorem spec_boGood.mono_l : ∀ k, (∀ y0 y1 y2 y3, LeO (spec_boGood.j0 k y0 y1 y2 y3) (spec_boGood.j0 (k + 1) y0 y1 y2 y3)) ∧ (∀ y0 y1 y2, LeO (spec_boGood.l0 k y0 y1 y2) (spec_boGood.l0 (k + 1) y0 y1 y2))
 | 0 => ⟨fun _ _ _ _ r h => by simp [spec_boGood.j0] at h, fun _ _ _ r h => by simp [spec_boGood.l0] at h⟩
 | k + 1 => by
  obtain ⟨ih0, ih1⟩ := spec_boGood.mono_l k
  refine ⟨?_, ?_⟩
  ·intro y0 y1 y2 y3
   unfold spec_boGood.j0
   repeat' first
   | (with_reducible exact ih0 _ _ _ _)
   | (with_reducible exact ih1 _ _ _)
   | (with_reducible exact LeO.refl _)
   | (with_reducible exact LeO.none _)
   | (with_reducible refine LeO.ite ?_ ?_)
   | (with_reducible refine LeO.bind ?_ (fun _ => ?_))
   | exact ih0 _ _ _ _
   | exact ih1 _ _ _
   | exact LeO.none _
   | refine LeO.ite ?_ ?_
   | refine LeO.bind ?_ (fun _ => ?_)
  ·intro y0 y1 y2
   unfold spec_boGood.l0
   repeat' first
   | (with_reducible exact ih0 _ _ _ _)
   | (with_reducible exact ih1 _ _ _)
   | (with_reducible exact LeO.refl _)
   | (with_reducible exact LeO.none _)
   | (with_reducible refine LeO.ite ?_ ?_)
   | (with_reducible refine LeO.bind ?_ (fun _ => ?_))
   | exact ih0 _ _ _ _
   | exact ih1 _ _ _
   | exact LeO.none _
   | refine LeO.ite ?_ ?_
   | refine LeO.bind ?_ (fun _ => ?_)
theorem spec_boGood.mono : ∀ a0 a1 a2 k, LeO (spec_boGood.f k a0 a1 a2) (spec_boGood.f (k + 1) a0 a1 a2) := by
 intro a0 a1 a2 k
 obtain ⟨ih0, ih1⟩ := spec_boGood.mono_l k
 unfold spec_boGood.f
 repeat' first
   | (with_reducible exact ih0 _ _ _ _)
   | (with_reducible exact ih1 _ _ _)
   | (with_reducible exact LeO.refl _)
   | (with_reducible exact LeO.none _)
   | (with_reducible refine LeO.ite ?_ ?_)
   | (with_reducible refine LeO.bind ?_ (fun _ => ?_))
   | exact ih0 _ _ _ _
   | exact ih1 _ _ _
   | exact LeO.none _
   | refine LeO.ite ?_ ?_
   | refine LeO.bind ?_ (fun _ => ?_)
set_option maxHeartbeats 8000000 in
set_option maxRecDepth 100000 in
theorem spec_boGood.calls (k : Nat) (a0_0 : Int) (a0_1 : Int) (A0_2 : Option Addr) (c0_2 : Nat) (l0_2 : List (S58)) (r : Bool) (w : World) (hr0_2 : Kd.C k58 w A0_2 l0_2.length l0_2) (hc0_2 : l0_2.length ≤ c0_2) (h : spec_boGood.f k a0_0 a0_1 l0_2 = some r) :
  Calls Try.prog 64 #[.agg #[.int .i64 a0_0, .int .i64 a0_1, .slice A0_2 l0_2.length c0_2]] w fun e w' => e = .returned (.bool r) ∧ Below w.heap.size w w' := by
 have hu32 := Try.underlying32
 have hu58 := Try.underlying58
 have HR0_2 := am hr0_2
 have HC0_2 := am hc0_2
 clear hr0_2 hc0_2
 have HB := am (Below.refl w.heap.size w)
 have H : ((spec_l1In.f a0_0 1 10).bind fun t112 => (if t112 = true then ((spec_l1In.f a0_1 1 9).bind fun t113 => (if t113 = true then (spec_boGood.j0 k ((l0_2.length : Int) != (wrap64 (a0_0 * a0_1))) a0_0 a0_1 l0_2) else (spec_boGood.j0 k true a0_0 a0_1 l0_2))) else (spec_boGood.j0 k true a0_0 a0_1 l0_2))) = some r := h
 clear h
 have HC2 := am H
 clear H
 go_enter Try.func64, Try.ntmps64
 go_upto_region 1 with (first | ((with_reducible refine gate_dst (N := 1) rfl ?_); (try (refine gate_guard (by rfl) ?_; dsimp only)); refine box_event ?hg (N := 1) ?hd (cs := #[.int .i64 a0_0, .int .i64 a0_1, .slice A0_2 l0_2.length c0_2]) (t := 32) ?hr ?_; (case hd => rfl); (case hg => rfl); (case hr => first | (go_simp; done) | (go_simp; rfl)); intro gb111 hg w3 hbox hb; have BK111 := am (hbox); have GW111 := am (gq hg); have GE111 := am (gq hg); replace HB := sb hb; clear hb hbox hg))
 (try simp only [Act.put, List.setIfInBounds_toArray, List.set_cons_zero, List.set_cons_succ])
 go_cut [25] (fun v25 wc => ∃ (kq : Nat) (x25_1 : Bool), v25 = .bool x25_1 ∧ Aside0 (spec_boGood.j0 kq x25_1 a0_0 a0_1 l0_2 = some r) ∧ Aside0 (kq ≤ k) ∧ Aside0 (wc.heap[gb111]? = some (.cells #[.int .i64 a0_0, .int .i64 a0_1, (.slice A0_2 l0_2.length c0_2)] 32 (0, 0))) ∧ Aside0 (Below w.heap.size w wc))
 case first =>
  have H := HC2.out
  clear HC2
  obtain ⟨t112, A4, H⟩ := bindq H
  try dsimp only at H
  by_cases c5 : t112 = true
  ·subst c5
   rw [if_pos rfl] at H
   try dsimp only at H
   obtain ⟨t113, A6, H⟩ := bindq H
   try dsimp only at H
   by_cases c7 : t113 = true
   ·subst c7
    rw [if_pos rfl] at H
    try dsimp only at H
    have H' := am H
    clear H
    have ⟨hcz8_0, hcz8_1, hcz8_2, hfz8_0, hfz8_1, hfz8_2⟩ := bc3 BK111
    go_wp2_with (first | ((with_reducible refine gate_callee (f := 91) rfl ?_); refine goesQ (some 7) Try.func91 #[.int .i64 a0_0, .int .i64 1, .int .i64 10] ?_; (with_reducible refine (spec_l1In.calls a0_0 1 10 true _ A4.out).mono ?_); rintro e w' ⟨rfl, ⟨nd, rfl⟩⟩; refine ⟨_, rfl, ?_⟩) | (go_at_call 91; (with_reducible refine (spec_l1In.calls a0_1 1 9 true _ A6.out).mono ?_); rintro e w' ⟨rfl, ⟨nd, rfl⟩⟩))
    go_meet
    case rel => exact ⟨_, (((l0_2.length : Int) != (wrap64 (a0_0 * a0_1)))), sq, H', ⟨by first | omega | exact Nat.le_refl _⟩, ⟨zq BK111⟩, ⟨bq⟩⟩
   ·replace c7 := Bool.eq_false_iff.mpr c7
    subst c7
    rw [if_neg (show ¬ (false = true) by decide)] at H
    try dsimp only at H
    have H' := am H
    clear H
    have ⟨hcz9_0, hcz9_1, hcz9_2, hfz9_0, hfz9_1, hfz9_2⟩ := bc3 BK111
    go_wp2_with (first | ((with_reducible refine gate_callee (f := 91) rfl ?_); refine goesQ (some 7) Try.func91 #[.int .i64 a0_0, .int .i64 1, .int .i64 10] ?_; (with_reducible refine (spec_l1In.calls a0_0 1 10 true _ A4.out).mono ?_); rintro e w' ⟨rfl, ⟨nd, rfl⟩⟩; refine ⟨_, rfl, ?_⟩) | (go_at_call 91; (with_reducible refine (spec_l1In.calls a0_1 1 9 false _ A6.out).mono ?_); rintro e w' ⟨rfl, ⟨nd, rfl⟩⟩))
    go_meet
    case rel => exact ⟨_, (true), sq, H', ⟨by first | omega | exact Nat.le_refl _⟩, ⟨zq BK111⟩, ⟨bq⟩⟩
  ·replace c5 := Bool.eq_false_iff.mpr c5
   subst c5
   rw [if_neg (show ¬ (false = true) by decide)] at H
   try dsimp only at H
   have H' := am H
   clear H
   have ⟨hcz10_0, hcz10_1, hcz10_2, hfz10_0, hfz10_1, hfz10_2⟩ := bc3 BK111
   go_wp2_with (first | ((with_reducible refine gate_callee (f := 91) rfl ?_); refine goesQ (some 7) Try.func91 #[.int .i64 a0_0, .int .i64 1, .int .i64 10] ?_; (with_reducible refine (spec_l1In.calls a0_0 1 10 false _ A4.out).mono ?_); rintro e w' ⟨rfl, ⟨nd, rfl⟩⟩; refine ⟨_, rfl, ?_⟩))
   go_meet
   case rel => exact ⟨_, (true), sq, H', ⟨by first | omega | exact Nat.le_refl _⟩, ⟨zq BK111⟩, ⟨bq⟩⟩
 case rest =>
  clear HC2
  try clear c5
  try clear c7
  try clear hcz10_0 hcz10_1 hcz10_2 hfz10_0 hfz10_1 hfz10_2
  try clear hcz8_0 hcz8_1 hcz8_2 hfz8_0 hfz8_1 hfz8_2
  try clear hcz9_0 hcz9_1 hcz9_2 hfz9_0 hfz9_1 hfz9_2
  obtain ⟨kq, x25_1, rfl, HA, HJ1, BK111, HB⟩ := hcut
  cases kq with
  | zero => exact absurd HA.out (by simp [spec_boGood.j0])
  | succ kj1 =>
   have H := HA.out
   clear HA
   simp only [spec_boGood.j0] at H
   by_cases c11 : x25_1 = true
   ·subst c11
    rw [if_pos rfl] at H
    try dsimp only at H
    obtain rfl := Option.some.inj H
    go_wp2
    go_ret
    exact ⟨eq_, bq⟩
   ·replace c11 := Bool.eq_false_iff.mpr c11
    subst c11
    rw [if_neg (show ¬ (false = true) by decide)] at H
    try dsimp only at H
    have H' := am H
    clear H
    have ⟨hcz12_0, hcz12_1, hcz12_2, hfz12_0, hfz12_1, hfz12_2⟩ := bc3 BK111
    go_wp2
    go_loopg [29] kj1 (fun kq v29 w' => ∃ (x29_2 : Int), v29 = .int .i64 x29_2 ∧ Aside0 (spec_boGood.l0 kq l0_2 (l0_2.length : Int) x29_2 = some r) ∧ Aside0 (kq ≤ kj1) ∧ Aside0 (w'.heap[gb111]? = some (.cells #[.int .i64 a0_0, .int .i64 a0_1, (.slice A0_2 l0_2.length c0_2)] 32 (0, 0))) ∧ Aside0 (Below w.heap.size w w'))
    case atStart => exact ⟨(0), sq, H', ⟨Nat.le_refl _⟩, ⟨zq BK111⟩, ⟨bq⟩⟩
    case round =>
     clear H'
     try clear c5
     try clear c7
     try clear c11
     try clear hcz10_0 hcz10_1 hcz10_2 hfz10_0 hfz10_1 hfz10_2
     try clear hcz12_0 hcz12_1 hcz12_2 hfz12_0 hfz12_1 hfz12_2
     try clear hcz8_0 hcz8_1 hcz8_2 hfz8_0 hfz8_1 hfz8_2
     try clear hcz9_0 hcz9_1 hcz9_2 hfz9_0 hfz9_1 hfz9_2
     obtain ⟨x29_2, rfl, HA, HK2, BK111, HB⟩ := hrel
     cases gk with
     | zero => exact absurd HA.out (by simp [spec_boGood.l0])
     | succ k2 =>
      have H := HA.out
      clear HA
      simp only [spec_boGood.l0] at H
      by_cases c13 : x29_2 < (l0_2.length : Int)
      ·rw [if_pos c13] at H
       have c13b0 : decide (x29_2 < (l0_2.length : Int)) = true := decide_eq_true c13
       clear c13
       by_cases c14 : 0 ≤ x29_2
       ·rw [if_pos c14] at H
        have c14b0 : decide (0 ≤ x29_2) = true := decide_eq_true c14
        clear c14
        by_cases c15 : x29_2 < (l0_2.length : Int)
        ·rw [if_pos c15] at H
         have c15b0 : decide (x29_2 < (l0_2.length : Int)) = true := decide_eq_true c15
         clear c15
         obtain ⟨t116, A16, H⟩ := bindq H
         try dsimp only at H
         by_cases c17 : t116 = true
         ·subst c17
          rw [if_pos rfl] at H
          try dsimp only at H
          have H' := am H
          clear H
          have p114 : 0 ≤ (x29_2 : Int) := of_decide_eq_true aq
          have q114 : x29_2 < (l0_2.length : Int) := of_decide_eq_true aq
          obtain ⟨ad114, e114, hx114_0, hx114_1⟩ := at_T58 HR0_2.out x29_2 p114 q114
          cases e114
          replace hx114_0 := (HB.out.cell (World.block_lt_of_cell? w _ hx114_0)).trans hx114_0
          replace hx114_1 := (HB.out.cell (World.block_lt_of_cell? w _ hx114_1)).trans hx114_1
          replace p114 := eq_true p114
          replace q114 := eq_true q114
          go_wp2_with (first | ((with_reducible refine gate_dst (N := 4) rfl ?_); (try (refine gate_guard (by rfl) ?_; dsimp only)); refine box_event ?hg (N := 4) ?hd (cs := #[.int .i64 0, .int .i64 0]) (t := 58) ?hr ?_; (case hd => rfl); (case hg => rfl); (case hr => first | (go_simp; done) | (go_simp; rfl)); intro gb115 hg w18 hbox hb; have BK115 := am (hbox); have GW115 := am (gq hg); have GE115 := am (gq hg); replace HB := sb hb; have NB111_115 := nl hg BK111; have NB115_111 := ng hg BK111; replace BK111 := zb BK111 hb; clear hb hbox hg; have hnb19 := NB115_111.out; have hnc19 := NB111_115.out; have ⟨hcz20_0, hcz20_1, hfz20_0, hfz20_1⟩ := bc2 BK115) | ((with_reducible refine gate_callee (f := 92) rfl ?_); refine goesQ (some 34) Try.func92 #[.agg #[.int .i64 ((rd_T58 l0_2 x29_2).f0), .int .i64 ((rd_T58 l0_2 x29_2).f1)]] ?_; (with_reducible refine (spec_paGood.calls ((rd_T58 l0_2 x29_2).f0) ((rd_T58 l0_2 x29_2).f1) true _ A16.out).mono ?_); rintro e w21 ⟨rfl, hb⟩; refine ⟨_, rfl, ?_⟩; replace BK111 := am (blk_below (g := gb111) (o := .cells #[.int .i64 a0_0, .int .i64 a0_1, .slice (some ad114) l0_2.length c0_2] 32 (0, 0)) (zp BK111) hb); replace BK115 := am (blk_below (g := gb115) (o := .cells #[.int .i64 ((rd_T58 l0_2 x29_2).f0), .int .i64 ((rd_T58 l0_2 x29_2).f1)] 58 (0, 0)) (zp BK115) hb); replace HB := sb hb; (try clear hb)))
          go_roundg k2
          case measure => have := HJ1.out; have := HK2.out; omega
          case rel => exact ⟨(wrap64 (x29_2 + 1)), sq, H', ⟨by have := HJ1.out; have := HK2.out; omega⟩, ⟨zq BK111⟩, ⟨bq⟩⟩
         ·replace c17 := Bool.eq_false_iff.mpr c17
          subst c17
          rw [if_neg (show ¬ (false = true) by decide)] at H
          try dsimp only at H
          obtain rfl := Option.some.inj H
          have p114 : 0 ≤ (x29_2 : Int) := of_decide_eq_true aq
          have q114 : x29_2 < (l0_2.length : Int) := of_decide_eq_true aq
          obtain ⟨ad114, e114, hx114_0, hx114_1⟩ := at_T58 HR0_2.out x29_2 p114 q114
          cases e114
          replace hx114_0 := (HB.out.cell (World.block_lt_of_cell? w _ hx114_0)).trans hx114_0
          replace hx114_1 := (HB.out.cell (World.block_lt_of_cell? w _ hx114_1)).trans hx114_1
          replace p114 := eq_true p114
          replace q114 := eq_true q114
          go_wp2_with (first | ((with_reducible refine gate_dst (N := 4) rfl ?_); (try (refine gate_guard (by rfl) ?_; dsimp only)); refine box_event ?hg (N := 4) ?hd (cs := #[.int .i64 0, .int .i64 0]) (t := 58) ?hr ?_; (case hd => rfl); (case hg => rfl); (case hr => first | (go_simp; done) | (go_simp; rfl)); intro gb115 hg w22 hbox hb; have BK115 := am (hbox); have GW115 := am (gq hg); have GE115 := am (gq hg); replace HB := sb hb; have NB111_115 := nl hg BK111; have NB115_111 := ng hg BK111; replace BK111 := zb BK111 hb; clear hb hbox hg; have hnb23 := NB115_111.out; have hnc23 := NB111_115.out; have ⟨hcz24_0, hcz24_1, hfz24_0, hfz24_1⟩ := bc2 BK115) | ((with_reducible refine gate_callee (f := 92) rfl ?_); refine goesQ (some 34) Try.func92 #[.agg #[.int .i64 ((rd_T58 l0_2 x29_2).f0), .int .i64 ((rd_T58 l0_2 x29_2).f1)]] ?_; (with_reducible refine (spec_paGood.calls ((rd_T58 l0_2 x29_2).f0) ((rd_T58 l0_2 x29_2).f1) false _ A16.out).mono ?_); rintro e w25 ⟨rfl, hb⟩; refine ⟨_, rfl, ?_⟩; replace BK111 := am (blk_below (g := gb111) (o := .cells #[.int .i64 a0_0, .int .i64 a0_1, .slice (some ad114) l0_2.length c0_2] 32 (0, 0)) (zp BK111) hb); replace BK115 := am (blk_below (g := gb115) (o := .cells #[.int .i64 ((rd_T58 l0_2 x29_2).f0), .int .i64 ((rd_T58 l0_2 x29_2).f1)] 58 (0, 0)) (zp BK115) hb); replace HB := sb hb; (try clear hb)))
          go_ret
          exact ⟨eq_, bq⟩
        ·rw [if_neg c15] at H
         exact absurd H (by simp)
       ·rw [if_neg c14] at H
        exact absurd H (by simp)
      ·rw [if_neg c13] at H
       have c13b0 : decide (x29_2 < (l0_2.length : Int)) = false := decide_eq_false c13
       clear c13
       obtain rfl := Option.some.inj H
       go_wp2
       go_ret
       exact ⟨eq_, bq⟩


/-! ### spec_seAct: function 94 -/
def spec_seAct.j0 : Nat → Bool → Int → Int → Int → Int → Int → Option (Bool)
 | 0, _, _, _, _, _, _ => none
 | k + 1, x20, x119000, x119001, x119002, x119003, x119004 => if x20 = true then (some false) else (if x119000 = 1 then ((spec_paGood.f x119003 x119004).bind fun t121 => (some t121)) else (if x119000 = 2 then (if x119001 = 0 then (some (x119003 == 0 && (x119004 == 0))) else (some false)) else (some (x119000 == 3 && (x119001 == 0 && (x119002 == 0 && ((x119003 == 0 && (x119004 == 0)))))))))
def spec_seAct.f (k : Nat) (a0_0 : Int) (a0_1 : Int) (l0_2 : List (S58)) (a1_0 : Int) (a1_1 : Int) (a1_2 : Int) (a1_3 : Int) (a1_4 : Int) : Option (Bool) := (spec_l1In.f a1_1 0 (wrap64 (a0_0 - 1))).bind fun t119 => (if t119 = true then ((spec_l1In.f a1_2 0 (wrap64 (a0_1 - 1))).bind fun t120 => (spec_seAct.j0 k (!t120) a1_0 a1_1 a1_2 a1_3 a1_4)) else (spec_seAct.j0 k true a1_0 a1_1 a1_2 a1_3 a1_4))
theorem spec_seAct.mono_l : ∀ k, (∀ y0 y1 y2 y3 y4 y5, LeO (spec_seAct.j0 k y0 y1 y2 y3 y4 y5) (spec_seAct.j0 (k + 1) y0 y1 y2 y3 y4 y5))
 | 0 => fun _ _ _ _ _ _ r h => by simp [spec_seAct.j0] at h
 | k + 1 => by
  have ih0 := spec_seAct.mono_l k
  ·intro y0 y1 y2 y3 y4 y5
   unfold spec_seAct.j0
   repeat' first
   | (with_reducible exact ih0 _ _ _ _ _ _)
   | (with_reducible exact LeO.refl _)
   | (with_reducible exact LeO.none _)
   | (with_reducible refine LeO.ite ?_ ?_)
   | (with_reducible refine LeO.bind ?_ (fun _ => ?_))
   | exact ih0 _ _ _ _ _ _
   | exact LeO.none _
   | refine LeO.ite ?_ ?_
   | refine LeO.bind ?_ (fun _ => ?_)
theorem spec_seAct.mono : ∀ a0 a1 a2 a3 a4 a5 a6 a7 k, LeO (spec_seAct.f k a0 a1 a2 a3 a4 a5 a6 a7) (spec_seAct.f (k + 1) a0 a1 a2 a3 a4 a5 a6 a7) := by
 intro a0 a1 a2 a3 a4 a5 a6 a7 k
 have ih0 := spec_seAct.mono_l k
 unfold spec_seAct.f
 repeat' first
   | (with_reducible exact ih0 _ _ _ _ _ _)
   | (with_reducible exact LeO.refl _)
   | (with_reducible exact LeO.none _)
   | (with_reducible refine LeO.ite ?_ ?_)
   | (with_reducible refine LeO.bind ?_ (fun _ => ?_))
   | exact ih0 _ _ _ _ _ _
   | exact LeO.none _
   | refine LeO.ite ?_ ?_
   | refine LeO.bind ?_ (fun _ => ?_)
set_option maxHeartbeats 8000000 in
set_option maxRecDepth 100000 in
theorem spec_seAct.calls (k : Nat) (a0_0 : Int) (a0_1 : Int) (A0_2 : Option Addr) (c0_2 : Nat) (l0_2 : List (S58)) (a1_0 : Int) (a1_1 : Int) (a1_2 : Int) (a1_3 : Int) (a1_4 : Int) (r : Bool) (w : World) (hr0_2 : Kd.C k58 w A0_2 l0_2.length l0_2) (hc0_2 : l0_2.length ≤ c0_2) (h : spec_seAct.f k a0_0 a0_1 l0_2 a1_0 a1_1 a1_2 a1_3 a1_4 = some r) :
  Calls Try.prog 94 #[.agg #[.int .i64 a0_0, .int .i64 a0_1, .slice A0_2 l0_2.length c0_2], .agg #[.int .i64 a1_0, .int .i64 a1_1, .int .i64 a1_2, .int .i64 a1_3, .int .i64 a1_4]] w fun e w' => e = .returned (.bool r) ∧ Below w.heap.size w w' := by
 have hu32 := Try.underlying32
 have hu60 := Try.underlying60
 have hu58 := Try.underlying58
 have HR0_2 := am hr0_2
 have HC0_2 := am hc0_2
 clear hr0_2 hc0_2
 have HB := am (Below.refl w.heap.size w)
 have H : ((spec_l1In.f a1_1 0 (wrap64 (a0_0 - 1))).bind fun t119 => (if t119 = true then ((spec_l1In.f a1_2 0 (wrap64 (a0_1 - 1))).bind fun t120 => (spec_seAct.j0 k (!t120) a1_0 a1_1 a1_2 a1_3 a1_4)) else (spec_seAct.j0 k true a1_0 a1_1 a1_2 a1_3 a1_4))) = some r := h
 clear h
 have HC3 := am H
 clear H
 go_enter Try.func94, Try.ntmps94
 go_upto_region 1 with (first | ((with_reducible refine gate_dst (N := 2) rfl ?_); refine box_event ?hg (N := 2) ?hd (cs := #[.int .i64 a0_0, .int .i64 a0_1, .slice A0_2 l0_2.length c0_2]) (t := 32) ?hr ?_; (case hd => rfl); (case hg => rfl); (case hr => first | (go_simp; done) | (go_simp; rfl)); intro gb117 hg w4 hbox hb; have BK117 := am (hbox); have GW117 := am (gq hg); have GE117 := am (gq hg); replace HB := sb hb; clear hb hbox hg) | ((with_reducible refine gate_dst (N := 3) rfl ?_); refine box_event ?hg (N := 3) ?hd (cs := #[.int .i64 a1_0, .int .i64 a1_1, .int .i64 a1_2, .int .i64 a1_3, .int .i64 a1_4]) (t := 60) ?hr ?_; (case hd => rfl); (case hg => rfl); (case hr => first | (go_simp; done) | (go_simp; rfl)); intro gb118 hg w5 hbox hb; have BK118 := am (hbox); have GW118 := am (gq hg); have GE118 := am (gq hg); replace HB := sb hb; have NB117_118 := nl hg BK117; have NB118_117 := ng hg BK117; replace BK117 := zb BK117 hb; clear hb hbox hg))
 (try simp only [Act.put, List.setIfInBounds_toArray, List.set_cons_zero, List.set_cons_succ])
 go_cut [20] (fun v20 wc => ∃ (kq : Nat) (x20_2 : Bool), v20 = .bool x20_2 ∧ Aside0 (spec_seAct.j0 kq x20_2 a1_0 a1_1 a1_2 a1_3 a1_4 = some r) ∧ Aside0 (kq ≤ k) ∧ Aside0 (wc.heap[gb117]? = some (.cells #[.int .i64 a0_0, .int .i64 a0_1, (.slice A0_2 l0_2.length c0_2)] 32 (0, 0))) ∧ Aside0 (wc.heap[gb118]? = some (.cells #[.int .i64 a1_0, .int .i64 a1_1, .int .i64 a1_2, .int .i64 a1_3, .int .i64 a1_4] 60 (0, 0))) ∧ Aside0 (Below w.heap.size w wc))
 case first =>
  have H := HC3.out
  clear HC3
  obtain ⟨t119, A6, H⟩ := bindq H
  try dsimp only at H
  by_cases c7 : t119 = true
  ·subst c7
   rw [if_pos rfl] at H
   try dsimp only at H
   obtain ⟨t120, A8, H⟩ := bindq H
   try dsimp only at H
   have H' := am H
   clear H
   have hnb9 := NB118_117.out
   have hnc9 := NB117_118.out
   have ⟨hcz10_0, hcz10_1, hcz10_2, hcz10_3, hcz10_4, hfz10_0, hfz10_1, hfz10_2, hfz10_3, hfz10_4⟩ := bc5 BK118
   have ⟨hcz11_0, hcz11_1, hcz11_2, hfz11_0, hfz11_1, hfz11_2⟩ := bc3 BK117
   go_wp2_with (first | ((with_reducible refine gate_callee (f := 91) rfl ?_); refine goesQ (some 10) Try.func91 #[.int .i64 a1_1, .int .i64 0, .int .i64 (wrap64 (a0_0 - 1))] ?_; (with_reducible refine (spec_l1In.calls a1_1 0 (wrap64 (a0_0 - 1)) true _ A6.out).mono ?_); rintro e w' ⟨rfl, ⟨nd, rfl⟩⟩; refine ⟨_, rfl, ?_⟩) | (go_at_call 91; (with_reducible refine (spec_l1In.calls a1_2 0 (wrap64 (a0_1 - 1)) t120 _ A8.out).mono ?_); rintro e w' ⟨rfl, ⟨nd, rfl⟩⟩))
   go_meet
   case rel => exact ⟨_, (!t120), sq, H', ⟨by first | omega | exact Nat.le_refl _⟩, ⟨zq BK117⟩, ⟨zq BK118⟩, ⟨bq⟩⟩
  ·replace c7 := Bool.eq_false_iff.mpr c7
   subst c7
   rw [if_neg (show ¬ (false = true) by decide)] at H
   try dsimp only at H
   have H' := am H
   clear H
   have hnb12 := NB118_117.out
   have hnc12 := NB117_118.out
   have ⟨hcz13_0, hcz13_1, hcz13_2, hcz13_3, hcz13_4, hfz13_0, hfz13_1, hfz13_2, hfz13_3, hfz13_4⟩ := bc5 BK118
   have ⟨hcz14_0, hcz14_1, hcz14_2, hfz14_0, hfz14_1, hfz14_2⟩ := bc3 BK117
   go_wp2_with (first | ((with_reducible refine gate_callee (f := 91) rfl ?_); refine goesQ (some 10) Try.func91 #[.int .i64 a1_1, .int .i64 0, .int .i64 (wrap64 (a0_0 - 1))] ?_; (with_reducible refine (spec_l1In.calls a1_1 0 (wrap64 (a0_0 - 1)) false _ A6.out).mono ?_); rintro e w' ⟨rfl, ⟨nd, rfl⟩⟩; refine ⟨_, rfl, ?_⟩))
   go_meet
   case rel => exact ⟨_, (true), sq, H', ⟨by first | omega | exact Nat.le_refl _⟩, ⟨zq BK117⟩, ⟨zq BK118⟩, ⟨bq⟩⟩
 case rest =>
  clear HC3
  try clear c7
  try clear hcz10_0 hcz10_1 hcz10_2 hcz10_3 hcz10_4 hfz10_0 hfz10_1 hfz10_2 hfz10_3 hfz10_4
  try clear hcz11_0 hcz11_1 hcz11_2 hfz11_0 hfz11_1 hfz11_2
  try clear hcz13_0 hcz13_1 hcz13_2 hcz13_3 hcz13_4 hfz13_0 hfz13_1 hfz13_2 hfz13_3 hfz13_4
  try clear hcz14_0 hcz14_1 hcz14_2 hfz14_0 hfz14_1 hfz14_2
  obtain ⟨kq, x20_2, rfl, HA, HJ2, BK117, BK118, HB⟩ := hcut
  cases kq with
  | zero => exact absurd HA.out (by simp [spec_seAct.j0])
  | succ kj2 =>
   have H := HA.out
   clear HA
   simp only [spec_seAct.j0] at H
   by_cases c15 : x20_2 = true
   ·subst c15
    rw [if_pos rfl] at H
    try dsimp only at H
    obtain rfl := Option.some.inj H
    go_wp2
    all_goals (go_ret; exact ⟨eq_, bq⟩)
   ·replace c15 := Bool.eq_false_iff.mpr c15
    subst c15
    rw [if_neg (show ¬ (false = true) by decide)] at H
    try dsimp only at H
    by_cases c16 : a1_0 = 1
    ·rw [if_pos c16] at H
     have c16b0 : (a1_0 == 1) = true := beq_iff_eq.mpr c16
     have c16b1 : (a1_0 != 1) = false := bne_eq_false_iff_eq.mpr c16
     clear c16
     obtain ⟨t121, A17, H⟩ := bindq H
     try dsimp only at H
     obtain rfl := Option.some.inj H
     have hnb18 := NB118_117.out
     have hnc18 := NB117_118.out
     have ⟨hcz19_0, hcz19_1, hcz19_2, hcz19_3, hcz19_4, hfz19_0, hfz19_1, hfz19_2, hfz19_3, hfz19_4⟩ := bc5 BK118
     go_wp2_with (first | ((with_reducible refine gate_callee (f := 92) rfl ?_); refine goesQ (some 27) Try.func92 #[.agg #[.int .i64 a1_3, .int .i64 a1_4]] ?_; (with_reducible refine (spec_paGood.calls a1_3 a1_4 t121 _ A17.out).mono ?_); rintro e w20 ⟨rfl, hb⟩; refine ⟨_, rfl, ?_⟩; replace BK117 := zb BK117 hb; replace BK118 := zb BK118 hb; replace HB := sb hb; (try clear hb)))
     go_ret
     exact ⟨eq_, bq⟩
    ·rw [if_neg c16] at H
     have c16b0 : (a1_0 == 1) = false := beq_eq_false_iff_ne.mpr c16
     have c16b1 : (a1_0 != 1) = true := bne_iff_ne.mpr c16
     by_cases c21 : a1_0 = 2
     ·rw [if_pos c21] at H
      have c21b0 : (a1_0 == 2) = true := beq_iff_eq.mpr c21
      have c21b1 : (a1_0 != 2) = false := bne_eq_false_iff_eq.mpr c21
      clear c21
      by_cases c22 : a1_1 = 0
      ·rw [if_pos c22] at H
       have c22b0 : (a1_1 == 0) = true := beq_iff_eq.mpr c22
       have c22b1 : (a1_1 != 0) = false := bne_eq_false_iff_eq.mpr c22
       clear c22
       obtain rfl := Option.some.inj H
       have hnb23 := NB118_117.out
       have hnc23 := NB117_118.out
       have ⟨hcz24_0, hcz24_1, hcz24_2, hcz24_3, hcz24_4, hfz24_0, hfz24_1, hfz24_2, hfz24_3, hfz24_4⟩ := bc5 BK118
       go_wp2
       all_goals (go_ret; exact ⟨eq_, bq⟩)
      ·rw [if_neg c22] at H
       have c22b0 : (a1_1 == 0) = false := beq_eq_false_iff_ne.mpr c22
       have c22b1 : (a1_1 != 0) = true := bne_iff_ne.mpr c22
       obtain rfl := Option.some.inj H
       have hnb25 := NB118_117.out
       have hnc25 := NB117_118.out
       have ⟨hcz26_0, hcz26_1, hcz26_2, hcz26_3, hcz26_4, hfz26_0, hfz26_1, hfz26_2, hfz26_3, hfz26_4⟩ := bc5 BK118
       go_wp2
       all_goals (go_ret; exact ⟨eq_, bq⟩)
     ·rw [if_neg c21] at H
      have c21b0 : (a1_0 == 2) = false := beq_eq_false_iff_ne.mpr c21
      have c21b1 : (a1_0 != 2) = true := bne_iff_ne.mpr c21
      obtain rfl := Option.some.inj H
      have hnb27 := NB118_117.out
      have hnc27 := NB117_118.out
      have ⟨hcz28_0, hcz28_1, hcz28_2, hcz28_3, hcz28_4, hfz28_0, hfz28_1, hfz28_2, hfz28_3, hfz28_4⟩ := bc5 BK118
      go_wp2
      all_goals (go_ret; exact ⟨eq_, bq⟩)



/-! ### spec_seActs: function 87 -/
def spec_seActs.l0 : Nat → List (S60) → Int → Int → Int → Int → List (S58) → Option (Bool)
 | 0, _, _, _, _, _, _ => none
 | k + 1, x7, x8, x9, x123000, x123001, x123002 => if x9 < x8 then (if 0 ≤ x9 then (if x9 < (x7.length : Int) then ((spec_seAct.f k x123000 x123001 x123002 ((rd_T60 x7 x9).f0) ((rd_T60 x7 x9).f1) ((rd_T60 x7 x9).f2) ((rd_T60 x7 x9).f3.f0) ((rd_T60 x7 x9).f3.f1)).bind fun t125 => (if t125 = true then (spec_seActs.l0 k x7 x8 (wrap64 (x9 + 1)) x123000 x123001 x123002) else (some false))) else (none)) else (none)) else (some true)
def spec_seActs.f (k : Nat) (a0_0 : Int) (a0_1 : Int) (l0_2 : List (S58)) (l1 : List (S60)) : Option (Bool) := spec_seActs.l0 k l1 (l1.length : Int) 0 a0_0 a0_1 l0_2
theorem spec_seActs.mono_l : ∀ k, (∀ y0 y1 y2 y3 y4 y5, LeO (spec_seActs.l0 k y0 y1 y2 y3 y4 y5) (spec_seActs.l0 (k + 1) y0 y1 y2 y3 y4 y5))
 | 0 => fun _ _ _ _ _ _ r h => by simp [spec_seActs.l0] at h
 | k + 1 => by
  have ih0 := spec_seActs.mono_l k
  ·intro y0 y1 y2 y3 y4 y5
   unfold spec_seActs.l0
   repeat' first
   | (with_reducible exact ih0 _ _ _ _ _ _)
   | (with_reducible exact spec_seAct.mono _ _ _ _ _ _ _ _ _)
   | (with_reducible exact LeO.refl _)
   | (with_reducible exact LeO.none _)
   | (with_reducible refine LeO.ite ?_ ?_)
   | (with_reducible refine LeO.bind ?_ (fun _ => ?_))
   | exact ih0 _ _ _ _ _ _
   | exact spec_seAct.mono _ _ _ _ _ _ _ _ _
   | exact LeO.none _
   | refine LeO.ite ?_ ?_
   | refine LeO.bind ?_ (fun _ => ?_)
theorem spec_seActs.mono : ∀ a0 a1 a2 a3 k, LeO (spec_seActs.f k a0 a1 a2 a3) (spec_seActs.f (k + 1) a0 a1 a2 a3) := by
 intro a0 a1 a2 a3 k
 have ih0 := spec_seActs.mono_l k
 unfold spec_seActs.f
 repeat' first
   | (with_reducible exact ih0 _ _ _ _ _ _)
   | (with_reducible exact spec_seAct.mono _ _ _ _ _ _ _ _ _)
   | (with_reducible exact LeO.refl _)
   | (with_reducible exact LeO.none _)
   | (with_reducible refine LeO.ite ?_ ?_)
   | (with_reducible refine LeO.bind ?_ (fun _ => ?_))
   | exact ih0 _ _ _ _ _ _
   | exact spec_seAct.mono _ _ _ _ _ _ _ _ _
   | exact LeO.none _
   | refine LeO.ite ?_ ?_
   | refine LeO.bind ?_ (fun _ => ?_)
set_option maxHeartbeats 8000000 in
set_option maxRecDepth 100000 in
theorem spec_seActs.calls (k : Nat) (a0_0 : Int) (a0_1 : Int) (A0_2 : Option Addr) (c0_2 : Nat) (l0_2 : List (S58)) (A1 : Option Addr) (c1 : Nat) (l1 : List (S60)) (r : Bool) (w : World) (hr0_2 : Kd.C k58 w A0_2 l0_2.length l0_2) (hc0_2 : l0_2.length ≤ c0_2) (hr1 : Kd.C k60 w A1 l1.length l1) (hc1 : l1.length ≤ c1) (h : spec_seActs.f k a0_0 a0_1 l0_2 l1 = some r) :
  Calls Try.prog 87 #[.agg #[.int .i64 a0_0, .int .i64 a0_1, .slice A0_2 l0_2.length c0_2], .slice A1 l1.length c1] w fun e w' => e = .returned (.bool r) ∧ Below w.heap.size w w' := by
 have hu32 := Try.underlying32
 have hu60 := Try.underlying60
 have HR0_2 := am hr0_2
 have HC0_2 := am hc0_2
 clear hr0_2 hc0_2
 have HR1 := am hr1
 have HC1 := am hc1
 clear hr1 hc1
 have HB := am (Below.refl w.heap.size w)
 have H : (spec_seActs.l0 k l1 (l1.length : Int) 0 a0_0 a0_1 l0_2) = some r := h
 clear h
 have H' := am H
 clear H
 go_enter Try.func87, Try.ntmps87
 go_wp2_with (first | ((with_reducible refine gate_dst (N := 2) rfl ?_); refine box_event ?hg (N := 2) ?hd (cs := #[.int .i64 a0_0, .int .i64 a0_1, .slice A0_2 l0_2.length c0_2]) (t := 32) ?hr ?_; (case hd => rfl); (case hg => rfl); (case hr => first | (go_simp; done) | (go_simp; rfl)); intro gb122 hg w3 hbox hb; have BK122 := am (hbox); have GW122 := am (gq hg); have GE122 := am (gq hg); replace HB := sb hb; clear hb hbox hg))
 go_loopg [9] k (fun kq v9 w' => ∃ (x9_1 : Int), v9 = .int .i64 x9_1 ∧ Aside0 (spec_seActs.l0 kq l1 (l1.length : Int) x9_1 a0_0 a0_1 l0_2 = some r) ∧ Aside0 (kq ≤ k) ∧ Aside0 (w'.heap[gb122]? = some (.cells #[.int .i64 a0_0, .int .i64 a0_1, (.slice A0_2 l0_2.length c0_2)] 32 (0, 0))) ∧ Aside0 (Below w.heap.size w w'))
 case atStart => exact ⟨(0), sq, H', ⟨Nat.le_refl _⟩, ⟨zq BK122⟩, ⟨bq⟩⟩
 case round =>
  clear H'
  obtain ⟨x9_1, rfl, HA, HK1, BK122, HB⟩ := hrel
  cases gk with
  | zero => exact absurd HA.out (by simp [spec_seActs.l0])
  | succ k1 =>
   have H := HA.out
   clear HA
   simp only [spec_seActs.l0] at H
   by_cases c4 : x9_1 < (l1.length : Int)
   ·rw [if_pos c4] at H
    have c4b0 : decide (x9_1 < (l1.length : Int)) = true := decide_eq_true c4
    clear c4
    by_cases c5 : 0 ≤ x9_1
    ·rw [if_pos c5] at H
     have c5b0 : decide (0 ≤ x9_1) = true := decide_eq_true c5
     clear c5
     by_cases c6 : x9_1 < (l1.length : Int)
     ·rw [if_pos c6] at H
      have c6b0 : decide (x9_1 < (l1.length : Int)) = true := decide_eq_true c6
      clear c6
      obtain ⟨t125, A7, H⟩ := bindq H
      try dsimp only at H
      by_cases c8 : t125 = true
      ·subst c8
       rw [if_pos rfl] at H
       try dsimp only at H
       have H' := am H
       clear H
       have p123 : 0 ≤ (x9_1 : Int) := of_decide_eq_true aq
       have q123 : x9_1 < (l1.length : Int) := of_decide_eq_true aq
       obtain ⟨ad123, e123, hx123_0, hx123_1, hx123_2, hx123_3, hx123_4⟩ := at_T60 HR1.out x9_1 p123 q123
       cases e123
       replace hx123_0 := (HB.out.cell (World.block_lt_of_cell? w _ hx123_0)).trans hx123_0
       replace hx123_1 := (HB.out.cell (World.block_lt_of_cell? w _ hx123_1)).trans hx123_1
       replace hx123_2 := (HB.out.cell (World.block_lt_of_cell? w _ hx123_2)).trans hx123_2
       replace hx123_3 := (HB.out.cell (World.block_lt_of_cell? w _ hx123_3)).trans hx123_3
       replace hx123_4 := (HB.out.cell (World.block_lt_of_cell? w _ hx123_4)).trans hx123_4
       replace p123 := eq_true p123
       replace q123 := eq_true q123
       go_wp2_with (first | ((with_reducible refine gate_dst (N := 6) rfl ?_); refine box_event ?hg (N := 6) ?hd (cs := #[.int .i64 0, .int .i64 0, .int .i64 0, .int .i64 0, .int .i64 0]) (t := 60) ?hr ?_; (case hd => rfl); (case hg => rfl); (case hr => first | (go_simp; done) | (go_simp; rfl)); intro gb124 hg w9 hbox hb; have BK124 := am (hbox); have GW124 := am (gq hg); have GE124 := am (gq hg); replace HB := sb hb; have NB122_124 := nl hg BK122; have NB124_122 := ng hg BK122; replace BK122 := zb BK122 hb; clear hb hbox hg; have hnb10 := NB124_122.out; have hnc10 := NB122_124.out; have ⟨hcz11_0, hcz11_1, hcz11_2, hcz11_3, hcz11_4, hfz11_0, hfz11_1, hfz11_2, hfz11_3, hfz11_4⟩ := bc5 BK124; have ⟨hcz12_0, hcz12_1, hcz12_2, hfz12_0, hfz12_1, hfz12_2⟩ := bc3 BK122) | ((with_reducible refine gate_callee (f := 94) rfl ?_); refine goesQ (some 15) Try.func94 #[.agg #[.int .i64 a0_0, .int .i64 a0_1, .slice A0_2 l0_2.length c0_2], .agg #[.int .i64 ((rd_T60 l1 x9_1).f0), .int .i64 ((rd_T60 l1 x9_1).f1), .int .i64 ((rd_T60 l1 x9_1).f2), .int .i64 ((rd_T60 l1 x9_1).f3.f0), .int .i64 ((rd_T60 l1 x9_1).f3.f1)]] ?_; (with_reducible refine (spec_seAct.calls k1 a0_0 a0_1 _ _ l0_2 ((rd_T60 l1 x9_1).f0) ((rd_T60 l1 x9_1).f1) ((rd_T60 l1 x9_1).f2) ((rd_T60 l1 x9_1).f3.f0) ((rd_T60 l1 x9_1).f3.f1) true _ ?s1 ?s2 A7.out).mono ?_); (case s1 => exact Kd.C_below HR0_2.out bq); (case s2 => exact HC0_2.out); rintro e w13 ⟨rfl, hb⟩; refine ⟨_, rfl, ?_⟩; replace BK122 := am (blk_below (g := gb122) (o := .cells #[.int .i64 a0_0, .int .i64 a0_1, .slice A0_2 l0_2.length c0_2] 32 (0, 0)) (zp BK122) hb); replace BK124 := am (blk_below (g := gb124) (o := .cells #[.int .i64 ((rd_T60 l1 x9_1).f0), .int .i64 ((rd_T60 l1 x9_1).f1), .int .i64 ((rd_T60 l1 x9_1).f2), .int .i64 ((rd_T60 l1 x9_1).f3.f0), .int .i64 ((rd_T60 l1 x9_1).f3.f1)] 60 (0, 0)) (zp BK124) hb); replace HB := sb hb; (try clear hb)))
       go_roundg k1
       case measure => have := HK1.out; omega
       case rel => exact ⟨(wrap64 (x9_1 + 1)), sq, H', ⟨by have := HK1.out; omega⟩, ⟨zq BK122⟩, ⟨bq⟩⟩
      ·replace c8 := Bool.eq_false_iff.mpr c8
       subst c8
       rw [if_neg (show ¬ (false = true) by decide)] at H
       try dsimp only at H
       obtain rfl := Option.some.inj H
       have p123 : 0 ≤ (x9_1 : Int) := of_decide_eq_true aq
       have q123 : x9_1 < (l1.length : Int) := of_decide_eq_true aq
       obtain ⟨ad123, e123, hx123_0, hx123_1, hx123_2, hx123_3, hx123_4⟩ := at_T60 HR1.out x9_1 p123 q123
       cases e123
       replace hx123_0 := (HB.out.cell (World.block_lt_of_cell? w _ hx123_0)).trans hx123_0
       replace hx123_1 := (HB.out.cell (World.block_lt_of_cell? w _ hx123_1)).trans hx123_1
       replace hx123_2 := (HB.out.cell (World.block_lt_of_cell? w _ hx123_2)).trans hx123_2
       replace hx123_3 := (HB.out.cell (World.block_lt_of_cell? w _ hx123_3)).trans hx123_3
       replace hx123_4 := (HB.out.cell (World.block_lt_of_cell? w _ hx123_4)).trans hx123_4
       replace p123 := eq_true p123
       replace q123 := eq_true q123
       go_wp2_with (first | ((with_reducible refine gate_dst (N := 6) rfl ?_); refine box_event ?hg (N := 6) ?hd (cs := #[.int .i64 0, .int .i64 0, .int .i64 0, .int .i64 0, .int .i64 0]) (t := 60) ?hr ?_; (case hd => rfl); (case hg => rfl); (case hr => first | (go_simp; done) | (go_simp; rfl)); intro gb124 hg w14 hbox hb; have BK124 := am (hbox); have GW124 := am (gq hg); have GE124 := am (gq hg); replace HB := sb hb; have NB122_124 := nl hg BK122; have NB124_122 := ng hg BK122; replace BK122 := zb BK122 hb; clear hb hbox hg; have hnb15 := NB124_122.out; have hnc15 := NB122_124.out; have ⟨hcz16_0, hcz16_1, hcz16_2, hcz16_3, hcz16_4, hfz16_0, hfz16_1, hfz16_2, hfz16_3, hfz16_4⟩ := bc5 BK124; have ⟨hcz17_0, hcz17_1, hcz17_2, hfz17_0, hfz17_1, hfz17_2⟩ := bc3 BK122) | ((with_reducible refine gate_callee (f := 94) rfl ?_); refine goesQ (some 15) Try.func94 #[.agg #[.int .i64 a0_0, .int .i64 a0_1, .slice A0_2 l0_2.length c0_2], .agg #[.int .i64 ((rd_T60 l1 x9_1).f0), .int .i64 ((rd_T60 l1 x9_1).f1), .int .i64 ((rd_T60 l1 x9_1).f2), .int .i64 ((rd_T60 l1 x9_1).f3.f0), .int .i64 ((rd_T60 l1 x9_1).f3.f1)]] ?_; (with_reducible refine (spec_seAct.calls k1 a0_0 a0_1 _ _ l0_2 ((rd_T60 l1 x9_1).f0) ((rd_T60 l1 x9_1).f1) ((rd_T60 l1 x9_1).f2) ((rd_T60 l1 x9_1).f3.f0) ((rd_T60 l1 x9_1).f3.f1) false _ ?s1 ?s2 A7.out).mono ?_); (case s1 => exact Kd.C_below HR0_2.out bq); (case s2 => exact HC0_2.out); rintro e w18 ⟨rfl, hb⟩; refine ⟨_, rfl, ?_⟩; replace BK122 := am (blk_below (g := gb122) (o := .cells #[.int .i64 a0_0, .int .i64 a0_1, .slice A0_2 l0_2.length c0_2] 32 (0, 0)) (zp BK122) hb); replace BK124 := am (blk_below (g := gb124) (o := .cells #[.int .i64 ((rd_T60 l1 x9_1).f0), .int .i64 ((rd_T60 l1 x9_1).f1), .int .i64 ((rd_T60 l1 x9_1).f2), .int .i64 ((rd_T60 l1 x9_1).f3.f0), .int .i64 ((rd_T60 l1 x9_1).f3.f1)] 60 (0, 0)) (zp BK124) hb); replace HB := sb hb; (try clear hb)))
       go_ret
       exact ⟨eq_, bq⟩
     ·rw [if_neg c6] at H
      exact absurd H (by simp)
    ·rw [if_neg c5] at H
     exact absurd H (by simp)
   ·rw [if_neg c4] at H
    have c4b0 : decide (x9_1 < (l1.length : Int)) = false := decide_eq_false c4
    clear c4
    obtain rfl := Option.some.inj H
    go_wp2
    go_ret
    exact ⟨eq_, bq⟩


/-! ### spec_seGood: function 60 -/
def spec_seGood.f (k : Nat) (a0_0 : Int) (a0_1 : Int) (l0_2 : List (S58)) (l0_3 : List (S60)) (l0_4 : List (S60)) : Option (Bool) := (spec_boGood.f k a0_0 a0_1 l0_2).bind fun t127 => (if t127 = true then ((spec_seActs.f k a0_0 a0_1 l0_2 l0_3).bind fun t128 => (if t128 = true then ((spec_seActs.f k a0_0 a0_1 l0_2 l0_4).bind fun t129 => (if t129 = true then (some (decide ((wrap64 ((l0_3.length : Int) + (l0_4.length : Int))) ≤ 40))) else (some false))) else (some false))) else (some false))
theorem spec_seGood.mono : ∀ a0 a1 a2 a3 a4 k, LeO (spec_seGood.f k a0 a1 a2 a3 a4) (spec_seGood.f (k + 1) a0 a1 a2 a3 a4) := by
 intro a0 a1 a2 a3 a4 k
 unfold spec_seGood.f
 repeat' first
   | (with_reducible exact spec_boGood.mono _ _ _ _)
   | (with_reducible exact spec_seActs.mono _ _ _ _ _)
   | (with_reducible exact LeO.refl _)
   | (with_reducible exact LeO.none _)
   | (with_reducible refine LeO.ite ?_ ?_)
   | (with_reducible refine LeO.bind ?_ (fun _ => ?_))
   | exact spec_boGood.mono _ _ _ _
   | exact spec_seActs.mono _ _ _ _ _
   | exact LeO.none _
   | refine LeO.ite ?_ ?_
   | refine LeO.bind ?_ (fun _ => ?_)
set_option maxHeartbeats 8000000 in
set_option maxRecDepth 100000 in
theorem spec_seGood.calls (k : Nat) (a0_0 : Int) (a0_1 : Int) (A0_2 : Option Addr) (c0_2 : Nat) (l0_2 : List (S58)) (A0_3 : Option Addr) (c0_3 : Nat) (l0_3 : List (S60)) (A0_4 : Option Addr) (c0_4 : Nat) (l0_4 : List (S60)) (r : Bool) (w : World) (hr0_2 : Kd.C k58 w A0_2 l0_2.length l0_2) (hc0_2 : l0_2.length ≤ c0_2) (hr0_3 : Kd.C k60 w A0_3 l0_3.length l0_3) (hc0_3 : l0_3.length ≤ c0_3) (hr0_4 : Kd.C k60 w A0_4 l0_4.length l0_4) (hc0_4 : l0_4.length ≤ c0_4) (h : spec_seGood.f k a0_0 a0_1 l0_2 l0_3 l0_4 = some r) :
  Calls Try.prog 60 #[.agg #[.int .i64 a0_0, .int .i64 a0_1, .slice A0_2 l0_2.length c0_2, .slice A0_3 l0_3.length c0_3, .slice A0_4 l0_4.length c0_4]] w fun e w' => e = .returned (.bool r) ∧ Below w.heap.size w w' := by
 have hu35 := Try.underlying35
 have hu32 := Try.underlying32
 have HR0_2 := am hr0_2
 have HC0_2 := am hc0_2
 clear hr0_2 hc0_2
 have HR0_3 := am hr0_3
 have HC0_3 := am hc0_3
 clear hr0_3 hc0_3
 have HR0_4 := am hr0_4
 have HC0_4 := am hc0_4
 clear hr0_4 hc0_4
 have HB := am (Below.refl w.heap.size w)
 have H : ((spec_boGood.f k a0_0 a0_1 l0_2).bind fun t127 => (if t127 = true then ((spec_seActs.f k a0_0 a0_1 l0_2 l0_3).bind fun t128 => (if t128 = true then ((spec_seActs.f k a0_0 a0_1 l0_2 l0_4).bind fun t129 => (if t129 = true then (some (decide ((wrap64 ((l0_3.length : Int) + (l0_4.length : Int))) ≤ 40))) else (some false))) else (some false))) else (some false))) = some r := h
 clear h
 obtain ⟨t127, A2, H⟩ := bindq H
 try dsimp only at H
 by_cases c3 : t127 = true
 ·subst c3
  rw [if_pos rfl] at H
  try dsimp only at H
  obtain ⟨t128, A4, H⟩ := bindq H
  try dsimp only at H
  by_cases c5 : t128 = true
  ·subst c5
   rw [if_pos rfl] at H
   try dsimp only at H
   obtain ⟨t129, A6, H⟩ := bindq H
   try dsimp only at H
   by_cases c7 : t129 = true
   ·subst c7
    rw [if_pos rfl] at H
    try dsimp only at H
    obtain rfl := Option.some.inj H
    go_enter Try.func60, Try.ntmps60
    go_wp2_with (first | ((with_reducible refine gate_dst (N := 1) rfl ?_); (try (refine gate_guard (by rfl) ?_; dsimp only)); refine box_event ?hg (N := 1) ?hd (cs := #[.int .i64 a0_0, .int .i64 a0_1, .slice A0_2 l0_2.length c0_2, .slice A0_3 l0_3.length c0_3, .slice A0_4 l0_4.length c0_4]) (t := 35) ?hr ?_; (case hd => rfl); (case hg => rfl); (case hr => first | (go_simp; done) | (go_simp; rfl)); intro gb126 hg w8 hbox hb; have BK126 := am (hbox); have GW126 := am (gq hg); have GE126 := am (gq hg); replace HB := sb hb; clear hb hbox hg; have ⟨hcz9_0, hcz9_1, hcz9_2, hcz9_3, hcz9_4, hfz9_0, hfz9_1, hfz9_2, hfz9_3, hfz9_4⟩ := bc5 BK126) | ((with_reducible refine gate_callee (f := 64) rfl ?_); refine goesQ (some 5) Try.func64 #[.agg #[.int .i64 a0_0, .int .i64 a0_1, .slice A0_2 l0_2.length c0_2]] ?_; (with_reducible refine (spec_boGood.calls k a0_0 a0_1 _ _ l0_2 true _ ?s1 ?s2 A2.out).mono ?_); (case s1 => exact cq (Kd.C_below HR0_2.out HB.out)); (case s2 => exact HC0_2.out); rintro e w10 ⟨rfl, hb⟩; refine ⟨_, rfl, ?_⟩; replace BK126 := zb BK126 hb; replace HB := sb hb; (try clear hb); have ⟨hcz11_0, hcz11_1, hcz11_2, hcz11_3, hcz11_4, hfz11_0, hfz11_1, hfz11_2, hfz11_3, hfz11_4⟩ := bc5 BK126) | (go_at_call 87; (with_reducible refine (spec_seActs.calls k a0_0 a0_1 _ _ l0_2 _ _ l0_3 true _ ?s1 ?s2 ?s3 ?s4 A4.out).mono ?_); (case s1 => exact cq (Kd.C_below HR0_2.out HB.out)); (case s2 => exact HC0_2.out); (case s3 => exact cq (Kd.C_below HR0_3.out HB.out)); (case s4 => exact HC0_3.out); rintro e w12 ⟨rfl, hb⟩; replace BK126 := zb BK126 hb; replace HB := sb hb; (try clear hb); have ⟨hcz13_0, hcz13_1, hcz13_2, hcz13_3, hcz13_4, hfz13_0, hfz13_1, hfz13_2, hfz13_3, hfz13_4⟩ := bc5 BK126) | (go_at_call 87; (with_reducible refine (spec_seActs.calls k a0_0 a0_1 _ _ l0_2 _ _ l0_4 true _ ?s1 ?s2 ?s3 ?s4 A6.out).mono ?_); (case s1 => exact cq (Kd.C_below HR0_2.out HB.out)); (case s2 => exact HC0_2.out); (case s3 => exact cq (Kd.C_below HR0_4.out HB.out)); (case s4 => exact HC0_4.out); rintro e w14 ⟨rfl, hb⟩; replace BK126 := zb BK126 hb; replace HB := sb hb; (try clear hb); have ⟨hcz15_0, hcz15_1, hcz15_2, hcz15_3, hcz15_4, hfz15_0, hfz15_1, hfz15_2, hfz15_3, hfz15_4⟩ := bc5 BK126))
    go_ret
    exact ⟨eq_, bq⟩
   ·replace c7 := Bool.eq_false_iff.mpr c7
    subst c7
    rw [if_neg (show ¬ (false = true) by decide)] at H
    try dsimp only at H
    obtain rfl := Option.some.inj H
    go_enter Try.func60, Try.ntmps60
    go_wp2_with (first | ((with_reducible refine gate_dst (N := 1) rfl ?_); (try (refine gate_guard (by rfl) ?_; dsimp only)); refine box_event ?hg (N := 1) ?hd (cs := #[.int .i64 a0_0, .int .i64 a0_1, .slice A0_2 l0_2.length c0_2, .slice A0_3 l0_3.length c0_3, .slice A0_4 l0_4.length c0_4]) (t := 35) ?hr ?_; (case hd => rfl); (case hg => rfl); (case hr => first | (go_simp; done) | (go_simp; rfl)); intro gb126 hg w16 hbox hb; have BK126 := am (hbox); have GW126 := am (gq hg); have GE126 := am (gq hg); replace HB := sb hb; clear hb hbox hg; have ⟨hcz17_0, hcz17_1, hcz17_2, hcz17_3, hcz17_4, hfz17_0, hfz17_1, hfz17_2, hfz17_3, hfz17_4⟩ := bc5 BK126) | ((with_reducible refine gate_callee (f := 64) rfl ?_); refine goesQ (some 5) Try.func64 #[.agg #[.int .i64 a0_0, .int .i64 a0_1, .slice A0_2 l0_2.length c0_2]] ?_; (with_reducible refine (spec_boGood.calls k a0_0 a0_1 _ _ l0_2 true _ ?s1 ?s2 A2.out).mono ?_); (case s1 => exact cq (Kd.C_below HR0_2.out HB.out)); (case s2 => exact HC0_2.out); rintro e w18 ⟨rfl, hb⟩; refine ⟨_, rfl, ?_⟩; replace BK126 := zb BK126 hb; replace HB := sb hb; (try clear hb); have ⟨hcz19_0, hcz19_1, hcz19_2, hcz19_3, hcz19_4, hfz19_0, hfz19_1, hfz19_2, hfz19_3, hfz19_4⟩ := bc5 BK126) | (go_at_call 87; (with_reducible refine (spec_seActs.calls k a0_0 a0_1 _ _ l0_2 _ _ l0_3 true _ ?s1 ?s2 ?s3 ?s4 A4.out).mono ?_); (case s1 => exact cq (Kd.C_below HR0_2.out HB.out)); (case s2 => exact HC0_2.out); (case s3 => exact cq (Kd.C_below HR0_3.out HB.out)); (case s4 => exact HC0_3.out); rintro e w20 ⟨rfl, hb⟩; replace BK126 := zb BK126 hb; replace HB := sb hb; (try clear hb); have ⟨hcz21_0, hcz21_1, hcz21_2, hcz21_3, hcz21_4, hfz21_0, hfz21_1, hfz21_2, hfz21_3, hfz21_4⟩ := bc5 BK126) | (go_at_call 87; (with_reducible refine (spec_seActs.calls k a0_0 a0_1 _ _ l0_2 _ _ l0_4 false _ ?s1 ?s2 ?s3 ?s4 A6.out).mono ?_); (case s1 => exact cq (Kd.C_below HR0_2.out HB.out)); (case s2 => exact HC0_2.out); (case s3 => exact cq (Kd.C_below HR0_4.out HB.out)); (case s4 => exact HC0_4.out); rintro e w22 ⟨rfl, hb⟩; replace BK126 := zb BK126 hb; replace HB := sb hb; (try clear hb)))
    go_ret
    exact ⟨eq_, bq⟩
  ·replace c5 := Bool.eq_false_iff.mpr c5
   subst c5
   rw [if_neg (show ¬ (false = true) by decide)] at H
   try dsimp only at H
   obtain rfl := Option.some.inj H
   go_enter Try.func60, Try.ntmps60
   go_wp2_with (first | ((with_reducible refine gate_dst (N := 1) rfl ?_); (try (refine gate_guard (by rfl) ?_; dsimp only)); refine box_event ?hg (N := 1) ?hd (cs := #[.int .i64 a0_0, .int .i64 a0_1, .slice A0_2 l0_2.length c0_2, .slice A0_3 l0_3.length c0_3, .slice A0_4 l0_4.length c0_4]) (t := 35) ?hr ?_; (case hd => rfl); (case hg => rfl); (case hr => first | (go_simp; done) | (go_simp; rfl)); intro gb126 hg w23 hbox hb; have BK126 := am (hbox); have GW126 := am (gq hg); have GE126 := am (gq hg); replace HB := sb hb; clear hb hbox hg; have ⟨hcz24_0, hcz24_1, hcz24_2, hcz24_3, hcz24_4, hfz24_0, hfz24_1, hfz24_2, hfz24_3, hfz24_4⟩ := bc5 BK126) | ((with_reducible refine gate_callee (f := 64) rfl ?_); refine goesQ (some 5) Try.func64 #[.agg #[.int .i64 a0_0, .int .i64 a0_1, .slice A0_2 l0_2.length c0_2]] ?_; (with_reducible refine (spec_boGood.calls k a0_0 a0_1 _ _ l0_2 true _ ?s1 ?s2 A2.out).mono ?_); (case s1 => exact cq (Kd.C_below HR0_2.out HB.out)); (case s2 => exact HC0_2.out); rintro e w25 ⟨rfl, hb⟩; refine ⟨_, rfl, ?_⟩; replace BK126 := zb BK126 hb; replace HB := sb hb; (try clear hb); have ⟨hcz26_0, hcz26_1, hcz26_2, hcz26_3, hcz26_4, hfz26_0, hfz26_1, hfz26_2, hfz26_3, hfz26_4⟩ := bc5 BK126) | (go_at_call 87; (with_reducible refine (spec_seActs.calls k a0_0 a0_1 _ _ l0_2 _ _ l0_3 false _ ?s1 ?s2 ?s3 ?s4 A4.out).mono ?_); (case s1 => exact cq (Kd.C_below HR0_2.out HB.out)); (case s2 => exact HC0_2.out); (case s3 => exact cq (Kd.C_below HR0_3.out HB.out)); (case s4 => exact HC0_3.out); rintro e w27 ⟨rfl, hb⟩; replace BK126 := zb BK126 hb; replace HB := sb hb; (try clear hb)))
   go_ret
   exact ⟨eq_, bq⟩
 ·replace c3 := Bool.eq_false_iff.mpr c3
  subst c3
  rw [if_neg (show ¬ (false = true) by decide)] at H
  try dsimp only at H
  obtain rfl := Option.some.inj H
  go_enter Try.func60, Try.ntmps60
  go_wp2_with (first | ((with_reducible refine gate_dst (N := 1) rfl ?_); (try (refine gate_guard (by rfl) ?_; dsimp only)); refine box_event ?hg (N := 1) ?hd (cs := #[.int .i64 a0_0, .int .i64 a0_1, .slice A0_2 l0_2.length c0_2, .slice A0_3 l0_3.length c0_3, .slice A0_4 l0_4.length c0_4]) (t := 35) ?hr ?_; (case hd => rfl); (case hg => rfl); (case hr => first | (go_simp; done) | (go_simp; rfl)); intro gb126 hg w28 hbox hb; have BK126 := am (hbox); have GW126 := am (gq hg); have GE126 := am (gq hg); replace HB := sb hb; clear hb hbox hg; have ⟨hcz29_0, hcz29_1, hcz29_2, hcz29_3, hcz29_4, hfz29_0, hfz29_1, hfz29_2, hfz29_3, hfz29_4⟩ := bc5 BK126) | ((with_reducible refine gate_callee (f := 64) rfl ?_); refine goesQ (some 5) Try.func64 #[.agg #[.int .i64 a0_0, .int .i64 a0_1, .slice A0_2 l0_2.length c0_2]] ?_; (with_reducible refine (spec_boGood.calls k a0_0 a0_1 _ _ l0_2 false _ ?s1 ?s2 A2.out).mono ?_); (case s1 => exact cq (Kd.C_below HR0_2.out HB.out)); (case s2 => exact HC0_2.out); rintro e w30 ⟨rfl, hb⟩; refine ⟨_, rfl, ?_⟩; replace BK126 := zb BK126 hb; replace HB := sb hb; (try clear hb)))
  go_ret
  exact ⟨eq_, bq⟩


/-! ### spec_boOwn: function 65 -/
def spec_boOwn.f (a0_0 : Int) (a0_1 : Int) (l0_2 : List (S58)) : Option (Int × Int × (List (S58))) := (some (([] : List (S58)) : List (S58))).bind fun y258 => (if y258.length + l0_2.length < 8796093022208 then (some (a0_0, a0_1, (y258 ++ l0_2))) else (none))
def spec_boOwn.T1 : Bool × List (List Nat × List Nat) := (true, [([], []), ([0], [0]), ([], []), ([2], [2]), ([], []), ([], []), ([5], [5]), ([4, 6], [4, 6]), ([1, 3, 7], [1, 3, 7]), ([8, 7, 0, 1, 2, 3, 4, 5, 6, 7, 8], [8])])
def spec_boOwn.B1 : List Nat := [0, 1, 0, 4, 0, 0, 32, 112, 255, 511]
theorem spec_boOwn.tab1 : rtab .any (opsOf Try.f65 1) = spec_boOwn.T1 := by kernel_rfl
theorem spec_boOwn.bits1 : waitsOk spec_boOwn.T1.2 spec_boOwn.B1 = true := by kernel_rfl
set_option maxHeartbeats 8000000 in
set_option maxRecDepth 100000 in
theorem spec_boOwn.calls (a0_0 : Int) (a0_1 : Int) (A0_2 : Option Addr) (c0_2 : Nat) (l0_2 : List (S58)) (r1 : Int) (r2 : Int) (r3 : List (S58)) (w : World) (hr0_2 : Kd.C k58 w A0_2 l0_2.length l0_2) (hc0_2 : l0_2.length ≤ c0_2) (h : spec_boOwn.f a0_0 a0_1 l0_2 = some (r1, r2, r3)) :
  Calls Try.prog 65 #[.agg #[.int .i64 a0_0, .int .i64 a0_1, .slice A0_2 l0_2.length c0_2]] w fun e w' => ∃ v2_ : Value, e = .returned (.agg #[.int .i64 r1, .int .i64 r2, v2_]) ∧ Kd.R k58 58 w' w.heap.size (fun _ => True) v2_ r3 ∧ Below w.heap.size w w' := by
 have hu32 := Try.underlying32
 have HR0_2 := am hr0_2
 have HC0_2 := am hc0_2
 clear hr0_2 hc0_2
 have HB := am (Below.refl w.heap.size w)
 have H : ((some (([] : List (S58)) : List (S58))).bind fun y258 => (if y258.length + l0_2.length < 8796093022208 then (some (a0_0, a0_1, (y258 ++ l0_2))) else (none))) = some (r1, r2, r3) := h
 clear h
 obtain ⟨y258, hy258⟩ : ∃ y_ : List (S58), y_ = (([] : List (S58))) := ⟨_, rfl⟩
 replace H : (if y258.length + l0_2.length < 8796093022208 then (some (a0_0, a0_1, (y258 ++ l0_2))) else (none)) = some (r1, r2, r3) := by first | (rw [hy258]; with_reducible exact H) | (have H2_ := (Option.bind_some _ _).symm.trans H; rw [hy258]; with_reducible exact H2_) | (have H2_ := (Option.bind_some _ _).symm.trans H; with_reducible exact H2_) | with_reducible exact H | (rw [hy258]; exact H) | exact H
 have Ny258 := am hy258
 clear hy258
 by_cases c2 : y258.length + l0_2.length < 8796093022208
 ·rw [if_pos c2] at H
  have LMc2 := am c2
  clear c2
  obtain ⟨y261, hy261⟩ : ∃ y_ : List (S58), y_ = (y258 ++ l0_2) := ⟨_, rfl⟩
  replace H : (some (a0_0, a0_1, y261)) = some (r1, r2, r3) := by first | (rw [hy261]; with_reducible exact H) | (have H2_ := (Option.bind_some _ _).symm.trans H; rw [hy261]; with_reducible exact H2_) | (have H2_ := (Option.bind_some _ _).symm.trans H; with_reducible exact H2_) | with_reducible exact H | (rw [hy261]; exact H) | exact H
  have Ny261 := am hy261
  clear hy261
  simp only [Option.some.injEq, Prod.mk.injEq] at H
  obtain ⟨rfl, rfl, rfl⟩ := H
  go_enter Try.func65, Try.ntmps65
  try go_wp2_with (first | ((with_reducible refine gate_dst (N := 1) rfl ?_); refine box_event ?hg (N := 1) ?hd (cs := #[.int .i64 a0_0, .int .i64 a0_1, .slice A0_2 l0_2.length c0_2]) (t := 32) ?hr ?_; (case hd => rfl); (case hg => rfl); (case hr => first | (go_simp; done) | (go_simp; rfl)); intro gb256 hg w3 hbox hb; have BK256 := am (hbox); have GW256 := am (gq hg); have GE256 := am (gq hg); replace HB := sb hb; clear hb hbox hg) | ((with_reducible refine gate_dst (N := 2) rfl ?_); refine box_event ?hg (N := 2) ?hd (cs := #[.int .i64 0, .int .i64 0, .slice none 0 0]) (t := 32) ?hr ?_; (case hd => rfl); (case hg => rfl); (case hr => first | (go_simp; done) | (go_simp; rfl)); intro gb257 hg w4 hbox hb; have BK257 := am (hbox); have GW257 := am (gq hg); have GE257 := am (gq hg); replace HB := sb hb; have NB256_257 := nl hg BK256; have NB257_256 := ng hg BK256; replace BK256 := zb BK256 hb; clear hb hbox hg))
  replace BK256 := am (blk_drew BK256.out)
  replace BK257 := am (blk_drew BK257.out)
  replace HB := am (below_drew1 HB.out)
  refine start_ (n := 10) (S := fun w' => w'.cell? ⟨gb256, 0, none⟩ = some (.int .i64 a0_0) ∧ w'.cell? ⟨gb256, 1, none⟩ = some (.int .i64 a0_1) ∧ w'.cell? ⟨gb256, 2, none⟩ = some (.slice A0_2 l0_2.length c0_2)) (ds := []) #[false, false, false, false, false, false, false, false, false, false] (by kernel_rfl) rfl rfl cl (fun hHeld => ?_); refine with_tabW spec_boOwn.tab1 spec_boOwn.bits1 (fun HT_ HW_ => ?_)
  generalize w4.drew = w5 at BK256 BK257 HB hHeld ⊢
  refine pure_ (i := 0) (N := some 3) (v := ?_) (a' := ?_) #[true, false, false, false, false, false, false, false, false, false] rfl rfl (any_of HT_.out (by kernel_rfl)) (fun _ _ _ h => h) (Or.inl ⟨by rfl, ?_⟩) ?_ ?_
  rotate_left
  ·intro w'
   go_simp
   with_reducible rfl
  rotate_left
  ·simp only [Act.put, List.setIfInBounds_toArray, List.set_cons_zero, List.set_cons_succ, i64_w, i32_w]
   rfl
  refine pure_ (i := 2) (N := some 5) (v := ?_) (a' := ?_) #[true, false, true, false, false, false, false, false, false, false] rfl rfl (any_of HT_.out (by kernel_rfl)) (fun _ _ _ h => h) (Or.inl ⟨by rfl, ?_⟩) ?_ ?_
  rotate_left
  ·intro w'
   go_simp
   with_reducible rfl
  rotate_left
  ·simp only [Act.put, List.setIfInBounds_toArray, List.set_cons_zero, List.set_cons_succ, i64_w, i32_w]
   rfl
  refine pure_ (i := 5) (N := some 8) (v := ?_) (a' := ?_) #[true, false, true, false, false, true, false, false, false, false] rfl rfl (any_of HT_.out (by kernel_rfl)) (fun _ _ _ h => h) (Or.inl ⟨by rfl, ?_⟩) ?_ ?_
  rotate_left
  ·intro w'
   go_simp
   with_reducible rfl
  rotate_left
  ·simp only [Act.put, List.setIfInBounds_toArray, List.set_cons_zero, List.set_cons_succ, i64_w, i32_w]
   rfl
  refine take_ (i := 1) (N := some 4) (v := ?_) (a' := ?_) #[true, true, true, false, false, true, false, false, false, false] rfl rfl (take_ofW HT_.out HW_.out (by kernel_rfl)) (fun _ _ _ h => h) (Or.inl ⟨by rfl, ?_⟩) hHeld ?_ ?_
  rotate_left
  ·rintro w' ⟨s0, s1, s2⟩
   go_simp
   with_reducible rfl
  rotate_left
  ·simp only [Act.put, List.setIfInBounds_toArray, List.set_cons_zero, List.set_cons_succ, i64_w, i32_w]
   rfl
  refine take_ (i := 3) (N := some 6) (v := ?_) (a' := ?_) #[true, true, true, true, false, true, false, false, false, false] rfl rfl (take_ofW HT_.out HW_.out (by kernel_rfl)) (fun _ _ _ h => h) (Or.inl ⟨by rfl, ?_⟩) hHeld ?_ ?_
  rotate_left
  ·rintro w' ⟨s0, s1, s2⟩
   go_simp
   with_reducible rfl
  rotate_left
  ·simp only [Act.put, List.setIfInBounds_toArray, List.set_cons_zero, List.set_cons_succ, i64_w, i32_w]
   rfl
  refine take_ (i := 6) (N := some 9) (v := ?_) (a' := ?_) #[true, true, true, true, false, true, true, false, false, false] rfl rfl (take_ofW HT_.out HW_.out (by kernel_rfl)) (fun _ _ _ h => h) (Or.inl ⟨by rfl, ?_⟩) hHeld ?_ ?_
  rotate_left
  ·rintro w' ⟨s0, s1, s2⟩
   go_simp
   with_reducible rfl
  rotate_left
  ·simp only [Act.put, List.setIfInBounds_toArray, List.set_cons_zero, List.set_cons_succ, i64_w, i32_w]
   rfl
  refine one_ (i := 4) (N := some 7) #[true, true, true, true, true, true, true, false, false, false] rfl rfl (one_of HT_.out (by kernel_rfl)) (by decide) (fun K hK => ?_)
  refine Kd.R_lit_step k58 _ 58 ?hg (N := 7) ?hd (xs := ([] : List (S58))) (inner := []) (ok := fun _ => True) (okp := fun _ => True) ?hr ?hp (fun _ hk => hk) trivial (Below.refl _ _) (Nat.le_refl _) (by simp) ?_; (case hd => rfl); (case hg => rfl); (case hr => first | (go_simp; done) | (go_simp; rfl)); (case hp => exact (Reps.none _ _))
  intro v259 w6 ho7 hb hg_ hnew_
  clear hg_ hnew_
  (first | rw [← Ny258.out] at ho7 | (simp only [Int.reduceToNat] at ho7; rw [← Ny258.out] at ho7))
  have HO260 := rl ho7
  replace BK256 := zb BK256 hb
  replace BK257 := zb BK257 hb
  replace HB := sb hb
  clear hb ho7
  refine hK.out _ _ cl (fun hHeld => ?_)
  clear hK K
  refine norm_ (a' := ?_) ?_ ?_
  rotate_left
  ·show Act.put _ (some 7) _ = _
   simp only [Act.put, List.setIfInBounds_toArray, List.set_cons_zero, List.set_cons_succ, i64_w, i32_w]
   rfl
  refine one_ (i := 7) (N := some 10) #[true, true, true, true, true, true, true, true, false, false] rfl rfl (one_of HT_.out (by kernel_rfl)) (by decide) (fun K hK => ?_)
  refine Kd.R_append_rows_step k58 (w0 := w) w.heap.size (by rfl) (.tmp 7) (.tmp 9) 30 58 (.agg #[(.int .i64 0), (.int .i64 0)]) 16 rfl Try.underlying30 info58 rfl (by decide) (by omega) v259 y258 l0_2 _ _ _ (fun _ => True) (fun _ => False) rfl rfl ?aO ?aR (fun _ _ h => h) (fun _ h => h.elim) ?aF ?aB ?aS ?aL ?_
  (case aR => repeat (first | exact (Kd.C_below HR0_2.out HB.out) | (with_reducible refine Kd.C_alloc ?_ _) | (with_reducible refine Kd.C_drewN ?_ _) | (with_reducible refine Kd.C_drew ?_)))
  (case aB => exact bq)
  (case aF => exact (fun _ _ => trivial))
  (case aO => exact (rq HO260))
  (case aS => exact (below_size bq))
  (case aL => have := LMc2.out; omega)
  intro v262 w8 ho hb hg hat
  rw [← Ny261.out] at ho
  have n0_ := am (blk_grown (g := gb256) (o := .cells #[.int .i64 a0_0, .int .i64 a0_1, .slice A0_2 l0_2.length c0_2] 32 (0, 0)) (zq BK256) hg (Kd.R_ne HO260.out BK256.out (by decide)))
  have n1_ := am (blk_grown (g := gb257) (o := .cells #[.int .i64 0, .int .i64 0, .slice none 0 0] 32 (0, 0)) (zq BK257) hg (Kd.R_ne HO260.out BK257.out (by decide)))
  have n2_ := am (hb)
  have n3_ := am (ho)
  clear BK256 BK257 HB HO260
  have BK256 := n0_
  have BK257 := n1_
  have HB := n2_
  have HO263 := n3_
  clear n0_ n1_ n2_ n3_ ho hb hg hat
  obtain ⟨Ao9, co9, eo9⟩ := Kd.R_slice HO263.out
  (first | subst eo9 | (injection eo9 with f1_ f2_ f3_; have f4_ := f1_.symm; have f5_ := f3_.symm; clear f1_ f2_ f3_; subst f4_; subst f5_))
  refine hK.out _ _ cl (fun hHeld => ?_)
  clear hK K
  refine norm_ (a' := ?_) ?_ ?_
  rotate_left
  ·show Act.put _ (some 10) _ = _
   simp only [Act.put, List.setIfInBounds_toArray, List.set_cons_zero, List.set_cons_succ, i64_w, i32_w]
   rfl
  refine pure_ (i := 8) (N := some 11) (v := ?_) (a' := ?_) #[true, true, true, true, true, true, true, true, true, false] rfl rfl (any_of HT_.out (by kernel_rfl)) (fun _ _ _ h => h) (Or.inl ⟨by rfl, ?_⟩) ?_ ?_
  rotate_left
  ·intro w'
   go_simp
   with_reducible rfl
  rotate_left
  ·simp only [Act.put, List.setIfInBounds_toArray, List.set_cons_zero, List.set_cons_succ, i64_w, i32_w]
   rfl
  refine one_ (i := 9) (N := none) #[true, true, true, true, true, true, true, true, true, true] rfl rfl (one_of HT_.out (by kernel_rfl)) (by decide) (fun K hK => ?_)
  have hs10 : w8.cell? ⟨gb257, 0, none⟩ = some (.int .i64 0) := (blk_cell BK257.out 0).trans rfl
  have hfs10 := blk_frozen BK257.out 0
  have hns10_0 := NB256_257.out
  have hms10_0 := NB257_256.out
  have hs11 : w8.cell? ⟨gb257, 1, none⟩ = some (.int .i64 0) := (blk_cell BK257.out 1).trans rfl
  have hfs11 := blk_frozen BK257.out 1
  have hns11_0 := NB256_257.out
  have hms11_0 := NB257_256.out
  have hs12 : w8.cell? ⟨gb257, 2, none⟩ = some (.slice none 0 0) := (blk_cell BK257.out 2).trans rfl
  have hfs12 := blk_frozen BK257.out 2
  have hns12_0 := NB256_257.out
  have hms12_0 := NB257_256.out
  refine skip_ (w1 := ?_) (by rfl) rfl ?_ ?_
  rotate_left
  ·go_simp
   rfl
  refine hK.out _ _ (chf hHeld) (fun hHeld => ?_)
  clear hK K
  refine done_ (done_of HT_.out (by kernel_rfl)) ?_
  try go_wp2
  refine bodyPost_ret (results_cell_row rfl _ _ gb257 32 #[.int .i64 a0_0, .int .i64 a0_1, .slice Ao9 y261.length co9] (0, 0) _ rfl (zp BK257) Try.underlying32 rfl (by kernel_rfl)) rfl ?_
  exact ⟨_, eq_, Kd.R_mono (ff HO263 BK257) (fun _ hk => trivial), bq⟩
 ·rw [if_neg c2] at H
  exact absurd H (by simp)


/-! ### spec_seOwn: function 71 -/
def spec_seOwn.f (a0_0 : Int) (a0_1 : Int) (l0_2 : List (S58)) (l0_3 : List (S60)) (l0_4 : List (S60)) (l1 : List (S60)) (l2 : List (S60)) : Option (Int × Int × (List (S58)) × (List (S60)) × (List (S60))) := (spec_boOwn.f a0_0 a0_1 l0_2).bind fun bt487 => ((some (([] : List (S60)) : List (S60))).bind fun y492 => (if y492.length + l1.length < 3518437208883 then ((some (([] : List (S60)) : List (S60))).bind fun y498 => (if y498.length + l2.length < 3518437208883 then (some (bt487.1, bt487.2.1, bt487.2.2, (y492 ++ l1), (y498 ++ l2))) else (none))) else (none)))
set_option maxHeartbeats 8000000 in
set_option maxRecDepth 100000 in
theorem spec_seOwn.calls (a0_0 : Int) (a0_1 : Int) (A0_2 : Option Addr) (c0_2 : Nat) (l0_2 : List (S58)) (A0_3 : Option Addr) (c0_3 : Nat) (l0_3 : List (S60)) (A0_4 : Option Addr) (c0_4 : Nat) (l0_4 : List (S60)) (A1 : Option Addr) (c1 : Nat) (l1 : List (S60)) (A2 : Option Addr) (c2 : Nat) (l2 : List (S60)) (r1 : Int) (r2 : Int) (r3 : List (S58)) (r4 : List (S60)) (r5 : List (S60)) (w : World) (hr0_2 : Kd.C k58 w A0_2 l0_2.length l0_2) (hc0_2 : l0_2.length ≤ c0_2) (hr0_3 : Kd.C k60 w A0_3 l0_3.length l0_3) (hc0_3 : l0_3.length ≤ c0_3) (hr0_4 : Kd.C k60 w A0_4 l0_4.length l0_4) (hc0_4 : l0_4.length ≤ c0_4) (hr1 : Kd.C k60 w A1 l1.length l1) (hc1 : l1.length ≤ c1) (hr2 : Kd.C k60 w A2 l2.length l2) (hc2 : l2.length ≤ c2) (h : spec_seOwn.f a0_0 a0_1 l0_2 l0_3 l0_4 l1 l2 = some (r1, r2, r3, r4, r5)) :
  Calls Try.prog 71 #[.agg #[.int .i64 a0_0, .int .i64 a0_1, .slice A0_2 l0_2.length c0_2, .slice A0_3 l0_3.length c0_3, .slice A0_4 l0_4.length c0_4], .slice A1 l1.length c1, .slice A2 l2.length c2] w fun e w' => ∃ v2_ v3_ v4_ : Value, e = .returned (.agg #[.int .i64 r1, .int .i64 r2, v2_, v3_, v4_]) ∧ Kd.R k58 58 w' w.heap.size (fun _ => True) v2_ r3 ∧ Kd.R k60 60 w' w.heap.size (fun k_ => some k_ ≠ (v4_ : Value).ownBlock) v3_ r4 ∧ Kd.R k60 60 w' w.heap.size (fun k_ => some k_ ≠ (v3_ : Value).ownBlock) v4_ r5 ∧ Below w.heap.size w w' := by
 have hu35 := Try.underlying35
 have hu32 := Try.underlying32
 have HR0_2 := am hr0_2
 have HC0_2 := am hc0_2
 clear hr0_2 hc0_2
 have HR0_3 := am hr0_3
 have HC0_3 := am hc0_3
 clear hr0_3 hc0_3
 have HR0_4 := am hr0_4
 have HC0_4 := am hc0_4
 clear hr0_4 hc0_4
 have HR1 := am hr1
 have HC1 := am hc1
 clear hr1 hc1
 have HR2 := am hr2
 have HC2 := am hc2
 clear hr2 hc2
 have HB := am (Below.refl w.heap.size w)
 have H : ((spec_boOwn.f a0_0 a0_1 l0_2).bind fun bt487 => ((some (([] : List (S60)) : List (S60))).bind fun y492 => (if y492.length + l1.length < 3518437208883 then ((some (([] : List (S60)) : List (S60))).bind fun y498 => (if y498.length + l2.length < 3518437208883 then (some (bt487.1, bt487.2.1, bt487.2.2, (y492 ++ l1), (y498 ++ l2))) else (none))) else (none)))) = some (r1, r2, r3, r4, r5) := h
 clear h
 obtain ⟨⟨t487, t488, t489⟩, A4, H⟩ := bindq H
 try dsimp only at H
 obtain ⟨y492, hy492⟩ : ∃ y_ : List (S60), y_ = (([] : List (S60))) := ⟨_, rfl⟩
 replace H : (if y492.length + l1.length < 3518437208883 then ((some (([] : List (S60)) : List (S60))).bind fun y498 => (if y498.length + l2.length < 3518437208883 then (some (t487, t488, t489, (y492 ++ l1), (y498 ++ l2))) else (none))) else (none)) = some (r1, r2, r3, r4, r5) := by first | (rw [hy492]; with_reducible exact H) | (have H2_ := (Option.bind_some _ _).symm.trans H; rw [hy492]; with_reducible exact H2_) | (have H2_ := (Option.bind_some _ _).symm.trans H; with_reducible exact H2_) | with_reducible exact H | (rw [hy492]; exact H) | exact H
 have Ny492 := am hy492
 clear hy492
 by_cases c5 : y492.length + l1.length < 3518437208883
 ·rw [if_pos c5] at H
  have LMc5 := am c5
  clear c5
  obtain ⟨y495, hy495⟩ : ∃ y_ : List (S60), y_ = (y492 ++ l1) := ⟨_, rfl⟩
  replace H : ((some (([] : List (S60)) : List (S60))).bind fun y498 => (if y498.length + l2.length < 3518437208883 then (some (t487, t488, t489, y495, (y498 ++ l2))) else (none))) = some (r1, r2, r3, r4, r5) := by first | (rw [hy495]; with_reducible exact H) | (have H2_ := (Option.bind_some _ _).symm.trans H; rw [hy495]; with_reducible exact H2_) | (have H2_ := (Option.bind_some _ _).symm.trans H; with_reducible exact H2_) | with_reducible exact H | (rw [hy495]; exact H) | exact H
  have Ny495 := am hy495
  clear hy495
  obtain ⟨y498, hy498⟩ : ∃ y_ : List (S60), y_ = (([] : List (S60))) := ⟨_, rfl⟩
  replace H : (if y498.length + l2.length < 3518437208883 then (some (t487, t488, t489, y495, (y498 ++ l2))) else (none)) = some (r1, r2, r3, r4, r5) := by first | (rw [hy498]; with_reducible exact H) | (have H2_ := (Option.bind_some _ _).symm.trans H; rw [hy498]; with_reducible exact H2_) | (have H2_ := (Option.bind_some _ _).symm.trans H; with_reducible exact H2_) | with_reducible exact H | (rw [hy498]; exact H) | exact H
  have Ny498 := am hy498
  clear hy498
  by_cases c6 : y498.length + l2.length < 3518437208883
  ·rw [if_pos c6] at H
   have LMc6 := am c6
   clear c6
   obtain ⟨y501, hy501⟩ : ∃ y_ : List (S60), y_ = (y498 ++ l2) := ⟨_, rfl⟩
   replace H : (some (t487, t488, t489, y495, y501)) = some (r1, r2, r3, r4, r5) := by first | (rw [hy501]; with_reducible exact H) | (have H2_ := (Option.bind_some _ _).symm.trans H; rw [hy501]; with_reducible exact H2_) | (have H2_ := (Option.bind_some _ _).symm.trans H; with_reducible exact H2_) | with_reducible exact H | (rw [hy501]; exact H) | exact H
   have Ny501 := am hy501
   clear hy501
   simp only [Option.some.injEq, Prod.mk.injEq] at H
   obtain ⟨rfl, rfl, rfl, rfl, rfl⟩ := H
   go_enter Try.func71, Try.ntmps71
   go_wp2_with (first | ((with_reducible refine gate_dst (N := 3) rfl ?_); refine box_event ?hg (N := 3) ?hd (cs := #[.int .i64 a0_0, .int .i64 a0_1, .slice A0_2 l0_2.length c0_2, .slice A0_3 l0_3.length c0_3, .slice A0_4 l0_4.length c0_4]) (t := 35) ?hr ?_; (case hd => rfl); (case hg => rfl); (case hr => first | (go_simp; done) | (go_simp; rfl)); intro gb485 hg w7 hbox hb; have BK485 := am (hbox); have GW485 := am (gq hg); have GE485 := am (gq hg); replace HB := sb hb; clear hb hbox hg) | ((with_reducible refine gate_dst (N := 6) rfl ?_); refine box_event ?hg (N := 6) ?hd (cs := #[.int .i64 0, .int .i64 0, .slice none 0 0, .slice none 0 0, .slice none 0 0]) (t := 35) ?hr ?_; (case hd => rfl); (case hg => rfl); (case hr => first | (go_simp; done) | (go_simp; rfl)); intro gb486 hg w8 hbox hb; have BK486 := am (hbox); have GW486 := am (gq hg); have GE486 := am (gq hg); replace HB := sb hb; have NB485_486 := nl hg BK485; have NB486_485 := ng hg BK485; replace BK485 := zb BK485 hb; clear hb hbox hg; have hnb9 := NB485_486.out; have hnc9 := NB486_485.out; have ⟨hcz10_0, hcz10_1, hcz10_2, hcz10_3, hcz10_4, hfz10_0, hfz10_1, hfz10_2, hfz10_3, hfz10_4⟩ := bc5 BK485) | ((with_reducible refine gate_callee (f := 65) rfl ?_); refine goesQ (some 9) Try.func65 #[.agg #[.int .i64 a0_0, .int .i64 a0_1, .slice A0_2 l0_2.length c0_2]] ?_; (with_reducible refine (spec_boOwn.calls a0_0 a0_1 _ _ l0_2 t487 t488 t489 _ ?s1 ?s2 A4.out).mono ?_); (case s1 => exact cq (Kd.C_below HR0_2.out HB.out)); (case s2 => exact HC0_2.out); rintro e w11 ⟨v490, rfl, ho0, hb⟩; refine ⟨_, rfl, ?_⟩; have HO491 := rl ho0; replace BK485 := zb BK485 hb; replace BK486 := zb BK486 hb; replace HB := sb hb; (try clear hb ho0)) | ((with_reducible refine gate_dst (N := 10) rfl ?_); refine Kd.R_lit k60 _ 60 ?hg (N := 10) ?hd (xs := ([] : List (S60))) (inner := []) (ok := fun _ => True) (okp := fun _ => True) ?hr ?hp (fun _ hk => hk) trivial (Below.refl _ _) (Nat.le_refl _) (by simp) ?_; (case hd => rfl); (case hg => rfl); (case hr => first | (go_simp; done) | (go_simp; rfl)); (case hp => exact (Reps.none _ _)); intro v493 w12 ho13 hb hg_ hnew_; clear hg_ hnew_; (first | rw [← Ny492.out] at ho13 | (simp only [Int.reduceToNat] at ho13; rw [← Ny492.out] at ho13)); replace HO491 := rb HO491 hb; have HO494 := rl ho13; replace BK485 := zb BK485 hb; replace BK486 := zb BK486 hb; replace HB := sb hb; clear hb ho13) | ((with_reducible refine gate_builtin (b := .append) (xs := #[.tmp 10, .tmp 11]) rfl ?_); at_builtin; refine Kd.R_append_rows k60 (w0 := w) w.heap.size rfl (.tmp 10) (.tmp 11) 33 60 (.agg #[(.int .i64 0), (.int .i64 0), (.int .i64 0), (.int .i64 0), (.int .i64 0)]) 40 rfl Try.underlying33 info60 rfl (by decide) (by omega) v493 y492 l1 _ _ _ (fun _ => True) (fun _ => False) rfl rfl ?aO ?aR (fun _ _ h => h) (fun _ h => h.elim) ?aF ?aB ?aS ?aL ?_; (case aR => repeat (first | exact (Kd.C_below HR1.out HB.out) | (with_reducible refine Kd.C_alloc ?_ _) | (with_reducible refine Kd.C_drewN ?_ _) | (with_reducible refine Kd.C_drew ?_))); (case aB => exact bq); (case aF => exact (fun _ _ => trivial)); (case aO => exact (rq HO494)); (case aS => exact (below_size bq)); (case aL => have := LMc5.out; omega); intro v496 w14 ho hb hg hat; rw [← Ny495.out] at ho; have n0_ := am (blk_grown (g := gb485) (o := .cells #[.int .i64 a0_0, .int .i64 a0_1, .slice A0_2 l0_2.length c0_2, .slice A0_3 l0_3.length c0_3, .slice A0_4 l0_4.length c0_4] 35 (0, 0)) (zq BK485) hg (Kd.R_ne HO494.out BK485.out (by decide))); have n1_ := am (blk_grown (g := gb486) (o := .cells #[.int .i64 0, .int .i64 0, .slice none 0 0, .slice none 0 0, .slice none 0 0] 35 (0, 0)) (zq BK486) hg (Kd.R_ne HO494.out BK486.out (by decide))); have n2_ := am (Kd.R_over' (rq HO491) (Kd.R_typed (rq HO494)) (by decide) hg); have n3_ := am (hb); have n4_ := am (ho); clear BK485; clear BK486; clear HO491; clear HB; clear HO494; have BK485 := n0_; have BK486 := n1_; have HO491 := n2_; have HB := n3_; have HO497 := n4_; clear n0_ n1_ n2_ n3_ n4_; clear ho hb hg hat) | ((with_reducible refine gate_dst (N := 13) rfl ?_); refine Kd.R_lit k60 _ 60 ?hg (N := 13) ?hd (xs := ([] : List (S60))) (inner := []) (ok := fun _ => True) (okp := fun _ => True) ?hr ?hp (fun _ hk => hk) trivial (Below.refl _ _) (Nat.le_refl _) (by simp) ?_; (case hd => rfl); (case hg => rfl); (case hr => first | (go_simp; done) | (go_simp; rfl)); (case hp => exact (Reps.none _ _)); intro v499 w15 ho16 hb hg_ hnew_; clear hg_ hnew_; (first | rw [← Ny498.out] at ho16 | (simp only [Int.reduceToNat] at ho16; rw [← Ny498.out] at ho16)); replace HO491 := rb HO491 hb; have HO500 := rl (Kd.R_new' ho16 (lw HO497)); replace HO497 := am (Kd.R_elder' (rq HO497) (Kd.R_base ho16) hb); replace BK485 := zb BK485 hb; replace BK486 := zb BK486 hb; replace HB := sb hb; clear hb ho16) | ((with_reducible refine gate_builtin (b := .append) (xs := #[.tmp 13, .tmp 14]) rfl ?_); at_builtin; refine Kd.R_append_rows k60 (w0 := w) w.heap.size rfl (.tmp 13) (.tmp 14) 33 60 (.agg #[(.int .i64 0), (.int .i64 0), (.int .i64 0), (.int .i64 0), (.int .i64 0)]) 40 rfl Try.underlying33 info60 rfl (by decide) (by omega) v499 y498 l2 _ _ _ (fun k_ => some k_ ≠ (v496 : Value).ownBlock) (fun _ => False) rfl rfl ?aO ?aR (fun _ _ h => h) (fun _ h => h.elim) ?aF ?aB ?aS ?aL ?_; (case aR => repeat (first | exact (Kd.C_below HR2.out HB.out) | (with_reducible refine Kd.C_alloc ?_ _) | (with_reducible refine Kd.C_drewN ?_ _) | (with_reducible refine Kd.C_drew ?_))); (case aB => exact bq); (case aF => exact (fun k_ hk => Kd.fresh' (lw HO497) k_ hk)); (case aO => exact (rm HO500)); (case aS => exact (below_size bq)); (case aL => have := LMc6.out; omega); intro v502 w17 ho hb hg hat; rw [← Ny501.out] at ho; have n0_ := am (blk_grown (g := gb485) (o := .cells #[.int .i64 a0_0, .int .i64 a0_1, .slice A0_2 l0_2.length c0_2, .slice A0_3 l0_3.length c0_3, .slice A0_4 l0_4.length c0_4] 35 (0, 0)) (zq BK485) hg (Kd.R_ne HO500.out BK485.out (by decide))); have n1_ := am (blk_grown (g := gb486) (o := .cells #[.int .i64 0, .int .i64 0, .slice none 0 0, .slice none 0 0, .slice none 0 0] 35 (0, 0)) (zq BK486) hg (Kd.R_ne HO500.out BK486.out (by decide))); have n2_ := am (Kd.R_over' (rq HO491) (Kd.R_typed (rq HO500)) (by decide) hg); have n3_ := am (Kd.R_after (ok := (fun _ => True)) (rq HO497) hg hat); have n4_ := am (hb); have n5_ := am (ho); clear BK485; clear BK486; clear HO491; clear HO497; clear HB; clear HO500; have BK485 := n0_; have BK486 := n1_; have HO491 := n2_; have HO497 := n3_; have HB := n4_; have HO503 := n5_; clear n0_ n1_ n2_ n3_ n4_ n5_; clear ho hb hg hat; obtain ⟨Ao18, co18, eo18⟩ := Kd.R_slice HO503.out; subst eo18; obtain ⟨Ao19, co19, eo19⟩ := Kd.R_slice HO497.out; subst eo19; obtain ⟨Ao20, co20, eo20⟩ := Kd.R_slice HO491.out; subst eo20; have ⟨hcz21_0, hcz21_1, hcz21_2, hcz21_3, hcz21_4, hfz21_0, hfz21_1, hfz21_2, hfz21_3, hfz21_4⟩ := bc5 BK486))
   refine bodyPost_ret (results_cell_row rfl _ _ gb486 35 #[.int .i64 t487, .int .i64 t488, .slice Ao20 t489.length co20, .slice Ao19 y495.length co19, .slice Ao18 y501.length co18] (0, 0) _ rfl (zp BK486) Try.underlying35 rfl (by kernel_rfl)) rfl ?_
   exact ⟨_, _, _, eq_, Kd.R_mono (ff HO491 BK486) (fun _ hk => trivial), Kd.R_mono (ff HO497 BK486) (fun _ hk => hk.1.2), Kd.R_mono (ff HO503 BK486) (fun _ hk => hk.1), bq⟩
  ·rw [if_neg c6] at H
   exact absurd H (by simp)
 ·rw [if_neg c5] at H
  exact absurd H (by simp)


/-! ### spec_seDo: function 73 -/
def spec_seDo.f (k : Nat) (a0_0 : Int) (a0_1 : Int) (l0_2 : List (S58)) (l0_3 : List (S60)) (l0_4 : List (S60)) (a1_0 : Int) (a1_1 : Int) (a1_2 : Int) (a1_3 : Int) (a1_4 : Int) : Option (Int × Int × (List (S58)) × (List (S60)) × (List (S60)) × Bool) := (spec_seAct.f k a0_0 a0_1 l0_2 a1_0 a1_1 a1_2 a1_3 a1_4).bind fun t816 => (if t816 = true then (if (l0_3.length : Int) = 40 then (some (0, 0, ([] : List (S58)), ([] : List (S60)), ([] : List (S60)), false)) else ((spec_seOwn.f a0_0 a0_1 l0_2 l0_3 l0_4 l0_3 ([] : List (S60))).bind fun bt817 => (if bt817.2.2.2.1.length < 3518437208883 then (some (bt817.1, bt817.2.1, bt817.2.2.1, (bt817.2.2.2.1 ++ [(⟨a1_0, a1_1, a1_2, (⟨a1_3, a1_4⟩ : S58)⟩ : S60)]), bt817.2.2.2.2, true)) else (none)))) else (some (0, 0, ([] : List (S58)), ([] : List (S60)), ([] : List (S60)), false)))
theorem spec_seDo.mono : ∀ a0 a1 a2 a3 a4 a5 a6 a7 a8 a9 k, LeO (spec_seDo.f k a0 a1 a2 a3 a4 a5 a6 a7 a8 a9) (spec_seDo.f (k + 1) a0 a1 a2 a3 a4 a5 a6 a7 a8 a9) := by
 intro a0 a1 a2 a3 a4 a5 a6 a7 a8 a9 k
 unfold spec_seDo.f
 repeat' first
   | (with_reducible exact spec_seAct.mono _ _ _ _ _ _ _ _ _)
   | (with_reducible exact LeO.refl _)
   | (with_reducible exact LeO.none _)
   | (with_reducible refine LeO.ite ?_ ?_)
   | (with_reducible refine LeO.bind ?_ (fun _ => ?_))
   | exact spec_seAct.mono _ _ _ _ _ _ _ _ _
   | exact LeO.none _
   | refine LeO.ite ?_ ?_
   | refine LeO.bind ?_ (fun _ => ?_)
set_option maxHeartbeats 8000000 in
set_option maxRecDepth 100000 in
theorem spec_seDo.calls (k : Nat) (a0_0 : Int) (a0_1 : Int) (A0_2 : Option Addr) (c0_2 : Nat) (l0_2 : List (S58)) (A0_3 : Option Addr) (c0_3 : Nat) (l0_3 : List (S60)) (A0_4 : Option Addr) (c0_4 : Nat) (l0_4 : List (S60)) (a1_0 : Int) (a1_1 : Int) (a1_2 : Int) (a1_3 : Int) (a1_4 : Int) (r1 : Int) (r2 : Int) (r3 : List (S58)) (r4 : List (S60)) (r5 : List (S60)) (r6 : Bool) (w : World) (hr0_2 : Kd.C k58 w A0_2 l0_2.length l0_2) (hc0_2 : l0_2.length ≤ c0_2) (hr0_3 : Kd.C k60 w A0_3 l0_3.length l0_3) (hc0_3 : l0_3.length ≤ c0_3) (hr0_4 : Kd.C k60 w A0_4 l0_4.length l0_4) (hc0_4 : l0_4.length ≤ c0_4) (h : spec_seDo.f k a0_0 a0_1 l0_2 l0_3 l0_4 a1_0 a1_1 a1_2 a1_3 a1_4 = some (r1, r2, r3, r4, r5, r6)) :
  Calls Try.prog 73 #[.agg #[.int .i64 a0_0, .int .i64 a0_1, .slice A0_2 l0_2.length c0_2, .slice A0_3 l0_3.length c0_3, .slice A0_4 l0_4.length c0_4], .agg #[.int .i64 a1_0, .int .i64 a1_1, .int .i64 a1_2, .int .i64 a1_3, .int .i64 a1_4]] w fun e w' => ∃ v2_ v3_ v4_ : Value, e = .returned (.tuple #[.agg #[.int .i64 r1, .int .i64 r2, v2_, v3_, v4_], .bool r6]) ∧ Kd.R k58 58 w' w.heap.size (fun _ => True) v2_ r3 ∧ Kd.R k60 60 w' w.heap.size (fun k_ => some k_ ≠ (v4_ : Value).ownBlock) v3_ r4 ∧ Kd.R k60 60 w' w.heap.size (fun k_ => some k_ ≠ (v3_ : Value).ownBlock) v4_ r5 ∧ Below w.heap.size w w' := by
 have hu35 := Try.underlying35
 have hu60 := Try.underlying60
 have hu32 := Try.underlying32
 have HR0_2 := am hr0_2
 have HC0_2 := am hc0_2
 clear hr0_2 hc0_2
 have HR0_3 := am hr0_3
 have HC0_3 := am hc0_3
 clear hr0_3 hc0_3
 have HR0_4 := am hr0_4
 have HC0_4 := am hc0_4
 clear hr0_4 hc0_4
 have HB := am (Below.refl w.heap.size w)
 have H : ((spec_seAct.f k a0_0 a0_1 l0_2 a1_0 a1_1 a1_2 a1_3 a1_4).bind fun t816 => (if t816 = true then (if (l0_3.length : Int) = 40 then (some (0, 0, ([] : List (S58)), ([] : List (S60)), ([] : List (S60)), false)) else ((spec_seOwn.f a0_0 a0_1 l0_2 l0_3 l0_4 l0_3 ([] : List (S60))).bind fun bt817 => (if bt817.2.2.2.1.length < 3518437208883 then (some (bt817.1, bt817.2.1, bt817.2.2.1, (bt817.2.2.2.1 ++ [(⟨a1_0, a1_1, a1_2, (⟨a1_3, a1_4⟩ : S58)⟩ : S60)]), bt817.2.2.2.2, true)) else (none)))) else (some (0, 0, ([] : List (S58)), ([] : List (S60)), ([] : List (S60)), false)))) = some (r1, r2, r3, r4, r5, r6) := h
 clear h
 obtain ⟨t816, A3, H⟩ := bindq H
 try dsimp only at H
 by_cases c4 : t816 = true
 ·subst c4
  rw [if_pos rfl] at H
  try dsimp only at H
  by_cases c5 : (l0_3.length : Int) = 40
  ·rw [if_pos c5] at H
   have c5b0 : ((l0_3.length : Int) == 40) = true := beq_iff_eq.mpr c5
   have c5b1 : ((l0_3.length : Int) != 40) = false := bne_eq_false_iff_eq.mpr c5
   clear c5
   simp only [Option.some.injEq, Prod.mk.injEq] at H
   obtain ⟨rfl, rfl, rfl, rfl, rfl, rfl⟩ := H
   go_enter Try.func73, Try.ntmps73
   go_wp2_with (first | ((with_reducible refine gate_dst (N := 2) rfl ?_); (try (refine gate_guard (by rfl) ?_; dsimp only)); refine box_event ?hg (N := 2) ?hd (cs := #[.int .i64 a0_0, .int .i64 a0_1, .slice A0_2 l0_2.length c0_2, .slice A0_3 l0_3.length c0_3, .slice A0_4 l0_4.length c0_4]) (t := 35) ?hr ?_; (case hd => rfl); (case hg => rfl); (case hr => first | (go_simp; done) | (go_simp; rfl)); intro gb813 hg w6 hbox hb; have BK813 := am (hbox); have GW813 := am (gq hg); have GE813 := am (gq hg); replace HB := sb hb; clear hb hbox hg) | ((with_reducible refine gate_dst (N := 3) rfl ?_); (try (refine gate_guard (by rfl) ?_; dsimp only)); refine box_event ?hg (N := 3) ?hd (cs := #[.int .i64 a1_0, .int .i64 a1_1, .int .i64 a1_2, .int .i64 a1_3, .int .i64 a1_4]) (t := 60) ?hr ?_; (case hd => rfl); (case hg => rfl); (case hr => first | (go_simp; done) | (go_simp; rfl)); intro gb814 hg w7 hbox hb; have BK814 := am (hbox); have GW814 := am (gq hg); have GE814 := am (gq hg); replace HB := sb hb; have NB813_814 := nl hg BK813; have NB814_813 := ng hg BK813; replace BK813 := zb BK813 hb; clear hb hbox hg) | ((with_reducible refine gate_dst (N := 4) rfl ?_); (try (refine gate_guard (by rfl) ?_; dsimp only)); refine box_event ?hg (N := 4) ?hd (cs := #[.int .i64 0, .int .i64 0, .slice none 0 0, .slice none 0 0, .slice none 0 0]) (t := 35) ?hr ?_; (case hd => rfl); (case hg => rfl); (case hr => first | (go_simp; done) | (go_simp; rfl)); intro gb815 hg w8 hbox hb; have BK815 := am (hbox); have GW815 := am (gq hg); have GE815 := am (gq hg); replace HB := sb hb; have NB813_815 := nl hg BK813; have NB815_813 := ng hg BK813; replace BK813 := zb BK813 hb; have NB814_815 := nl hg BK814; have NB815_814 := ng hg BK814; replace BK814 := zb BK814 hb; clear hb hbox hg; have hnb9 := NB813_814.out; have hnc9 := NB814_813.out; have hnb10 := NB813_815.out; have hnc10 := NB815_813.out; have ⟨hcz11_0, hcz11_1, hcz11_2, hcz11_3, hcz11_4, hfz11_0, hfz11_1, hfz11_2, hfz11_3, hfz11_4⟩ := bc5 BK813; have hnb12 := NB814_815.out; have hnc12 := NB815_814.out; have ⟨hcz13_0, hcz13_1, hcz13_2, hcz13_3, hcz13_4, hfz13_0, hfz13_1, hfz13_2, hfz13_3, hfz13_4⟩ := bc5 BK814) | ((with_reducible refine gate_callee (f := 94) rfl ?_); refine goesQ (some 10) Try.func94 #[.agg #[.int .i64 a0_0, .int .i64 a0_1, .slice A0_2 l0_2.length c0_2], .agg #[.int .i64 a1_0, .int .i64 a1_1, .int .i64 a1_2, .int .i64 a1_3, .int .i64 a1_4]] ?_; (with_reducible refine (spec_seAct.calls k a0_0 a0_1 _ _ l0_2 a1_0 a1_1 a1_2 a1_3 a1_4 true _ ?s1 ?s2 A3.out).mono ?_); (case s1 => exact cq (Kd.C_below HR0_2.out HB.out)); (case s2 => exact HC0_2.out); rintro e w14 ⟨rfl, hb⟩; refine ⟨_, rfl, ?_⟩; replace BK813 := zb BK813 hb; replace BK814 := zb BK814 hb; replace BK815 := zb BK815 hb; replace HB := sb hb; (try clear hb); have ⟨hcz15_0, hcz15_1, hcz15_2, hcz15_3, hcz15_4, hfz15_0, hfz15_1, hfz15_2, hfz15_3, hfz15_4⟩ := bc5 BK813; have ⟨hcz16_0, hcz16_1, hcz16_2, hcz16_3, hcz16_4, hfz16_0, hfz16_1, hfz16_2, hfz16_3, hfz16_4⟩ := bc5 BK815))
   refine bodyPost_ret (results_ct rfl _ _ gb815 35 #[.int .i64 0, .int .i64 0, .slice none 0 0, .slice none 0 0, .slice none 0 0] (0, 0) _ rfl (zp BK815) Try.underlying35 rfl (by kernel_rfl)) rfl ?_
   exact ⟨_, _, _, eq_, by first | exact Kd.R_nil _ _ _ _ _ | exact Kd.N_nil _ _ _ _ _ | exact Kd.V_nil _ _ _ _ _ | exact Kd.Q_nil _ _ _ _ _ | exact Kd.S_nil _ _ _ _ _, by first | exact Kd.R_nil _ _ _ _ _ | exact Kd.N_nil _ _ _ _ _ | exact Kd.V_nil _ _ _ _ _ | exact Kd.Q_nil _ _ _ _ _ | exact Kd.S_nil _ _ _ _ _, by first | exact Kd.R_nil _ _ _ _ _ | exact Kd.N_nil _ _ _ _ _ | exact Kd.V_nil _ _ _ _ _ | exact Kd.Q_nil _ _ _ _ _ | exact Kd.S_nil _ _ _ _ _, bq⟩
  ·rw [if_neg c5] at H
   have c5b0 : ((l0_3.length : Int) == 40) = false := beq_eq_false_iff_ne.mpr c5
   have c5b1 : ((l0_3.length : Int) != 40) = true := bne_iff_ne.mpr c5
   obtain ⟨⟨t817, t818, t819, t822, t825⟩, A17, H⟩ := bindq H
   try dsimp only at H
   by_cases c18 : t822.length < 3518437208883
   ·rw [if_pos c18] at H
    have LMc18 := am c18
    clear c18
    obtain ⟨y829, hy829⟩ : ∃ y_ : List (S60), y_ = (t822 ++ [(⟨a1_0, a1_1, a1_2, (⟨a1_3, a1_4⟩ : S58)⟩ : S60)]) := ⟨_, rfl⟩
    replace H : (some (t817, t818, t819, y829, t825, true)) = some (r1, r2, r3, r4, r5, r6) := by first | (rw [hy829]; with_reducible exact H) | (have H2_ := (Option.bind_some _ _).symm.trans H; rw [hy829]; with_reducible exact H2_) | (have H2_ := (Option.bind_some _ _).symm.trans H; with_reducible exact H2_) | with_reducible exact H | (rw [hy829]; exact H) | exact H
    have Ny829 := am hy829
    clear hy829
    simp only [Option.some.injEq, Prod.mk.injEq] at H
    obtain ⟨rfl, rfl, rfl, rfl, rfl, rfl⟩ := H
    go_enter Try.func73, Try.ntmps73
    go_wp2_with (first | ((with_reducible refine gate_dst (N := 2) rfl ?_); (try (refine gate_guard (by rfl) ?_; dsimp only)); refine box_event ?hg (N := 2) ?hd (cs := #[.int .i64 a0_0, .int .i64 a0_1, .slice A0_2 l0_2.length c0_2, .slice A0_3 l0_3.length c0_3, .slice A0_4 l0_4.length c0_4]) (t := 35) ?hr ?_; (case hd => rfl); (case hg => rfl); (case hr => first | (go_simp; done) | (go_simp; rfl)); intro gb813 hg w19 hbox hb; have BK813 := am (hbox); have GW813 := am (gq hg); have GE813 := am (gq hg); replace HB := sb hb; clear hb hbox hg) | ((with_reducible refine gate_dst (N := 3) rfl ?_); (try (refine gate_guard (by rfl) ?_; dsimp only)); refine box_event ?hg (N := 3) ?hd (cs := #[.int .i64 a1_0, .int .i64 a1_1, .int .i64 a1_2, .int .i64 a1_3, .int .i64 a1_4]) (t := 60) ?hr ?_; (case hd => rfl); (case hg => rfl); (case hr => first | (go_simp; done) | (go_simp; rfl)); intro gb814 hg w20 hbox hb; have BK814 := am (hbox); have GW814 := am (gq hg); have GE814 := am (gq hg); replace HB := sb hb; have NB813_814 := nl hg BK813; have NB814_813 := ng hg BK813; replace BK813 := zb BK813 hb; clear hb hbox hg) | ((with_reducible refine gate_dst (N := 4) rfl ?_); (try (refine gate_guard (by rfl) ?_; dsimp only)); refine box_event ?hg (N := 4) ?hd (cs := #[.int .i64 0, .int .i64 0, .slice none 0 0, .slice none 0 0, .slice none 0 0]) (t := 35) ?hr ?_; (case hd => rfl); (case hg => rfl); (case hr => first | (go_simp; done) | (go_simp; rfl)); intro gb815 hg w21 hbox hb; have BK815 := am (hbox); have GW815 := am (gq hg); have GE815 := am (gq hg); replace HB := sb hb; have NB813_815 := nl hg BK813; have NB815_813 := ng hg BK813; replace BK813 := zb BK813 hb; have NB814_815 := nl hg BK814; have NB815_814 := ng hg BK814; replace BK814 := zb BK814 hb; clear hb hbox hg; have hnb22 := NB813_814.out; have hnc22 := NB814_813.out; have hnb23 := NB813_815.out; have hnc23 := NB815_813.out; have ⟨hcz24_0, hcz24_1, hcz24_2, hcz24_3, hcz24_4, hfz24_0, hfz24_1, hfz24_2, hfz24_3, hfz24_4⟩ := bc5 BK813; have hnb25 := NB814_815.out; have hnc25 := NB815_814.out; have ⟨hcz26_0, hcz26_1, hcz26_2, hcz26_3, hcz26_4, hfz26_0, hfz26_1, hfz26_2, hfz26_3, hfz26_4⟩ := bc5 BK814) | ((with_reducible refine gate_callee (f := 94) rfl ?_); refine goesQ (some 10) Try.func94 #[.agg #[.int .i64 a0_0, .int .i64 a0_1, .slice A0_2 l0_2.length c0_2], .agg #[.int .i64 a1_0, .int .i64 a1_1, .int .i64 a1_2, .int .i64 a1_3, .int .i64 a1_4]] ?_; (with_reducible refine (spec_seAct.calls k a0_0 a0_1 _ _ l0_2 a1_0 a1_1 a1_2 a1_3 a1_4 true _ ?s1 ?s2 A3.out).mono ?_); (case s1 => exact cq (Kd.C_below HR0_2.out HB.out)); (case s2 => exact HC0_2.out); rintro e w27 ⟨rfl, hb⟩; refine ⟨_, rfl, ?_⟩; replace BK813 := zb BK813 hb; replace BK814 := zb BK814 hb; replace BK815 := zb BK815 hb; replace HB := sb hb; (try clear hb); have ⟨hcz28_0, hcz28_1, hcz28_2, hcz28_3, hcz28_4, hfz28_0, hfz28_1, hfz28_2, hfz28_3, hfz28_4⟩ := bc5 BK813) | ((with_reducible refine gate_callee (f := 71) rfl ?_); refine goesQ (some 22) Try.func71 #[.agg #[.int .i64 a0_0, .int .i64 a0_1, .slice A0_2 l0_2.length c0_2, .slice A0_3 l0_3.length c0_3, .slice A0_4 l0_4.length c0_4], .slice A0_3 l0_3.length c0_3, .slice none 0 0] ?_; (refine (spec_seOwn.calls a0_0 a0_1 _ _ l0_2 _ _ l0_3 _ _ l0_4 _ _ l0_3 _ _ ([] : List (S60)) t817 t818 t819 t822 t825 _ ?s1 ?s2 ?s3 ?s4 ?s5 ?s6 ?s7 ?s8 ?s9 ?s10 A17.out).mono ?_); (case s1 => exact cq (Kd.C_below HR0_2.out HB.out)); (case s2 => exact HC0_2.out); (case s3 => exact cq (Kd.C_below HR0_3.out HB.out)); (case s4 => exact HC0_3.out); (case s5 => exact cq (Kd.C_below HR0_4.out HB.out)); (case s6 => exact HC0_4.out); (case s7 => exact cq (Kd.C_below HR0_3.out HB.out)); (case s8 => exact HC0_3.out); (case s9 => exact Kd.C_nil _ _); (case s10 => exact Nat.le_refl _); rintro e w29 ⟨v820, v823, v826, rfl, ho0, ho1, ho2, hb⟩; refine ⟨_, rfl, ?_⟩; have HO821 := rl ho0; have HO824 := am (Kd.R_lower (Kd.R_newB ho1 (g := gb814) (o := .cells #[.int .i64 a1_0, .int .i64 a1_1, .int .i64 a1_2, .int .i64 a1_3, .int .i64 a1_4] 60 (0, 0)) (zq BK814)) (below_size bq)); have HO827 := am (Kd.R_lower (Kd.R_newB ho2 (g := gb814) (o := .cells #[.int .i64 a1_0, .int .i64 a1_1, .int .i64 a1_2, .int .i64 a1_3, .int .i64 a1_4] 60 (0, 0)) (zq BK814)) (below_size bq)); replace BK813 := zb BK813 hb; replace BK814 := zb BK814 hb; replace BK815 := zb BK815 hb; replace HB := sb hb; (try clear hb ho0 ho1 ho2)) | ((with_reducible refine gate_dst (N := 6) rfl ?_); (try (refine gate_guard (by rfl) ?_; dsimp only)); refine box_event ?hg (N := 6) ?hd (cs := #[.int .i64 0, .int .i64 0, .slice none 0 0, .slice none 0 0, .slice none 0 0]) (t := 35) ?hr ?_; (case hd => rfl); (case hg => rfl); (case hr => first | (go_simp; done) | (go_simp; rfl)); intro gb828 hg w30 hbox hb; replace HO821 := rb HO821 hb; replace HO824 := rb HO824 hb; replace HO827 := rb HO827 hb; have BK828 := am (hbox); have GW828 := am (gq hg); have GE828 := am (gq hg); replace HB := sb hb; have NB813_828 := nl hg BK813; have NB828_813 := ng hg BK813; replace BK813 := zb BK813 hb; have NB814_828 := nl hg BK814; have NB828_814 := ng hg BK814; replace BK814 := zb BK814 hb; have NB815_828 := nl hg BK815; have NB828_815 := ng hg BK815; replace BK815 := zb BK815 hb; clear hb hbox hg; have hnb31 := NB828_813.out; have hnc31 := NB813_828.out; have hnb32 := NB828_814.out; have hnc32 := NB814_828.out; have hnb33 := NB828_815.out; have hnc33 := NB815_828.out; have ⟨hcz34_0, hcz34_1, hcz34_2, hcz34_3, hcz34_4, hfz34_0, hfz34_1, hfz34_2, hfz34_3, hfz34_4⟩ := bc5 BK828; obtain ⟨Ao35, co35, eo35⟩ := Kd.R_slice HO821.out; subst eo35; obtain ⟨Ao36, co36, eo36⟩ := Kd.R_slice HO824.out; subst eo36; obtain ⟨Ao37, co37, eo37⟩ := Kd.R_slice HO827.out; subst eo37; have ⟨hcz38_0, hcz38_1, hcz38_2, hcz38_3, hcz38_4, hfz38_0, hfz38_1, hfz38_2, hfz38_3, hfz38_4⟩ := bc5 BK814) | ((with_reducible refine gate_builtin (b := .append) (xs := #[.tmp 24, .tmp 26]) rfl ?_); (try (refine gate_guard (by rfl) ?_; dsimp only)); at_builtin; refine Kd.R_append k60 (w0 := w) w.heap.size rfl (.tmp 24) (.tmp 26) 33 60 (.agg #[(.int .i64 0), (.int .i64 0), (.int .i64 0), (.int .i64 0), (.int .i64 0)]) 40 rfl Try.underlying33 info60 rfl (by decide) (by omega) (.slice Ao36 t822.length co36) t822 (⟨a1_0, a1_1, a1_2, (⟨a1_3, a1_4⟩ : S58)⟩ : S60) [.int .i64 a1_0, .int .i64 a1_1, .int .i64 a1_2, .int .i64 a1_3, .int .i64 a1_4] (fun k_ => some k_ ≠ (.slice Ao37 t825.length co37 : Value).ownBlock ∧ k_ ≠ gb814) (fun _ => False) rfl (by first | (go_simp; done) | (go_simp; rfl)) ?aP (fun _ hk => hk.elim) ?aF ?aO ?aB ?aS ?aL ?_; (case aP => exact k60_mkM _ _ _ (⟨a1_0, a1_1, a1_2, (⟨a1_3, a1_4⟩ : S58)⟩ : S60)); (case aB => exact bq); (case aF => exact (fun k_ hk => ⟨Kd.fresh' (Kd.R_lt (fq HO827 BK828)) k_ hk, Kd.freshB (g := gb814) (o := .cells #[.int .i64 a1_0, .int .i64 a1_1, .int .i64 a1_2, .int .i64 a1_3, .int .i64 a1_4] 60 (0, 0)) (zp BK814) k_ hk⟩)); (case aO => exact (Kd.R_mono (ff HO824 BK828) (fun _ hk => ⟨hk.1.1, hk.1.2⟩))); (case aS => exact (below_size bq)); (case aL => have := LMc18.out; omega); intro v830 w39 ho hb hg hat; rw [← Ny829.out] at ho; have n0_ := am (blk_grown (g := gb813) (o := .cells #[.int .i64 a0_0, .int .i64 a0_1, .slice A0_2 l0_2.length c0_2, .slice A0_3 l0_3.length c0_3, .slice A0_4 l0_4.length c0_4] 35 (0, 0)) (zp BK813) hg (Kd.R_ne HO824.out BK813.out (by decide))); have n1_ := am (blk_grown (g := gb814) (o := .cells #[.int .i64 a1_0, .int .i64 a1_1, .int .i64 a1_2, .int .i64 a1_3, .int .i64 a1_4] 60 (0, 0)) (zp BK814) hg (Kd.R_away HO824.out (fun _ hk => hk.2))); have n2_ := am (blk_grown (g := gb815) (o := .cells #[.int .i64 0, .int .i64 0, .slice none 0 0, .slice none 0 0, .slice none 0 0] 35 (0, 0)) (zp BK815) hg (Kd.R_ne HO824.out BK815.out (by decide))); have n3_ := am (Kd.R_over' (fq HO821 BK828) (Kd.R_typed (fq HO824 BK828)) (by decide) hg); have n4_ := am (Kd.R_after (ok := (fun k_ => k_ ≠ gb814)) (Kd.R_mono (ff HO827 BK828) (fun _ hk => ⟨hk.1.2, hk.1.1⟩)) hg hat); have n5_ := am (blk_grown (g := gb828) (o := .cells #[.int .i64 t817, .int .i64 t818, .slice Ao35 t819.length co35, .slice Ao36 t822.length co36, .slice Ao37 t825.length co37] 35 (0, 0)) (zp BK828) hg (Kd.R_ne HO824.out BK828.out (by decide))); have n6_ := am (hb); have n7_ := am (ho); clear BK813; clear BK814; clear BK815; clear HO821; clear HO827; clear BK828; clear HB; clear HO824; have BK813 := n0_; have BK814 := n1_; have BK815 := n2_; have HO821 := n3_; have HO827 := n4_; have BK828 := n5_; have HB := n6_; have HO831 := n7_; clear n0_ n1_ n2_ n3_ n4_ n5_ n6_ n7_; clear ho hb hg hat; obtain ⟨Ao40, co40, eo40⟩ := Kd.R_slice HO831.out; subst eo40; have ⟨hcz41_0, hcz41_1, hcz41_2, hcz41_3, hcz41_4, hfz41_0, hfz41_1, hfz41_2, hfz41_3, hfz41_4⟩ := bc5 BK828; have ⟨hcz42_0, hcz42_1, hcz42_2, hcz42_3, hcz42_4, hfz42_0, hfz42_1, hfz42_2, hfz42_3, hfz42_4⟩ := bc5 BK815))
    refine bodyPost_ret (results_ct rfl _ _ gb815 35 #[.int .i64 t817, .int .i64 t818, .slice Ao35 t819.length co35, .slice Ao40 y829.length co40, .slice Ao37 t825.length co37] (0, 0) _ rfl (zp BK815) Try.underlying35 rfl (by kernel_rfl)) rfl ?_
    exact ⟨_, _, _, eq_, by (with_reducible repeat (first | apply Kd.R_alloc | apply Kd.R_drewN | apply Kd.R_drew)); exact Kd.R_mono (Kd.R_far (p := ⟨gb815, 4, none⟩) (Kd.R_far (p := ⟨gb815, 3, none⟩) (Kd.R_far (p := ⟨gb815, 2, none⟩) (Kd.R_far (p := ⟨gb815, 1, none⟩) (Kd.R_far (p := ⟨gb815, 0, none⟩) (Kd.R_far (p := ⟨gb828, 3, none⟩) (Kd.R_types (Kd.R_types HO821.out BK828.out (by decide)) BK815.out (by decide)) (fun _ hk => hk.1.2) (.slice Ao40 y829.length co40)) (fun _ hk => hk.2) (.int .i64 t817)) (fun _ hk => hk.2) (.int .i64 t818)) (fun _ hk => hk.2) (.slice Ao35 t819.length co35)) (fun _ hk => hk.2) (.slice Ao40 y829.length co40)) (fun _ hk => hk.2) (.slice Ao37 t825.length co37)) (fun _ hk => trivial), by (with_reducible repeat (first | apply Kd.R_alloc | apply Kd.R_drewN | apply Kd.R_drew)); exact Kd.R_mono (Kd.R_far (p := ⟨gb815, 4, none⟩) (Kd.R_far (p := ⟨gb815, 3, none⟩) (Kd.R_far (p := ⟨gb815, 2, none⟩) (Kd.R_far (p := ⟨gb815, 1, none⟩) (Kd.R_far (p := ⟨gb815, 0, none⟩) (Kd.R_far (p := ⟨gb828, 3, none⟩) (Kd.R_types (Kd.R_types HO831.out BK828.out (by decide)) BK815.out (by decide)) (fun _ hk => hk.1.2) (.slice Ao40 y829.length co40)) (fun _ hk => hk.2) (.int .i64 t817)) (fun _ hk => hk.2) (.int .i64 t818)) (fun _ hk => hk.2) (.slice Ao35 t819.length co35)) (fun _ hk => hk.2) (.slice Ao40 y829.length co40)) (fun _ hk => hk.2) (.slice Ao37 t825.length co37)) (fun _ hk => hk.1.1.1), by (with_reducible repeat (first | apply Kd.R_alloc | apply Kd.R_drewN | apply Kd.R_drew)); exact Kd.R_mono (Kd.R_far (p := ⟨gb815, 4, none⟩) (Kd.R_far (p := ⟨gb815, 3, none⟩) (Kd.R_far (p := ⟨gb815, 2, none⟩) (Kd.R_far (p := ⟨gb815, 1, none⟩) (Kd.R_far (p := ⟨gb815, 0, none⟩) (Kd.R_far (p := ⟨gb828, 3, none⟩) (Kd.R_types (Kd.R_types HO827.out BK828.out (by decide)) BK815.out (by decide)) (fun _ hk => hk.1.2) (.slice Ao40 y829.length co40)) (fun _ hk => hk.2) (.int .i64 t817)) (fun _ hk => hk.2) (.int .i64 t818)) (fun _ hk => hk.2) (.slice Ao35 t819.length co35)) (fun _ hk => hk.2) (.slice Ao40 y829.length co40)) (fun _ hk => hk.2) (.slice Ao37 t825.length co37)) (fun _ hk => hk.1.1.2), bq⟩
   ·rw [if_neg c18] at H
    exact absurd H (by simp)
 ·replace c4 := Bool.eq_false_iff.mpr c4
  subst c4
  rw [if_neg (show ¬ (false = true) by decide)] at H
  try dsimp only at H
  simp only [Option.some.injEq, Prod.mk.injEq] at H
  obtain ⟨rfl, rfl, rfl, rfl, rfl, rfl⟩ := H
  go_enter Try.func73, Try.ntmps73
  go_wp2_with (first | ((with_reducible refine gate_dst (N := 2) rfl ?_); (try (refine gate_guard (by rfl) ?_; dsimp only)); refine box_event ?hg (N := 2) ?hd (cs := #[.int .i64 a0_0, .int .i64 a0_1, .slice A0_2 l0_2.length c0_2, .slice A0_3 l0_3.length c0_3, .slice A0_4 l0_4.length c0_4]) (t := 35) ?hr ?_; (case hd => rfl); (case hg => rfl); (case hr => first | (go_simp; done) | (go_simp; rfl)); intro gb813 hg w43 hbox hb; have BK813 := am (hbox); have GW813 := am (gq hg); have GE813 := am (gq hg); replace HB := sb hb; clear hb hbox hg) | ((with_reducible refine gate_dst (N := 3) rfl ?_); (try (refine gate_guard (by rfl) ?_; dsimp only)); refine box_event ?hg (N := 3) ?hd (cs := #[.int .i64 a1_0, .int .i64 a1_1, .int .i64 a1_2, .int .i64 a1_3, .int .i64 a1_4]) (t := 60) ?hr ?_; (case hd => rfl); (case hg => rfl); (case hr => first | (go_simp; done) | (go_simp; rfl)); intro gb814 hg w44 hbox hb; have BK814 := am (hbox); have GW814 := am (gq hg); have GE814 := am (gq hg); replace HB := sb hb; have NB813_814 := nl hg BK813; have NB814_813 := ng hg BK813; replace BK813 := zb BK813 hb; clear hb hbox hg) | ((with_reducible refine gate_dst (N := 4) rfl ?_); (try (refine gate_guard (by rfl) ?_; dsimp only)); refine box_event ?hg (N := 4) ?hd (cs := #[.int .i64 0, .int .i64 0, .slice none 0 0, .slice none 0 0, .slice none 0 0]) (t := 35) ?hr ?_; (case hd => rfl); (case hg => rfl); (case hr => first | (go_simp; done) | (go_simp; rfl)); intro gb815 hg w45 hbox hb; have BK815 := am (hbox); have GW815 := am (gq hg); have GE815 := am (gq hg); replace HB := sb hb; have NB813_815 := nl hg BK813; have NB815_813 := ng hg BK813; replace BK813 := zb BK813 hb; have NB814_815 := nl hg BK814; have NB815_814 := ng hg BK814; replace BK814 := zb BK814 hb; clear hb hbox hg; have hnb46 := NB813_814.out; have hnc46 := NB814_813.out; have hnb47 := NB813_815.out; have hnc47 := NB815_813.out; have ⟨hcz48_0, hcz48_1, hcz48_2, hcz48_3, hcz48_4, hfz48_0, hfz48_1, hfz48_2, hfz48_3, hfz48_4⟩ := bc5 BK813; have hnb49 := NB814_815.out; have hnc49 := NB815_814.out; have ⟨hcz50_0, hcz50_1, hcz50_2, hcz50_3, hcz50_4, hfz50_0, hfz50_1, hfz50_2, hfz50_3, hfz50_4⟩ := bc5 BK814) | ((with_reducible refine gate_callee (f := 94) rfl ?_); refine goesQ (some 10) Try.func94 #[.agg #[.int .i64 a0_0, .int .i64 a0_1, .slice A0_2 l0_2.length c0_2], .agg #[.int .i64 a1_0, .int .i64 a1_1, .int .i64 a1_2, .int .i64 a1_3, .int .i64 a1_4]] ?_; (with_reducible refine (spec_seAct.calls k a0_0 a0_1 _ _ l0_2 a1_0 a1_1 a1_2 a1_3 a1_4 false _ ?s1 ?s2 A3.out).mono ?_); (case s1 => exact cq (Kd.C_below HR0_2.out HB.out)); (case s2 => exact HC0_2.out); rintro e w51 ⟨rfl, hb⟩; refine ⟨_, rfl, ?_⟩; replace BK813 := zb BK813 hb; replace BK814 := zb BK814 hb; replace BK815 := zb BK815 hb; replace HB := sb hb; (try clear hb); have ⟨hcz52_0, hcz52_1, hcz52_2, hcz52_3, hcz52_4, hfz52_0, hfz52_1, hfz52_2, hfz52_3, hfz52_4⟩ := bc5 BK815))
  refine bodyPost_ret (results_ct rfl _ _ gb815 35 #[.int .i64 0, .int .i64 0, .slice none 0 0, .slice none 0 0, .slice none 0 0] (0, 0) _ rfl (zp BK815) Try.underlying35 rfl (by kernel_rfl)) rfl ?_
  exact ⟨_, _, _, eq_, by first | exact Kd.R_nil _ _ _ _ _ | exact Kd.N_nil _ _ _ _ _ | exact Kd.V_nil _ _ _ _ _ | exact Kd.Q_nil _ _ _ _ _ | exact Kd.S_nil _ _ _ _ _, by first | exact Kd.R_nil _ _ _ _ _ | exact Kd.N_nil _ _ _ _ _ | exact Kd.V_nil _ _ _ _ _ | exact Kd.Q_nil _ _ _ _ _ | exact Kd.S_nil _ _ _ _ _, by first | exact Kd.R_nil _ _ _ _ _ | exact Kd.N_nil _ _ _ _ _ | exact Kd.V_nil _ _ _ _ _ | exact Kd.Q_nil _ _ _ _ _ | exact Kd.S_nil _ _ _ _ _, bq⟩


/-! ### spec_RunSession: function 40 -/
mutual
def spec_RunSession.j0 : Nat → List (S60) → Bool → Int → Int → List (S58) → List (S60) → List (S60) → Option (Int × Int × (List (S58)) × (List (S60)) × (List (S60)) × Int × Bool)
 | 0, _, _, _, _, _, _, _ => none
 | k + 1, x1, x19, x985000, x985001, x985002, x985003, x985004 => if x19 = true then (some (0, 0, ([] : List (S58)), ([] : List (S60)), ([] : List (S60)), 0, false)) else ((spec_seOwn.f x985000 x985001 x985002 x985003 x985004 x985003 x985004).bind fun bt987 => (spec_RunSession.l0 k x1 x1 (x1.length : Int) 0 bt987.1 bt987.2.1 bt987.2.2.1 bt987.2.2.2.1 bt987.2.2.2.2))
def spec_RunSession.l0 : Nat → List (S60) → List (S60) → Int → Int → Int → Int → List (S58) → List (S60) → List (S60) → Option (Int × Int × (List (S58)) × (List (S60)) × (List (S60)) × Int × Bool)
 | 0, _, _, _, _, _, _, _, _, _ => none
 | k + 1, x1, x27, x28, x29, x999000, x999001, x999002, x999003, x999004 => if x29 < x28 then (if 0 ≤ x29 then (if x29 < (x27.length : Int) then ((spec_seDo.f k x999000 x999001 x999002 x999003 x999004 ((rd_T60 x27 x29).f0) ((rd_T60 x27 x29).f1) ((rd_T60 x27 x29).f2) ((rd_T60 x27 x29).f3.f0) ((rd_T60 x27 x29).f3.f1)).bind fun bt1001 => (if bt1001.2.2.2.2.2 = true then (spec_RunSession.l0 k x1 x27 x28 (wrap64 (x29 + 1)) bt1001.1 bt1001.2.1 bt1001.2.2.1 bt1001.2.2.2.1 bt1001.2.2.2.2.1) else (some (x999000, x999001, x999002, x999003, x999004, x29, true)))) else (none)) else (none)) else (some (x999000, x999001, x999002, x999003, x999004, (x1.length : Int), true))
end
def spec_RunSession.f (k : Nat) (a0_0 : Int) (a0_1 : Int) (l0_2 : List (S58)) (l0_3 : List (S60)) (l0_4 : List (S60)) (l1 : List (S60)) : Option (Int × Int × (List (S58)) × (List (S60)) × (List (S60)) × Int × Bool) := (spec_seGood.f k a0_0 a0_1 l0_2 l0_3 l0_4).bind fun t986 => (if t986 = true then (spec_RunSession.j0 k l1 (decide ((l1.length : Int) > 40)) a0_0 a0_1 l0_2 l0_3 l0_4) else (spec_RunSession.j0 k l1 true a0_0 a0_1 l0_2 l0_3 l0_4))
theorem spec_RunSession.mono_l : ∀ k, (∀ y0 y1 y2 y3 y4 y5 y6, LeO (spec_RunSession.j0 k y0 y1 y2 y3 y4 y5 y6) (spec_RunSession.j0 (k + 1) y0 y1 y2 y3 y4 y5 y6)) ∧ (∀ y0 y1 y2 y3 y4 y5 y6 y7 y8, LeO (spec_RunSession.l0 k y0 y1 y2 y3 y4 y5 y6 y7 y8) (spec_RunSession.l0 (k + 1) y0 y1 y2 y3 y4 y5 y6 y7 y8))
 | 0 => ⟨fun _ _ _ _ _ _ _ r h => by simp [spec_RunSession.j0] at h, fun _ _ _ _ _ _ _ _ _ r h => by simp [spec_RunSession.l0] at h⟩
 | k + 1 => by
  obtain ⟨ih0, ih1⟩ := spec_RunSession.mono_l k
  refine ⟨?_, ?_⟩
  ·intro y0 y1 y2 y3 y4 y5 y6
   unfold spec_RunSession.j0
   repeat' first
   | (with_reducible exact ih0 _ _ _ _ _ _ _)
   | (with_reducible exact ih1 _ _ _ _ _ _ _ _ _)
   | (with_reducible exact spec_seDo.mono _ _ _ _ _ _ _ _ _ _ _)
   | (with_reducible exact spec_seGood.mono _ _ _ _ _ _)
   | (with_reducible exact LeO.refl _)
   | (with_reducible exact LeO.none _)
   | (with_reducible refine LeO.ite ?_ ?_)
   | (with_reducible refine LeO.bind ?_ (fun _ => ?_))
   | exact ih0 _ _ _ _ _ _ _
   | exact ih1 _ _ _ _ _ _ _ _ _
   | exact spec_seDo.mono _ _ _ _ _ _ _ _ _ _ _
   | exact spec_seGood.mono _ _ _ _ _ _
   | exact LeO.none _
   | refine LeO.ite ?_ ?_
   | refine LeO.bind ?_ (fun _ => ?_)
  ·intro y0 y1 y2 y3 y4 y5 y6 y7 y8
   unfold spec_RunSession.l0
   repeat' first
   | (with_reducible exact ih0 _ _ _ _ _ _ _)
   | (with_reducible exact ih1 _ _ _ _ _ _ _ _ _)
   | (with_reducible exact spec_seDo.mono _ _ _ _ _ _ _ _ _ _ _)
   | (with_reducible exact spec_seGood.mono _ _ _ _ _ _)
   | (with_reducible exact LeO.refl _)
   | (with_reducible exact LeO.none _)
   | (with_reducible refine LeO.ite ?_ ?_)
   | (with_reducible refine LeO.bind ?_ (fun _ => ?_))
   | exact ih0 _ _ _ _ _ _ _
   | exact ih1 _ _ _ _ _ _ _ _ _
   | exact spec_seDo.mono _ _ _ _ _ _ _ _ _ _ _
   | exact spec_seGood.mono _ _ _ _ _ _
   | exact LeO.none _
   | refine LeO.ite ?_ ?_
   | refine LeO.bind ?_ (fun _ => ?_)
theorem spec_RunSession.mono : ∀ a0 a1 a2 a3 a4 a5 k, LeO (spec_RunSession.f k a0 a1 a2 a3 a4 a5) (spec_RunSession.f (k + 1) a0 a1 a2 a3 a4 a5) := by
 intro a0 a1 a2 a3 a4 a5 k
 obtain ⟨ih0, ih1⟩ := spec_RunSession.mono_l k
 unfold spec_RunSession.f
 repeat' first
   | (with_reducible exact ih0 _ _ _ _ _ _ _)
   | (with_reducible exact ih1 _ _ _ _ _ _ _ _ _)
   | (with_reducible exact spec_seDo.mono _ _ _ _ _ _ _ _ _ _ _)
   | (with_reducible exact spec_seGood.mono _ _ _ _ _ _)
   | (with_reducible exact LeO.refl _)
   | (with_reducible exact LeO.none _)
   | (with_reducible refine LeO.ite ?_ ?_)
   | (with_reducible refine LeO.bind ?_ (fun _ => ?_))
   | exact ih0 _ _ _ _ _ _ _
   | exact ih1 _ _ _ _ _ _ _ _ _
   | exact spec_seDo.mono _ _ _ _ _ _ _ _ _ _ _
   | exact spec_seGood.mono _ _ _ _ _ _
   | exact LeO.none _
   | refine LeO.ite ?_ ?_
   | refine LeO.bind ?_ (fun _ => ?_)
set_option maxHeartbeats 8000000 in
set_option maxRecDepth 100000 in
theorem spec_RunSession.calls (k : Nat) (a0_0 : Int) (a0_1 : Int) (A0_2 : Option Addr) (c0_2 : Nat) (l0_2 : List (S58)) (A0_3 : Option Addr) (c0_3 : Nat) (l0_3 : List (S60)) (A0_4 : Option Addr) (c0_4 : Nat) (l0_4 : List (S60)) (A1 : Option Addr) (c1 : Nat) (l1 : List (S60)) (r1 : Int) (r2 : Int) (r3 : List (S58)) (r4 : List (S60)) (r5 : List (S60)) (r6 : Int) (r7 : Bool) (w : World) (hr0_2 : Kd.C k58 w A0_2 l0_2.length l0_2) (hc0_2 : l0_2.length ≤ c0_2) (hr0_3 : Kd.C k60 w A0_3 l0_3.length l0_3) (hc0_3 : l0_3.length ≤ c0_3) (hr0_4 : Kd.C k60 w A0_4 l0_4.length l0_4) (hc0_4 : l0_4.length ≤ c0_4) (hr1 : Kd.C k60 w A1 l1.length l1) (hc1 : l1.length ≤ c1) (h : spec_RunSession.f k a0_0 a0_1 l0_2 l0_3 l0_4 l1 = some (r1, r2, r3, r4, r5, r6, r7)) :
  Calls Try.prog 40 #[.agg #[.int .i64 a0_0, .int .i64 a0_1, .slice A0_2 l0_2.length c0_2, .slice A0_3 l0_3.length c0_3, .slice A0_4 l0_4.length c0_4], .slice A1 l1.length c1] w fun e w' => ∃ v2_ v3_ v4_ : Value, e = .returned (.tuple #[.agg #[.int .i64 r1, .int .i64 r2, v2_, v3_, v4_], .int .i64 r6, .bool r7]) ∧ Kd.R k58 58 w' w.heap.size (fun _ => True) v2_ r3 ∧ Kd.R k60 60 w' w.heap.size (fun k_ => some k_ ≠ (v4_ : Value).ownBlock) v3_ r4 ∧ Kd.R k60 60 w' w.heap.size (fun k_ => some k_ ≠ (v3_ : Value).ownBlock) v4_ r5 ∧ Below w.heap.size w w' := by
 have hu35 := Try.underlying35
 have hu60 := Try.underlying60
 have HR0_2 := am hr0_2
 have HC0_2 := am hc0_2
 clear hr0_2 hc0_2
 have HR0_3 := am hr0_3
 have HC0_3 := am hc0_3
 clear hr0_3 hc0_3
 have HR0_4 := am hr0_4
 have HC0_4 := am hc0_4
 clear hr0_4 hc0_4
 have HR1 := am hr1
 have HC1 := am hc1
 clear hr1 hc1
 have HB := am (Below.refl w.heap.size w)
 have H : ((spec_seGood.f k a0_0 a0_1 l0_2 l0_3 l0_4).bind fun t986 => (if t986 = true then (spec_RunSession.j0 k l1 (decide ((l1.length : Int) > 40)) a0_0 a0_1 l0_2 l0_3 l0_4) else (spec_RunSession.j0 k l1 true a0_0 a0_1 l0_2 l0_3 l0_4))) = some (r1, r2, r3, r4, r5, r6, r7) := h
 clear h
 have HC3 := am H
 clear H
 go_enter Try.func40, Try.ntmps40
 go_upto_region 1 with (first | ((with_reducible refine gate_dst (N := 2) rfl ?_); (try (refine gate_guard (by rfl) ?_; dsimp only)); refine box_event ?hg (N := 2) ?hd (cs := #[.int .i64 a0_0, .int .i64 a0_1, .slice A0_2 l0_2.length c0_2, .slice A0_3 l0_3.length c0_3, .slice A0_4 l0_4.length c0_4]) (t := 35) ?hr ?_; (case hd => rfl); (case hg => rfl); (case hr => first | (go_simp; done) | (go_simp; rfl)); intro gb984 hg w4 hbox hb; have BK984 := am (hbox); have GW984 := am (gq hg); have GE984 := am (gq hg); replace HB := sb hb; clear hb hbox hg) | ((with_reducible refine gate_dst (N := 4) rfl ?_); (try (refine gate_guard (by rfl) ?_; dsimp only)); refine box_event ?hg (N := 4) ?hd (cs := #[.int .i64 0, .int .i64 0, .slice none 0 0, .slice none 0 0, .slice none 0 0]) (t := 35) ?hr ?_; (case hd => rfl); (case hg => rfl); (case hr => first | (go_simp; done) | (go_simp; rfl)); intro gb985 hg w5 hbox hb; have BK985 := am (hbox); have GW985 := am (gq hg); have GE985 := am (gq hg); replace HB := sb hb; have NB984_985 := nl hg BK984; have NB985_984 := ng hg BK984; replace BK984 := zb BK984 hb; clear hb hbox hg))
 (try simp only [Act.put, List.setIfInBounds_toArray, List.set_cons_zero, List.set_cons_succ])
 go_cut [19] (fun v19 wc => ∃ (kq : Nat) (x19_2 : Bool), v19 = .bool x19_2 ∧ Aside0 (spec_RunSession.j0 kq l1 x19_2 a0_0 a0_1 l0_2 l0_3 l0_4 = some (r1, r2, r3, r4, r5, r6, r7)) ∧ Aside0 (kq ≤ k) ∧ Aside0 (wc.heap[gb984]? = some (.cells #[.int .i64 a0_0, .int .i64 a0_1, (.slice A0_2 l0_2.length c0_2), (.slice A0_3 l0_3.length c0_3), (.slice A0_4 l0_4.length c0_4)] 35 (0, 0))) ∧ Aside0 (wc.heap[gb985]? = some (.cells #[.int .i64 0, .int .i64 0, (.slice none 0 0), (.slice none 0 0), (.slice none 0 0)] 35 (0, 0))) ∧ Aside0 (Below w.heap.size w wc))
 case first =>
  have H := HC3.out
  clear HC3
  obtain ⟨t986, A6, H⟩ := bindq H
  try dsimp only at H
  by_cases c7 : t986 = true
  ·subst c7
   rw [if_pos rfl] at H
   try dsimp only at H
   have H' := am H
   clear H
   have hnb8 := NB984_985.out
   have hnc8 := NB985_984.out
   have ⟨hcz9_0, hcz9_1, hcz9_2, hcz9_3, hcz9_4, hfz9_0, hfz9_1, hfz9_2, hfz9_3, hfz9_4⟩ := bc5 BK984
   go_wp2_with (first | ((with_reducible refine gate_callee (f := 60) rfl ?_); refine goesQ (some 13) Try.func60 #[.agg #[.int .i64 a0_0, .int .i64 a0_1, .slice A0_2 l0_2.length c0_2, .slice A0_3 l0_3.length c0_3, .slice A0_4 l0_4.length c0_4]] ?_; (with_reducible refine (spec_seGood.calls k a0_0 a0_1 _ _ l0_2 _ _ l0_3 _ _ l0_4 true _ ?s1 ?s2 ?s3 ?s4 ?s5 ?s6 A6.out).mono ?_); (case s1 => exact cq (Kd.C_below HR0_2.out HB.out)); (case s2 => exact HC0_2.out); (case s3 => exact cq (Kd.C_below HR0_3.out HB.out)); (case s4 => exact HC0_3.out); (case s5 => exact cq (Kd.C_below HR0_4.out HB.out)); (case s6 => exact HC0_4.out); rintro e w10 ⟨rfl, hb⟩; refine ⟨_, rfl, ?_⟩; replace BK984 := zb BK984 hb; replace BK985 := zb BK985 hb; replace HB := sb hb; (try clear hb)))
   go_meet
   case rel => exact ⟨_, (decide ((l1.length : Int) > 40)), sq, H', ⟨by first | omega | exact Nat.le_refl _⟩, ⟨zq BK984⟩, ⟨zq BK985⟩, ⟨bq⟩⟩
  ·replace c7 := Bool.eq_false_iff.mpr c7
   subst c7
   rw [if_neg (show ¬ (false = true) by decide)] at H
   try dsimp only at H
   have H' := am H
   clear H
   have hnb11 := NB984_985.out
   have hnc11 := NB985_984.out
   have ⟨hcz12_0, hcz12_1, hcz12_2, hcz12_3, hcz12_4, hfz12_0, hfz12_1, hfz12_2, hfz12_3, hfz12_4⟩ := bc5 BK984
   go_wp2_with (first | ((with_reducible refine gate_callee (f := 60) rfl ?_); refine goesQ (some 13) Try.func60 #[.agg #[.int .i64 a0_0, .int .i64 a0_1, .slice A0_2 l0_2.length c0_2, .slice A0_3 l0_3.length c0_3, .slice A0_4 l0_4.length c0_4]] ?_; (with_reducible refine (spec_seGood.calls k a0_0 a0_1 _ _ l0_2 _ _ l0_3 _ _ l0_4 false _ ?s1 ?s2 ?s3 ?s4 ?s5 ?s6 A6.out).mono ?_); (case s1 => exact cq (Kd.C_below HR0_2.out HB.out)); (case s2 => exact HC0_2.out); (case s3 => exact cq (Kd.C_below HR0_3.out HB.out)); (case s4 => exact HC0_3.out); (case s5 => exact cq (Kd.C_below HR0_4.out HB.out)); (case s6 => exact HC0_4.out); rintro e w13 ⟨rfl, hb⟩; refine ⟨_, rfl, ?_⟩; replace BK984 := zb BK984 hb; replace BK985 := zb BK985 hb; replace HB := sb hb; (try clear hb)))
   go_meet
   case rel => exact ⟨_, (true), sq, H', ⟨by first | omega | exact Nat.le_refl _⟩, ⟨zq BK984⟩, ⟨zq BK985⟩, ⟨bq⟩⟩
 case rest =>
  clear HC3
  try clear c7
  try clear hcz12_0 hcz12_1 hcz12_2 hcz12_3 hcz12_4 hfz12_0 hfz12_1 hfz12_2 hfz12_3 hfz12_4
  try clear hcz9_0 hcz9_1 hcz9_2 hcz9_3 hcz9_4 hfz9_0 hfz9_1 hfz9_2 hfz9_3 hfz9_4
  obtain ⟨kq, x19_2, rfl, HA, HJ2, BK984, BK985, HB⟩ := hcut
  cases kq with
  | zero => exact absurd HA.out (by simp [spec_RunSession.j0])
  | succ kj2 =>
   have H := HA.out
   clear HA
   simp only [spec_RunSession.j0] at H
   by_cases c14 : x19_2 = true
   ·subst c14
    rw [if_pos rfl] at H
    try dsimp only at H
    simp only [Option.some.injEq, Prod.mk.injEq] at H
    obtain ⟨rfl, rfl, rfl, rfl, rfl, rfl, rfl⟩ := H
    have hnb15 := NB985_984.out
    have hnc15 := NB984_985.out
    have ⟨hcz16_0, hcz16_1, hcz16_2, hcz16_3, hcz16_4, hfz16_0, hfz16_1, hfz16_2, hfz16_3, hfz16_4⟩ := bc5 BK985
    go_wp2
    refine bodyPost_ret (results_ctt rfl _ _ gb985 35 #[.int .i64 0, .int .i64 0, .slice none 0 0, .slice none 0 0, .slice none 0 0] (0, 0) _ rfl (zp BK985) Try.underlying35 rfl (by kernel_rfl)) rfl ?_
    exact ⟨_, _, _, eq_, by first | exact Kd.R_nil _ _ _ _ _ | exact Kd.N_nil _ _ _ _ _ | exact Kd.V_nil _ _ _ _ _ | exact Kd.Q_nil _ _ _ _ _ | exact Kd.S_nil _ _ _ _ _, by first | exact Kd.R_nil _ _ _ _ _ | exact Kd.N_nil _ _ _ _ _ | exact Kd.V_nil _ _ _ _ _ | exact Kd.Q_nil _ _ _ _ _ | exact Kd.S_nil _ _ _ _ _, by first | exact Kd.R_nil _ _ _ _ _ | exact Kd.N_nil _ _ _ _ _ | exact Kd.V_nil _ _ _ _ _ | exact Kd.Q_nil _ _ _ _ _ | exact Kd.S_nil _ _ _ _ _, bq⟩
   ·replace c14 := Bool.eq_false_iff.mpr c14
    subst c14
    rw [if_neg (show ¬ (false = true) by decide)] at H
    try dsimp only at H
    obtain ⟨⟨t987, t988, t989, t992, t995⟩, A17, H⟩ := bindq H
    try dsimp only at H
    have H' := am H
    clear H
    have hnb18 := NB984_985.out
    have hnc18 := NB985_984.out
    have ⟨hcz19_0, hcz19_1, hcz19_2, hcz19_3, hcz19_4, hfz19_0, hfz19_1, hfz19_2, hfz19_3, hfz19_4⟩ := bc5 BK984
    go_wp2_with (first | ((with_reducible refine gate_callee (f := 71) rfl ?_); refine goesQ (some 26) Try.func71 #[.agg #[.int .i64 a0_0, .int .i64 a0_1, .slice A0_2 l0_2.length c0_2, .slice A0_3 l0_3.length c0_3, .slice A0_4 l0_4.length c0_4], .slice A0_3 l0_3.length c0_3, .slice A0_4 l0_4.length c0_4] ?_; (with_reducible refine (spec_seOwn.calls a0_0 a0_1 _ _ l0_2 _ _ l0_3 _ _ l0_4 _ _ l0_3 _ _ l0_4 t987 t988 t989 t992 t995 _ ?s1 ?s2 ?s3 ?s4 ?s5 ?s6 ?s7 ?s8 ?s9 ?s10 A17.out).mono ?_); (case s1 => exact cq (Kd.C_below HR0_2.out HB.out)); (case s2 => exact HC0_2.out); (case s3 => exact cq (Kd.C_below HR0_3.out HB.out)); (case s4 => exact HC0_3.out); (case s5 => exact cq (Kd.C_below HR0_4.out HB.out)); (case s6 => exact HC0_4.out); (case s7 => exact cq (Kd.C_below HR0_3.out HB.out)); (case s8 => exact HC0_3.out); (case s9 => exact cq (Kd.C_below HR0_4.out HB.out)); (case s10 => exact HC0_4.out); rintro e w20 ⟨v990, v993, v996, rfl, ho0, ho1, ho2, hb⟩; refine ⟨_, rfl, ?_⟩; have HO991 := rl ho0; have HO994 := rl ho1; have HO997 := rl ho2; replace BK984 := zb BK984 hb; replace BK985 := zb BK985 hb; replace HB := sb hb; (try clear hb ho0 ho1 ho2)) | ((with_reducible refine gate_dst (N := 7) rfl ?_); (try (refine gate_guard (by rfl) ?_; dsimp only)); refine box_event ?hg (N := 7) ?hd (cs := #[.int .i64 0, .int .i64 0, .slice none 0 0, .slice none 0 0, .slice none 0 0]) (t := 35) ?hr ?_; (case hd => rfl); (case hg => rfl); (case hr => first | (go_simp; done) | (go_simp; rfl)); intro gb998 hg w21 hbox hb; replace HO991 := rb HO991 hb; replace HO994 := rb HO994 hb; replace HO997 := rb HO997 hb; have BK998 := am (hbox); have GW998 := am (gq hg); have GE998 := am (gq hg); replace HB := sb hb; have NB984_998 := nl hg BK984; have NB998_984 := ng hg BK984; replace BK984 := zb BK984 hb; have NB985_998 := nl hg BK985; have NB998_985 := ng hg BK985; replace BK985 := zb BK985 hb; clear hb hbox hg; have hnb22 := NB998_984.out; have hnc22 := NB984_998.out; have hnb23 := NB998_985.out; have hnc23 := NB985_998.out; have ⟨hcz24_0, hcz24_1, hcz24_2, hcz24_3, hcz24_4, hfz24_0, hfz24_1, hfz24_2, hfz24_3, hfz24_4⟩ := bc5 BK998; obtain ⟨Ao25, co25, eo25⟩ := Kd.R_slice HO991.out; subst eo25; obtain ⟨Ao26, co26, eo26⟩ := Kd.R_slice HO994.out; subst eo26; obtain ⟨Ao27, co27, eo27⟩ := Kd.R_slice HO997.out; subst eo27))
    go_loopg [29] kj2 (fun kq v29 w' => ∃ (x29_2 : Int) (x986000_2 : Int) (x986001_2 : Int) (x999000_2 : Int) (x999001_2 : Int) (x999002_2 : List (S58)) (x999003_2 : List (S60)) (x999004_2 : List (S60)) (u999002 : Value) (u999003 : Value) (u999004 : Value), v29 = .int .i64 x29_2 ∧ Aside0 (spec_RunSession.l0 kq l1 l1 (l1.length : Int) x29_2 x999000_2 x999001_2 x999002_2 x999003_2 x999004_2 = some (r1, r2, r3, r4, r5, r6, r7)) ∧ Aside0 (kq ≤ kj2) ∧ Aside0 (Kd.R k58 58 w' w.heap.size (fun _ => True) u999002 x999002_2) ∧ Aside0 (Kd.R k60 60 w' w.heap.size (fun k_ => some k_ ≠ (u999004 : Value).ownBlock) u999003 x999003_2) ∧ Aside0 (Kd.R k60 60 w' w.heap.size (fun k_ => some k_ ≠ (u999003 : Value).ownBlock) u999004 x999004_2) ∧ Aside0 (w'.heap[gb984]? = some (.cells #[.int .i64 a0_0, .int .i64 a0_1, (.slice A0_2 l0_2.length c0_2), (.slice A0_3 l0_3.length c0_3), (.slice A0_4 l0_4.length c0_4)] 35 (0, 0))) ∧ Aside0 (w'.heap[gb985]? = some (.cells #[.int .i64 x986000_2, .int .i64 x986001_2, (.slice none 0 0), (.slice none 0 0), (.slice none 0 0)] 35 (0, 0))) ∧ Aside0 (w'.heap[gb998]? = some (.cells #[.int .i64 x999000_2, .int .i64 x999001_2, u999002, u999003, u999004] 35 (0, 0))) ∧ Aside0 (Below w.heap.size w w'))
    case atStart => exact ⟨(0), (0), (0), (t987), (t988), (t989), (t992), (t995), (.slice Ao25 t989.length co25), (.slice Ao26 t992.length co26), (.slice Ao27 t995.length co27), sq, H', ⟨Nat.le_refl _⟩, ⟨Kd.R_mono (ff HO991 BK998) (fun _ hk => trivial)⟩, ⟨Kd.R_mono (ff HO994 BK998) (fun _ hk => hk.1)⟩, ⟨Kd.R_mono (ff HO997 BK998) (fun _ hk => hk.1)⟩, ⟨zp BK984⟩, ⟨zp BK985⟩, ⟨zp BK998⟩, ⟨bq⟩⟩
    case round =>
     clear H'
     try clear c7
     try clear c14
     try clear hcz12_0 hcz12_1 hcz12_2 hcz12_3 hcz12_4 hfz12_0 hfz12_1 hfz12_2 hfz12_3 hfz12_4
     try clear hcz16_0 hcz16_1 hcz16_2 hcz16_3 hcz16_4 hfz16_0 hfz16_1 hfz16_2 hfz16_3 hfz16_4
     try clear hcz19_0 hcz19_1 hcz19_2 hcz19_3 hcz19_4 hfz19_0 hfz19_1 hfz19_2 hfz19_3 hfz19_4
     try clear hcz24_0 hcz24_1 hcz24_2 hcz24_3 hcz24_4 hfz24_0 hfz24_1 hfz24_2 hfz24_3 hfz24_4
     try clear hcz9_0 hcz9_1 hcz9_2 hcz9_3 hcz9_4 hfz9_0 hfz9_1 hfz9_2 hfz9_3 hfz9_4
     obtain ⟨x29_2, x986000_2, x986001_2, x999000_2, x999001_2, x999002_2, x999003_2, x999004_2, u999002, u999003, u999004, rfl, HA, HK2, HO_999002, HO_999003, HO_999004, BK984, BK985, BK998, HB⟩ := hrel
     cases gk with
     | zero => exact absurd HA.out (by simp [spec_RunSession.l0])
     | succ k2 =>
      have H := HA.out
      clear HA
      simp only [spec_RunSession.l0] at H
      by_cases c28 : x29_2 < (l1.length : Int)
      ·rw [if_pos c28] at H
       have c28b0 : decide (x29_2 < (l1.length : Int)) = true := decide_eq_true c28
       clear c28
       by_cases c29 : 0 ≤ x29_2
       ·rw [if_pos c29] at H
        have c29b0 : decide (0 ≤ x29_2) = true := decide_eq_true c29
        clear c29
        by_cases c30 : x29_2 < (l1.length : Int)
        ·rw [if_pos c30] at H
         have c30b0 : decide (x29_2 < (l1.length : Int)) = true := decide_eq_true c30
         clear c30
         obtain ⟨⟨t1001, t1002, t1003, t1006, t1009, t1012⟩, A31, H⟩ := bindq H
         try dsimp only at H
         by_cases c32 : t1012 = true
         ·subst c32
          rw [if_pos rfl] at H
          try dsimp only at H
          have H' := am H
          clear H
          have p999 : 0 ≤ (x29_2 : Int) := of_decide_eq_true aq
          have q999 : x29_2 < (l1.length : Int) := of_decide_eq_true aq
          obtain ⟨ad999, e999, hx999_0, hx999_1, hx999_2, hx999_3, hx999_4⟩ := at_T60 HR1.out x29_2 p999 q999
          cases e999
          replace hx999_0 := (HB.out.cell (World.block_lt_of_cell? w _ hx999_0)).trans hx999_0
          replace hx999_1 := (HB.out.cell (World.block_lt_of_cell? w _ hx999_1)).trans hx999_1
          replace hx999_2 := (HB.out.cell (World.block_lt_of_cell? w _ hx999_2)).trans hx999_2
          replace hx999_3 := (HB.out.cell (World.block_lt_of_cell? w _ hx999_3)).trans hx999_3
          replace hx999_4 := (HB.out.cell (World.block_lt_of_cell? w _ hx999_4)).trans hx999_4
          replace p999 := eq_true p999
          replace q999 := eq_true q999
          go_wp2_with (first | ((with_reducible refine gate_dst (N := 9) rfl ?_); (try (refine gate_guard (by rfl) ?_; dsimp only)); refine box_event ?hg (N := 9) ?hd (cs := #[.int .i64 0, .int .i64 0, .int .i64 0, .int .i64 0, .int .i64 0]) (t := 60) ?hr ?_; (case hd => rfl); (case hg => rfl); (case hr => first | (go_simp; done) | (go_simp; rfl)); intro gb1000 hg w33 hbox hb; replace HO_999002 := rb HO_999002 hb; replace HO_999003 := am (Kd.R_below (Kd.R_elderB (rq HO_999003) gb1000 (Nat.le_of_eq hg.symm)) hb); replace HO_999004 := am (Kd.R_below (Kd.R_elderB (rq HO_999004) gb1000 (Nat.le_of_eq hg.symm)) hb); have BK1000 := am (hbox); have GW1000 := am (gq hg); have GE1000 := am (gq hg); replace HB := sb hb; have NB984_1000 := nl hg BK984; have NB1000_984 := ng hg BK984; replace BK984 := zb BK984 hb; have NB985_1000 := nl hg BK985; have NB1000_985 := ng hg BK985; replace BK985 := zb BK985 hb; have NB998_1000 := nl hg BK998; have NB1000_998 := ng hg BK998; replace BK998 := zb BK998 hb; clear hb hbox hg; have hnb34 := NB1000_984.out; have hnc34 := NB984_1000.out; have hnb35 := NB1000_985.out; have hnc35 := NB985_1000.out; have hnb36 := NB1000_998.out; have hnc36 := NB998_1000.out; have ⟨hcz37_0, hcz37_1, hcz37_2, hcz37_3, hcz37_4, hfz37_0, hfz37_1, hfz37_2, hfz37_3, hfz37_4⟩ := bc5 BK1000; have hnb38 := NB998_984.out; have hnc38 := NB984_998.out; have hnb39 := NB998_985.out; have hnc39 := NB985_998.out; have ⟨hcz40_0, hcz40_1, hcz40_2, hcz40_3, hcz40_4, hfz40_0, hfz40_1, hfz40_2, hfz40_3, hfz40_4⟩ := bc5 BK998; obtain ⟨Ao41, co41, eo41⟩ := Kd.R_slice HO_999002.out; subst eo41; obtain ⟨Ao42, co42, eo42⟩ := Kd.R_slice HO_999003.out; subst eo42; obtain ⟨Ao43, co43, eo43⟩ := Kd.R_slice HO_999004.out; subst eo43) | ((with_reducible refine gate_callee (f := 73) rfl ?_); refine goesQ (some 37) Try.func73 #[.agg #[.int .i64 x999000_2, .int .i64 x999001_2, .slice Ao41 x999002_2.length co41, .slice Ao42 x999003_2.length co42, .slice Ao43 x999004_2.length co43], .agg #[.int .i64 ((rd_T60 l1 x29_2).f0), .int .i64 ((rd_T60 l1 x29_2).f1), .int .i64 ((rd_T60 l1 x29_2).f2), .int .i64 ((rd_T60 l1 x29_2).f3.f0), .int .i64 ((rd_T60 l1 x29_2).f3.f1)]] ?_; (with_reducible refine (spec_seDo.calls k2 x999000_2 x999001_2 _ _ x999002_2 _ _ x999003_2 _ _ x999004_2 ((rd_T60 l1 x29_2).f0) ((rd_T60 l1 x29_2).f1) ((rd_T60 l1 x29_2).f2) ((rd_T60 l1 x29_2).f3.f0) ((rd_T60 l1 x29_2).f3.f1) t1001 t1002 t1003 t1006 t1009 true _ ?s1 ?s2 ?s3 ?s4 ?s5 ?s6 A31.out).mono ?_); (case s1 => exact cf HO_999002 BK1000); (case s2 => exact rq1 HO_999002); (case s3 => refine (Kd.R_reads' (e := 60) (base := w.heap.size) (ok := fun k_ => (some k_ ≠ (.slice Ao43 x999004_2.length co43 : Value).ownBlock ∧ k_ ≠ gb1000)) (n := x999003_2.length) (c := co42) ?_).2.2; exact (by (with_reducible repeat (first | apply Kd.R_alloc | apply Kd.R_drewN | apply Kd.R_drew)); exact (Kd.R_mono (Kd.R_far (p := ⟨gb1000, 4, none⟩) (Kd.R_far (p := ⟨gb1000, 3, none⟩) (Kd.R_far (p := ⟨gb1000, 2, none⟩) (Kd.R_far (p := ⟨gb1000, 1, none⟩) (Kd.R_far (p := ⟨gb1000, 0, none⟩) (Kd.R_mono HO_999003.out (fun k_ hk => (⟨hk, hk.2⟩ : _ ∧ k_ ≠ gb1000))) (fun _ hk => hk.2) (.int .i64 ((rd_T60 l1 x29_2).f0))) (fun _ hk => hk.2) (.int .i64 ((rd_T60 l1 x29_2).f1))) (fun _ hk => hk.2) (.int .i64 ((rd_T60 l1 x29_2).f2))) (fun _ hk => hk.2) (.int .i64 ((rd_T60 l1 x29_2).f3.f0))) (fun _ hk => hk.2) (.int .i64 ((rd_T60 l1 x29_2).f3.f1))) (fun _ h_ => h_.1)))); (case s4 => exact rq1 HO_999003); (case s5 => refine (Kd.R_reads' (e := 60) (base := w.heap.size) (ok := fun k_ => (some k_ ≠ (.slice Ao42 x999003_2.length co42 : Value).ownBlock ∧ k_ ≠ gb1000)) (n := x999004_2.length) (c := co43) ?_).2.2; exact (by (with_reducible repeat (first | apply Kd.R_alloc | apply Kd.R_drewN | apply Kd.R_drew)); exact (Kd.R_mono (Kd.R_far (p := ⟨gb1000, 4, none⟩) (Kd.R_far (p := ⟨gb1000, 3, none⟩) (Kd.R_far (p := ⟨gb1000, 2, none⟩) (Kd.R_far (p := ⟨gb1000, 1, none⟩) (Kd.R_far (p := ⟨gb1000, 0, none⟩) (Kd.R_mono HO_999004.out (fun k_ hk => (⟨hk, hk.2⟩ : _ ∧ k_ ≠ gb1000))) (fun _ hk => hk.2) (.int .i64 ((rd_T60 l1 x29_2).f0))) (fun _ hk => hk.2) (.int .i64 ((rd_T60 l1 x29_2).f1))) (fun _ hk => hk.2) (.int .i64 ((rd_T60 l1 x29_2).f2))) (fun _ hk => hk.2) (.int .i64 ((rd_T60 l1 x29_2).f3.f0))) (fun _ hk => hk.2) (.int .i64 ((rd_T60 l1 x29_2).f3.f1))) (fun _ h_ => h_.1)))); (case s6 => exact rq1 HO_999004); rintro e w44 ⟨v1004, v1007, v1010, rfl, ho0, ho1, ho2, hb⟩; refine ⟨_, rfl, ?_⟩; have HO1005 := rl (Kd.R_new' ho0 (Kd.R_lt (fq HO_999002 BK1000))); replace HO_999002 := am (Kd.R_elder' (fq HO_999002 BK1000) (Kd.R_base ho0) hb); have HO1008 := am (Kd.R_lower (Kd.R_newB (Kd.R_new' (Kd.R_new' ho1 (Kd.R_lt (by (with_reducible repeat (first | apply Kd.R_alloc | apply Kd.R_drewN | apply Kd.R_drew)); exact (Kd.R_mono (Kd.R_far (p := ⟨gb1000, 4, none⟩) (Kd.R_far (p := ⟨gb1000, 3, none⟩) (Kd.R_far (p := ⟨gb1000, 2, none⟩) (Kd.R_far (p := ⟨gb1000, 1, none⟩) (Kd.R_far (p := ⟨gb1000, 0, none⟩) (Kd.R_mono HO_999003.out (fun k_ hk => (⟨hk, hk.2⟩ : _ ∧ k_ ≠ gb1000))) (fun _ hk => hk.2) (.int .i64 ((rd_T60 l1 x29_2).f0))) (fun _ hk => hk.2) (.int .i64 ((rd_T60 l1 x29_2).f1))) (fun _ hk => hk.2) (.int .i64 ((rd_T60 l1 x29_2).f2))) (fun _ hk => hk.2) (.int .i64 ((rd_T60 l1 x29_2).f3.f0))) (fun _ hk => hk.2) (.int .i64 ((rd_T60 l1 x29_2).f3.f1))) (fun _ h_ => h_.1))))) (Kd.R_lt (by (with_reducible repeat (first | apply Kd.R_alloc | apply Kd.R_drewN | apply Kd.R_drew)); exact (Kd.R_mono (Kd.R_far (p := ⟨gb1000, 4, none⟩) (Kd.R_far (p := ⟨gb1000, 3, none⟩) (Kd.R_far (p := ⟨gb1000, 2, none⟩) (Kd.R_far (p := ⟨gb1000, 1, none⟩) (Kd.R_far (p := ⟨gb1000, 0, none⟩) (Kd.R_mono HO_999004.out (fun k_ hk => (⟨hk, hk.2⟩ : _ ∧ k_ ≠ gb1000))) (fun _ hk => hk.2) (.int .i64 ((rd_T60 l1 x29_2).f0))) (fun _ hk => hk.2) (.int .i64 ((rd_T60 l1 x29_2).f1))) (fun _ hk => hk.2) (.int .i64 ((rd_T60 l1 x29_2).f2))) (fun _ hk => hk.2) (.int .i64 ((rd_T60 l1 x29_2).f3.f0))) (fun _ hk => hk.2) (.int .i64 ((rd_T60 l1 x29_2).f3.f1))) (fun _ h_ => h_.1))))) (g := gb1000) (o := .cells #[.int .i64 ((rd_T60 l1 x29_2).f0), .int .i64 ((rd_T60 l1 x29_2).f1), .int .i64 ((rd_T60 l1 x29_2).f2), .int .i64 ((rd_T60 l1 x29_2).f3.f0), .int .i64 ((rd_T60 l1 x29_2).f3.f1)] 60 (0, 0)) (zp BK1000)) (below_size bq)); have HO1011 := am (Kd.R_lower (Kd.R_newB (Kd.R_new' (Kd.R_new' ho2 (Kd.R_lt (by (with_reducible repeat (first | apply Kd.R_alloc | apply Kd.R_drewN | apply Kd.R_drew)); exact (Kd.R_mono (Kd.R_far (p := ⟨gb1000, 4, none⟩) (Kd.R_far (p := ⟨gb1000, 3, none⟩) (Kd.R_far (p := ⟨gb1000, 2, none⟩) (Kd.R_far (p := ⟨gb1000, 1, none⟩) (Kd.R_far (p := ⟨gb1000, 0, none⟩) (Kd.R_mono HO_999003.out (fun k_ hk => (⟨hk, hk.2⟩ : _ ∧ k_ ≠ gb1000))) (fun _ hk => hk.2) (.int .i64 ((rd_T60 l1 x29_2).f0))) (fun _ hk => hk.2) (.int .i64 ((rd_T60 l1 x29_2).f1))) (fun _ hk => hk.2) (.int .i64 ((rd_T60 l1 x29_2).f2))) (fun _ hk => hk.2) (.int .i64 ((rd_T60 l1 x29_2).f3.f0))) (fun _ hk => hk.2) (.int .i64 ((rd_T60 l1 x29_2).f3.f1))) (fun _ h_ => h_.1))))) (Kd.R_lt (by (with_reducible repeat (first | apply Kd.R_alloc | apply Kd.R_drewN | apply Kd.R_drew)); exact (Kd.R_mono (Kd.R_far (p := ⟨gb1000, 4, none⟩) (Kd.R_far (p := ⟨gb1000, 3, none⟩) (Kd.R_far (p := ⟨gb1000, 2, none⟩) (Kd.R_far (p := ⟨gb1000, 1, none⟩) (Kd.R_far (p := ⟨gb1000, 0, none⟩) (Kd.R_mono HO_999004.out (fun k_ hk => (⟨hk, hk.2⟩ : _ ∧ k_ ≠ gb1000))) (fun _ hk => hk.2) (.int .i64 ((rd_T60 l1 x29_2).f0))) (fun _ hk => hk.2) (.int .i64 ((rd_T60 l1 x29_2).f1))) (fun _ hk => hk.2) (.int .i64 ((rd_T60 l1 x29_2).f2))) (fun _ hk => hk.2) (.int .i64 ((rd_T60 l1 x29_2).f3.f0))) (fun _ hk => hk.2) (.int .i64 ((rd_T60 l1 x29_2).f3.f1))) (fun _ h_ => h_.1))))) (g := gb1000) (o := .cells #[.int .i64 ((rd_T60 l1 x29_2).f0), .int .i64 ((rd_T60 l1 x29_2).f1), .int .i64 ((rd_T60 l1 x29_2).f2), .int .i64 ((rd_T60 l1 x29_2).f3.f0), .int .i64 ((rd_T60 l1 x29_2).f3.f1)] 60 (0, 0)) (zp BK1000)) (below_size bq)); replace HO_999003 := am (Kd.R_mono (Kd.R_told (Kd.R_told (Kd.R_old (by (with_reducible repeat (first | apply Kd.R_alloc | apply Kd.R_drewN | apply Kd.R_drew)); exact (Kd.R_mono (Kd.R_far (p := ⟨gb1000, 4, none⟩) (Kd.R_far (p := ⟨gb1000, 3, none⟩) (Kd.R_far (p := ⟨gb1000, 2, none⟩) (Kd.R_far (p := ⟨gb1000, 1, none⟩) (Kd.R_far (p := ⟨gb1000, 0, none⟩) (Kd.R_mono HO_999003.out (fun k_ hk => (⟨hk, hk.2⟩ : _ ∧ k_ ≠ gb1000))) (fun _ hk => hk.2) (.int .i64 ((rd_T60 l1 x29_2).f0))) (fun _ hk => hk.2) (.int .i64 ((rd_T60 l1 x29_2).f1))) (fun _ hk => hk.2) (.int .i64 ((rd_T60 l1 x29_2).f2))) (fun _ hk => hk.2) (.int .i64 ((rd_T60 l1 x29_2).f3.f0))) (fun _ hk => hk.2) (.int .i64 ((rd_T60 l1 x29_2).f3.f1))) (fun _ h_ => h_.1))) hb) (Kd.R_base ho1)) (Kd.R_base ho2)) (fun _ h_ => h_.1)); replace HO_999004 := am (Kd.R_mono (Kd.R_told (Kd.R_told (Kd.R_old (by (with_reducible repeat (first | apply Kd.R_alloc | apply Kd.R_drewN | apply Kd.R_drew)); exact (Kd.R_mono (Kd.R_far (p := ⟨gb1000, 4, none⟩) (Kd.R_far (p := ⟨gb1000, 3, none⟩) (Kd.R_far (p := ⟨gb1000, 2, none⟩) (Kd.R_far (p := ⟨gb1000, 1, none⟩) (Kd.R_far (p := ⟨gb1000, 0, none⟩) (Kd.R_mono HO_999004.out (fun k_ hk => (⟨hk, hk.2⟩ : _ ∧ k_ ≠ gb1000))) (fun _ hk => hk.2) (.int .i64 ((rd_T60 l1 x29_2).f0))) (fun _ hk => hk.2) (.int .i64 ((rd_T60 l1 x29_2).f1))) (fun _ hk => hk.2) (.int .i64 ((rd_T60 l1 x29_2).f2))) (fun _ hk => hk.2) (.int .i64 ((rd_T60 l1 x29_2).f3.f0))) (fun _ hk => hk.2) (.int .i64 ((rd_T60 l1 x29_2).f3.f1))) (fun _ h_ => h_.1))) hb) (Kd.R_base ho1)) (Kd.R_base ho2)) (fun _ h_ => h_.1)); replace BK984 := am (blk_below (g := gb984) (o := .cells #[.int .i64 a0_0, .int .i64 a0_1, .slice A0_2 l0_2.length c0_2, .slice A0_3 l0_3.length c0_3, .slice A0_4 l0_4.length c0_4] 35 (0, 0)) (zp BK984) hb); replace BK985 := am (blk_below (g := gb985) (o := .cells #[.int .i64 x986000_2, .int .i64 x986001_2, .slice none 0 0, .slice none 0 0, .slice none 0 0] 35 (0, 0)) (zp BK985) hb); replace BK998 := am (blk_below (g := gb998) (o := .cells #[.int .i64 x999000_2, .int .i64 x999001_2, .slice Ao41 x999002_2.length co41, .slice Ao42 x999003_2.length co42, .slice Ao43 x999004_2.length co43] 35 (0, 0)) (zp BK998) hb); replace BK1000 := am (blk_below (g := gb1000) (o := .cells #[.int .i64 ((rd_T60 l1 x29_2).f0), .int .i64 ((rd_T60 l1 x29_2).f1), .int .i64 ((rd_T60 l1 x29_2).f2), .int .i64 ((rd_T60 l1 x29_2).f3.f0), .int .i64 ((rd_T60 l1 x29_2).f3.f1)] 60 (0, 0)) (zp BK1000) hb); replace HB := sb hb; (try clear hb hb2 hk hi ho0 ho1 ho2)) | ((with_reducible refine gate_dst (N := 10) rfl ?_); (try (refine gate_guard (by rfl) ?_; dsimp only)); refine box_event ?hg (N := 10) ?hd (cs := #[.int .i64 0, .int .i64 0, .slice none 0 0, .slice none 0 0, .slice none 0 0]) (t := 35) ?hr ?_; (case hd => rfl); (case hg => rfl); (case hr => first | (go_simp; done) | (go_simp; rfl)); intro gb1013 hg w45 hbox hb; replace HO_999002 := rb HO_999002 hb; replace HO_999003 := rb HO_999003 hb; replace HO_999004 := rb HO_999004 hb; replace HO1005 := rb HO1005 hb; replace HO1008 := rb HO1008 hb; replace HO1011 := rb HO1011 hb; have BK1013 := am (hbox); have GW1013 := am (gq hg); have GE1013 := am (gq hg); replace HB := sb hb; have NB984_1013 := nl hg BK984; have NB1013_984 := ng hg BK984; replace BK984 := zb BK984 hb; have NB985_1013 := nl hg BK985; have NB1013_985 := ng hg BK985; replace BK985 := zb BK985 hb; have NB998_1013 := nl hg BK998; have NB1013_998 := ng hg BK998; replace BK998 := zb BK998 hb; have NB1000_1013 := nl hg BK1000; have NB1013_1000 := ng hg BK1000; replace BK1000 := zb BK1000 hb; clear hb hbox hg; have hnb46 := NB1013_984.out; have hnc46 := NB984_1013.out; have hnb47 := NB1013_985.out; have hnc47 := NB985_1013.out; have hnb48 := NB1013_998.out; have hnc48 := NB998_1013.out; have hnb49 := NB1013_1000.out; have hnc49 := NB1000_1013.out; have ⟨hcz50_0, hcz50_1, hcz50_2, hcz50_3, hcz50_4, hfz50_0, hfz50_1, hfz50_2, hfz50_3, hfz50_4⟩ := bc5 BK1013; obtain ⟨Ao51, co51, eo51⟩ := Kd.R_slice HO1005.out; subst eo51; obtain ⟨Ao52, co52, eo52⟩ := Kd.R_slice HO1008.out; subst eo52; obtain ⟨Ao53, co53, eo53⟩ := Kd.R_slice HO1011.out; subst eo53; have ⟨hcz54_0, hcz54_1, hcz54_2, hcz54_3, hcz54_4, hfz54_0, hfz54_1, hfz54_2, hfz54_3, hfz54_4⟩ := bc5 BK998))
          go_roundg k2
          case measure => have := HJ2.out; have := HK2.out; omega
          case rel => exact ⟨(wrap64 (x29_2 + 1)), (x986000_2), (x986001_2), (t1001), (t1002), (t1003), (t1006), (t1009), (.slice Ao51 t1003.length co51), (.slice Ao52 t1006.length co52), (.slice Ao53 t1009.length co53), sq, H', ⟨by have := HJ2.out; have := HK2.out; omega⟩, ⟨by (with_reducible repeat (first | apply Kd.R_alloc | apply Kd.R_drewN | apply Kd.R_drew)); exact Kd.R_mono (Kd.R_far (p := ⟨gb998, 4, none⟩) (Kd.R_far (p := ⟨gb998, 3, none⟩) (Kd.R_far (p := ⟨gb998, 2, none⟩) (Kd.R_far (p := ⟨gb998, 1, none⟩) (Kd.R_far (p := ⟨gb998, 0, none⟩) (Kd.R_far (p := ⟨gb1013, 4, none⟩) (Kd.R_far (p := ⟨gb1013, 3, none⟩) (Kd.R_far (p := ⟨gb1013, 2, none⟩) (Kd.R_far (p := ⟨gb1013, 1, none⟩) (Kd.R_far (p := ⟨gb1013, 0, none⟩) (Kd.R_types (Kd.R_types HO1005.out BK1013.out (by decide)) BK998.out (by decide)) (fun _ hk => hk.1.2) (.int .i64 t1001)) (fun _ hk => hk.1.2) (.int .i64 t1002)) (fun _ hk => hk.1.2) (.slice Ao51 t1003.length co51)) (fun _ hk => hk.1.2) (.slice Ao52 t1006.length co52)) (fun _ hk => hk.1.2) (.slice Ao53 t1009.length co53)) (fun _ hk => hk.2) (.int .i64 t1001)) (fun _ hk => hk.2) (.int .i64 t1002)) (fun _ hk => hk.2) (.slice Ao51 t1003.length co51)) (fun _ hk => hk.2) (.slice Ao52 t1006.length co52)) (fun _ hk => hk.2) (.slice Ao53 t1009.length co53)) (fun _ hk => trivial)⟩, ⟨by (with_reducible repeat (first | apply Kd.R_alloc | apply Kd.R_drewN | apply Kd.R_drew)); exact Kd.R_mono (Kd.R_far (p := ⟨gb998, 4, none⟩) (Kd.R_far (p := ⟨gb998, 3, none⟩) (Kd.R_far (p := ⟨gb998, 2, none⟩) (Kd.R_far (p := ⟨gb998, 1, none⟩) (Kd.R_far (p := ⟨gb998, 0, none⟩) (Kd.R_far (p := ⟨gb1013, 4, none⟩) (Kd.R_far (p := ⟨gb1013, 3, none⟩) (Kd.R_far (p := ⟨gb1013, 2, none⟩) (Kd.R_far (p := ⟨gb1013, 1, none⟩) (Kd.R_far (p := ⟨gb1013, 0, none⟩) (Kd.R_types (Kd.R_types HO1008.out BK1013.out (by decide)) BK998.out (by decide)) (fun _ hk => hk.1.2) (.int .i64 t1001)) (fun _ hk => hk.1.2) (.int .i64 t1002)) (fun _ hk => hk.1.2) (.slice Ao51 t1003.length co51)) (fun _ hk => hk.1.2) (.slice Ao52 t1006.length co52)) (fun _ hk => hk.1.2) (.slice Ao53 t1009.length co53)) (fun _ hk => hk.2) (.int .i64 t1001)) (fun _ hk => hk.2) (.int .i64 t1002)) (fun _ hk => hk.2) (.slice Ao51 t1003.length co51)) (fun _ hk => hk.2) (.slice Ao52 t1006.length co52)) (fun _ hk => hk.2) (.slice Ao53 t1009.length co53)) (fun _ hk => hk.1.1.1.1.1)⟩, ⟨by (with_reducible repeat (first | apply Kd.R_alloc | apply Kd.R_drewN | apply Kd.R_drew)); exact Kd.R_mono (Kd.R_far (p := ⟨gb998, 4, none⟩) (Kd.R_far (p := ⟨gb998, 3, none⟩) (Kd.R_far (p := ⟨gb998, 2, none⟩) (Kd.R_far (p := ⟨gb998, 1, none⟩) (Kd.R_far (p := ⟨gb998, 0, none⟩) (Kd.R_far (p := ⟨gb1013, 4, none⟩) (Kd.R_far (p := ⟨gb1013, 3, none⟩) (Kd.R_far (p := ⟨gb1013, 2, none⟩) (Kd.R_far (p := ⟨gb1013, 1, none⟩) (Kd.R_far (p := ⟨gb1013, 0, none⟩) (Kd.R_types (Kd.R_types HO1011.out BK1013.out (by decide)) BK998.out (by decide)) (fun _ hk => hk.1.2) (.int .i64 t1001)) (fun _ hk => hk.1.2) (.int .i64 t1002)) (fun _ hk => hk.1.2) (.slice Ao51 t1003.length co51)) (fun _ hk => hk.1.2) (.slice Ao52 t1006.length co52)) (fun _ hk => hk.1.2) (.slice Ao53 t1009.length co53)) (fun _ hk => hk.2) (.int .i64 t1001)) (fun _ hk => hk.2) (.int .i64 t1002)) (fun _ hk => hk.2) (.slice Ao51 t1003.length co51)) (fun _ hk => hk.2) (.slice Ao52 t1006.length co52)) (fun _ hk => hk.2) (.slice Ao53 t1009.length co53)) (fun _ hk => hk.1.1.1.1.1)⟩, ⟨zp BK984⟩, ⟨zp BK985⟩, ⟨zp BK998⟩, ⟨bq⟩⟩
         ·replace c32 := Bool.eq_false_iff.mpr c32
          subst c32
          rw [if_neg (show ¬ (false = true) by decide)] at H
          try dsimp only at H
          simp only [Option.some.injEq, Prod.mk.injEq] at H
          obtain ⟨rfl, rfl, rfl, rfl, rfl, rfl, rfl⟩ := H
          have p999 : 0 ≤ (x29_2 : Int) := of_decide_eq_true aq
          have q999 : x29_2 < (l1.length : Int) := of_decide_eq_true aq
          obtain ⟨ad999, e999, hx999_0, hx999_1, hx999_2, hx999_3, hx999_4⟩ := at_T60 HR1.out x29_2 p999 q999
          cases e999
          replace hx999_0 := (HB.out.cell (World.block_lt_of_cell? w _ hx999_0)).trans hx999_0
          replace hx999_1 := (HB.out.cell (World.block_lt_of_cell? w _ hx999_1)).trans hx999_1
          replace hx999_2 := (HB.out.cell (World.block_lt_of_cell? w _ hx999_2)).trans hx999_2
          replace hx999_3 := (HB.out.cell (World.block_lt_of_cell? w _ hx999_3)).trans hx999_3
          replace hx999_4 := (HB.out.cell (World.block_lt_of_cell? w _ hx999_4)).trans hx999_4
          replace p999 := eq_true p999
          replace q999 := eq_true q999
          go_wp2_with (first | ((with_reducible refine gate_dst (N := 9) rfl ?_); (try (refine gate_guard (by rfl) ?_; dsimp only)); refine box_event ?hg (N := 9) ?hd (cs := #[.int .i64 0, .int .i64 0, .int .i64 0, .int .i64 0, .int .i64 0]) (t := 60) ?hr ?_; (case hd => rfl); (case hg => rfl); (case hr => first | (go_simp; done) | (go_simp; rfl)); intro gb1000 hg w55 hbox hb; replace HO_999002 := rb HO_999002 hb; replace HO_999003 := am (Kd.R_below (Kd.R_elderB (rq HO_999003) gb1000 (Nat.le_of_eq hg.symm)) hb); replace HO_999004 := am (Kd.R_below (Kd.R_elderB (rq HO_999004) gb1000 (Nat.le_of_eq hg.symm)) hb); have BK1000 := am (hbox); have GW1000 := am (gq hg); have GE1000 := am (gq hg); replace HB := sb hb; have NB984_1000 := nl hg BK984; have NB1000_984 := ng hg BK984; replace BK984 := zb BK984 hb; have NB985_1000 := nl hg BK985; have NB1000_985 := ng hg BK985; replace BK985 := zb BK985 hb; have NB998_1000 := nl hg BK998; have NB1000_998 := ng hg BK998; replace BK998 := zb BK998 hb; clear hb hbox hg; have hnb56 := NB1000_984.out; have hnc56 := NB984_1000.out; have hnb57 := NB1000_985.out; have hnc57 := NB985_1000.out; have hnb58 := NB1000_998.out; have hnc58 := NB998_1000.out; have ⟨hcz59_0, hcz59_1, hcz59_2, hcz59_3, hcz59_4, hfz59_0, hfz59_1, hfz59_2, hfz59_3, hfz59_4⟩ := bc5 BK1000; have hnb60 := NB998_984.out; have hnc60 := NB984_998.out; have hnb61 := NB998_985.out; have hnc61 := NB985_998.out; have ⟨hcz62_0, hcz62_1, hcz62_2, hcz62_3, hcz62_4, hfz62_0, hfz62_1, hfz62_2, hfz62_3, hfz62_4⟩ := bc5 BK998; obtain ⟨Ao63, co63, eo63⟩ := Kd.R_slice HO_999002.out; subst eo63; obtain ⟨Ao64, co64, eo64⟩ := Kd.R_slice HO_999003.out; subst eo64; obtain ⟨Ao65, co65, eo65⟩ := Kd.R_slice HO_999004.out; subst eo65) | ((with_reducible refine gate_callee (f := 73) rfl ?_); refine goesQ (some 37) Try.func73 #[.agg #[.int .i64 x999000_2, .int .i64 x999001_2, .slice Ao63 x999002_2.length co63, .slice Ao64 x999003_2.length co64, .slice Ao65 x999004_2.length co65], .agg #[.int .i64 ((rd_T60 l1 x29_2).f0), .int .i64 ((rd_T60 l1 x29_2).f1), .int .i64 ((rd_T60 l1 x29_2).f2), .int .i64 ((rd_T60 l1 x29_2).f3.f0), .int .i64 ((rd_T60 l1 x29_2).f3.f1)]] ?_; (with_reducible refine (spec_seDo.calls k2 x999000_2 x999001_2 _ _ x999002_2 _ _ x999003_2 _ _ x999004_2 ((rd_T60 l1 x29_2).f0) ((rd_T60 l1 x29_2).f1) ((rd_T60 l1 x29_2).f2) ((rd_T60 l1 x29_2).f3.f0) ((rd_T60 l1 x29_2).f3.f1) t1001 t1002 t1003 t1006 t1009 false _ ?s1 ?s2 ?s3 ?s4 ?s5 ?s6 A31.out).mono ?_); (case s1 => exact cf HO_999002 BK1000); (case s2 => exact rq1 HO_999002); (case s3 => refine (Kd.R_reads' (e := 60) (base := w.heap.size) (ok := fun k_ => (some k_ ≠ (.slice Ao65 x999004_2.length co65 : Value).ownBlock ∧ k_ ≠ gb1000)) (n := x999003_2.length) (c := co64) ?_).2.2; exact (by (with_reducible repeat (first | apply Kd.R_alloc | apply Kd.R_drewN | apply Kd.R_drew)); exact (Kd.R_mono (Kd.R_far (p := ⟨gb1000, 4, none⟩) (Kd.R_far (p := ⟨gb1000, 3, none⟩) (Kd.R_far (p := ⟨gb1000, 2, none⟩) (Kd.R_far (p := ⟨gb1000, 1, none⟩) (Kd.R_far (p := ⟨gb1000, 0, none⟩) (Kd.R_mono HO_999003.out (fun k_ hk => (⟨hk, hk.2⟩ : _ ∧ k_ ≠ gb1000))) (fun _ hk => hk.2) (.int .i64 ((rd_T60 l1 x29_2).f0))) (fun _ hk => hk.2) (.int .i64 ((rd_T60 l1 x29_2).f1))) (fun _ hk => hk.2) (.int .i64 ((rd_T60 l1 x29_2).f2))) (fun _ hk => hk.2) (.int .i64 ((rd_T60 l1 x29_2).f3.f0))) (fun _ hk => hk.2) (.int .i64 ((rd_T60 l1 x29_2).f3.f1))) (fun _ h_ => h_.1)))); (case s4 => exact rq1 HO_999003); (case s5 => refine (Kd.R_reads' (e := 60) (base := w.heap.size) (ok := fun k_ => (some k_ ≠ (.slice Ao64 x999003_2.length co64 : Value).ownBlock ∧ k_ ≠ gb1000)) (n := x999004_2.length) (c := co65) ?_).2.2; exact (by (with_reducible repeat (first | apply Kd.R_alloc | apply Kd.R_drewN | apply Kd.R_drew)); exact (Kd.R_mono (Kd.R_far (p := ⟨gb1000, 4, none⟩) (Kd.R_far (p := ⟨gb1000, 3, none⟩) (Kd.R_far (p := ⟨gb1000, 2, none⟩) (Kd.R_far (p := ⟨gb1000, 1, none⟩) (Kd.R_far (p := ⟨gb1000, 0, none⟩) (Kd.R_mono HO_999004.out (fun k_ hk => (⟨hk, hk.2⟩ : _ ∧ k_ ≠ gb1000))) (fun _ hk => hk.2) (.int .i64 ((rd_T60 l1 x29_2).f0))) (fun _ hk => hk.2) (.int .i64 ((rd_T60 l1 x29_2).f1))) (fun _ hk => hk.2) (.int .i64 ((rd_T60 l1 x29_2).f2))) (fun _ hk => hk.2) (.int .i64 ((rd_T60 l1 x29_2).f3.f0))) (fun _ hk => hk.2) (.int .i64 ((rd_T60 l1 x29_2).f3.f1))) (fun _ h_ => h_.1)))); (case s6 => exact rq1 HO_999004); rintro e w66 ⟨v1004, v1007, v1010, rfl, ho0, ho1, ho2, hb⟩; refine ⟨_, rfl, ?_⟩; have HO1005 := rl (Kd.R_new' ho0 (Kd.R_lt (fq HO_999002 BK1000))); replace HO_999002 := am (Kd.R_elder' (fq HO_999002 BK1000) (Kd.R_base ho0) hb); have HO1008 := am (Kd.R_lower (Kd.R_newB (Kd.R_new' (Kd.R_new' ho1 (Kd.R_lt (by (with_reducible repeat (first | apply Kd.R_alloc | apply Kd.R_drewN | apply Kd.R_drew)); exact (Kd.R_mono (Kd.R_far (p := ⟨gb1000, 4, none⟩) (Kd.R_far (p := ⟨gb1000, 3, none⟩) (Kd.R_far (p := ⟨gb1000, 2, none⟩) (Kd.R_far (p := ⟨gb1000, 1, none⟩) (Kd.R_far (p := ⟨gb1000, 0, none⟩) (Kd.R_mono HO_999003.out (fun k_ hk => (⟨hk, hk.2⟩ : _ ∧ k_ ≠ gb1000))) (fun _ hk => hk.2) (.int .i64 ((rd_T60 l1 x29_2).f0))) (fun _ hk => hk.2) (.int .i64 ((rd_T60 l1 x29_2).f1))) (fun _ hk => hk.2) (.int .i64 ((rd_T60 l1 x29_2).f2))) (fun _ hk => hk.2) (.int .i64 ((rd_T60 l1 x29_2).f3.f0))) (fun _ hk => hk.2) (.int .i64 ((rd_T60 l1 x29_2).f3.f1))) (fun _ h_ => h_.1))))) (Kd.R_lt (by (with_reducible repeat (first | apply Kd.R_alloc | apply Kd.R_drewN | apply Kd.R_drew)); exact (Kd.R_mono (Kd.R_far (p := ⟨gb1000, 4, none⟩) (Kd.R_far (p := ⟨gb1000, 3, none⟩) (Kd.R_far (p := ⟨gb1000, 2, none⟩) (Kd.R_far (p := ⟨gb1000, 1, none⟩) (Kd.R_far (p := ⟨gb1000, 0, none⟩) (Kd.R_mono HO_999004.out (fun k_ hk => (⟨hk, hk.2⟩ : _ ∧ k_ ≠ gb1000))) (fun _ hk => hk.2) (.int .i64 ((rd_T60 l1 x29_2).f0))) (fun _ hk => hk.2) (.int .i64 ((rd_T60 l1 x29_2).f1))) (fun _ hk => hk.2) (.int .i64 ((rd_T60 l1 x29_2).f2))) (fun _ hk => hk.2) (.int .i64 ((rd_T60 l1 x29_2).f3.f0))) (fun _ hk => hk.2) (.int .i64 ((rd_T60 l1 x29_2).f3.f1))) (fun _ h_ => h_.1))))) (g := gb1000) (o := .cells #[.int .i64 ((rd_T60 l1 x29_2).f0), .int .i64 ((rd_T60 l1 x29_2).f1), .int .i64 ((rd_T60 l1 x29_2).f2), .int .i64 ((rd_T60 l1 x29_2).f3.f0), .int .i64 ((rd_T60 l1 x29_2).f3.f1)] 60 (0, 0)) (zp BK1000)) (below_size bq)); have HO1011 := am (Kd.R_lower (Kd.R_newB (Kd.R_new' (Kd.R_new' ho2 (Kd.R_lt (by (with_reducible repeat (first | apply Kd.R_alloc | apply Kd.R_drewN | apply Kd.R_drew)); exact (Kd.R_mono (Kd.R_far (p := ⟨gb1000, 4, none⟩) (Kd.R_far (p := ⟨gb1000, 3, none⟩) (Kd.R_far (p := ⟨gb1000, 2, none⟩) (Kd.R_far (p := ⟨gb1000, 1, none⟩) (Kd.R_far (p := ⟨gb1000, 0, none⟩) (Kd.R_mono HO_999003.out (fun k_ hk => (⟨hk, hk.2⟩ : _ ∧ k_ ≠ gb1000))) (fun _ hk => hk.2) (.int .i64 ((rd_T60 l1 x29_2).f0))) (fun _ hk => hk.2) (.int .i64 ((rd_T60 l1 x29_2).f1))) (fun _ hk => hk.2) (.int .i64 ((rd_T60 l1 x29_2).f2))) (fun _ hk => hk.2) (.int .i64 ((rd_T60 l1 x29_2).f3.f0))) (fun _ hk => hk.2) (.int .i64 ((rd_T60 l1 x29_2).f3.f1))) (fun _ h_ => h_.1))))) (Kd.R_lt (by (with_reducible repeat (first | apply Kd.R_alloc | apply Kd.R_drewN | apply Kd.R_drew)); exact (Kd.R_mono (Kd.R_far (p := ⟨gb1000, 4, none⟩) (Kd.R_far (p := ⟨gb1000, 3, none⟩) (Kd.R_far (p := ⟨gb1000, 2, none⟩) (Kd.R_far (p := ⟨gb1000, 1, none⟩) (Kd.R_far (p := ⟨gb1000, 0, none⟩) (Kd.R_mono HO_999004.out (fun k_ hk => (⟨hk, hk.2⟩ : _ ∧ k_ ≠ gb1000))) (fun _ hk => hk.2) (.int .i64 ((rd_T60 l1 x29_2).f0))) (fun _ hk => hk.2) (.int .i64 ((rd_T60 l1 x29_2).f1))) (fun _ hk => hk.2) (.int .i64 ((rd_T60 l1 x29_2).f2))) (fun _ hk => hk.2) (.int .i64 ((rd_T60 l1 x29_2).f3.f0))) (fun _ hk => hk.2) (.int .i64 ((rd_T60 l1 x29_2).f3.f1))) (fun _ h_ => h_.1))))) (g := gb1000) (o := .cells #[.int .i64 ((rd_T60 l1 x29_2).f0), .int .i64 ((rd_T60 l1 x29_2).f1), .int .i64 ((rd_T60 l1 x29_2).f2), .int .i64 ((rd_T60 l1 x29_2).f3.f0), .int .i64 ((rd_T60 l1 x29_2).f3.f1)] 60 (0, 0)) (zp BK1000)) (below_size bq)); replace HO_999003 := am (Kd.R_mono (Kd.R_told (Kd.R_told (Kd.R_old (by (with_reducible repeat (first | apply Kd.R_alloc | apply Kd.R_drewN | apply Kd.R_drew)); exact (Kd.R_mono (Kd.R_far (p := ⟨gb1000, 4, none⟩) (Kd.R_far (p := ⟨gb1000, 3, none⟩) (Kd.R_far (p := ⟨gb1000, 2, none⟩) (Kd.R_far (p := ⟨gb1000, 1, none⟩) (Kd.R_far (p := ⟨gb1000, 0, none⟩) (Kd.R_mono HO_999003.out (fun k_ hk => (⟨hk, hk.2⟩ : _ ∧ k_ ≠ gb1000))) (fun _ hk => hk.2) (.int .i64 ((rd_T60 l1 x29_2).f0))) (fun _ hk => hk.2) (.int .i64 ((rd_T60 l1 x29_2).f1))) (fun _ hk => hk.2) (.int .i64 ((rd_T60 l1 x29_2).f2))) (fun _ hk => hk.2) (.int .i64 ((rd_T60 l1 x29_2).f3.f0))) (fun _ hk => hk.2) (.int .i64 ((rd_T60 l1 x29_2).f3.f1))) (fun _ h_ => h_.1))) hb) (Kd.R_base ho1)) (Kd.R_base ho2)) (fun _ h_ => h_.1)); replace HO_999004 := am (Kd.R_mono (Kd.R_told (Kd.R_told (Kd.R_old (by (with_reducible repeat (first | apply Kd.R_alloc | apply Kd.R_drewN | apply Kd.R_drew)); exact (Kd.R_mono (Kd.R_far (p := ⟨gb1000, 4, none⟩) (Kd.R_far (p := ⟨gb1000, 3, none⟩) (Kd.R_far (p := ⟨gb1000, 2, none⟩) (Kd.R_far (p := ⟨gb1000, 1, none⟩) (Kd.R_far (p := ⟨gb1000, 0, none⟩) (Kd.R_mono HO_999004.out (fun k_ hk => (⟨hk, hk.2⟩ : _ ∧ k_ ≠ gb1000))) (fun _ hk => hk.2) (.int .i64 ((rd_T60 l1 x29_2).f0))) (fun _ hk => hk.2) (.int .i64 ((rd_T60 l1 x29_2).f1))) (fun _ hk => hk.2) (.int .i64 ((rd_T60 l1 x29_2).f2))) (fun _ hk => hk.2) (.int .i64 ((rd_T60 l1 x29_2).f3.f0))) (fun _ hk => hk.2) (.int .i64 ((rd_T60 l1 x29_2).f3.f1))) (fun _ h_ => h_.1))) hb) (Kd.R_base ho1)) (Kd.R_base ho2)) (fun _ h_ => h_.1)); replace BK984 := am (blk_below (g := gb984) (o := .cells #[.int .i64 a0_0, .int .i64 a0_1, .slice A0_2 l0_2.length c0_2, .slice A0_3 l0_3.length c0_3, .slice A0_4 l0_4.length c0_4] 35 (0, 0)) (zp BK984) hb); replace BK985 := am (blk_below (g := gb985) (o := .cells #[.int .i64 x986000_2, .int .i64 x986001_2, .slice none 0 0, .slice none 0 0, .slice none 0 0] 35 (0, 0)) (zp BK985) hb); replace BK998 := am (blk_below (g := gb998) (o := .cells #[.int .i64 x999000_2, .int .i64 x999001_2, .slice Ao63 x999002_2.length co63, .slice Ao64 x999003_2.length co64, .slice Ao65 x999004_2.length co65] 35 (0, 0)) (zp BK998) hb); replace BK1000 := am (blk_below (g := gb1000) (o := .cells #[.int .i64 ((rd_T60 l1 x29_2).f0), .int .i64 ((rd_T60 l1 x29_2).f1), .int .i64 ((rd_T60 l1 x29_2).f2), .int .i64 ((rd_T60 l1 x29_2).f3.f0), .int .i64 ((rd_T60 l1 x29_2).f3.f1)] 60 (0, 0)) (zp BK1000) hb); replace HB := sb hb; (try clear hb hb2 hk hi ho0 ho1 ho2)) | ((with_reducible refine gate_dst (N := 10) rfl ?_); (try (refine gate_guard (by rfl) ?_; dsimp only)); refine box_event ?hg (N := 10) ?hd (cs := #[.int .i64 0, .int .i64 0, .slice none 0 0, .slice none 0 0, .slice none 0 0]) (t := 35) ?hr ?_; (case hd => rfl); (case hg => rfl); (case hr => first | (go_simp; done) | (go_simp; rfl)); intro gb1013 hg w67 hbox hb; replace HO_999002 := rb HO_999002 hb; replace HO_999003 := rb HO_999003 hb; replace HO_999004 := rb HO_999004 hb; replace HO1005 := rb HO1005 hb; replace HO1008 := rb HO1008 hb; replace HO1011 := rb HO1011 hb; have BK1013 := am (hbox); have GW1013 := am (gq hg); have GE1013 := am (gq hg); replace HB := sb hb; have NB984_1013 := nl hg BK984; have NB1013_984 := ng hg BK984; replace BK984 := zb BK984 hb; have NB985_1013 := nl hg BK985; have NB1013_985 := ng hg BK985; replace BK985 := zb BK985 hb; have NB998_1013 := nl hg BK998; have NB1013_998 := ng hg BK998; replace BK998 := zb BK998 hb; have NB1000_1013 := nl hg BK1000; have NB1013_1000 := ng hg BK1000; replace BK1000 := zb BK1000 hb; clear hb hbox hg; have hnb68 := NB1013_984.out; have hnc68 := NB984_1013.out; have hnb69 := NB1013_985.out; have hnc69 := NB985_1013.out; have hnb70 := NB1013_998.out; have hnc70 := NB998_1013.out; have hnb71 := NB1013_1000.out; have hnc71 := NB1000_1013.out; have ⟨hcz72_0, hcz72_1, hcz72_2, hcz72_3, hcz72_4, hfz72_0, hfz72_1, hfz72_2, hfz72_3, hfz72_4⟩ := bc5 BK1013; obtain ⟨Ao73, co73, eo73⟩ := Kd.R_slice HO1005.out; subst eo73; obtain ⟨Ao74, co74, eo74⟩ := Kd.R_slice HO1008.out; subst eo74; obtain ⟨Ao75, co75, eo75⟩ := Kd.R_slice HO1011.out; subst eo75; have ⟨hcz76_0, hcz76_1, hcz76_2, hcz76_3, hcz76_4, hfz76_0, hfz76_1, hfz76_2, hfz76_3, hfz76_4⟩ := bc5 BK998; have hnb77 := NB985_984.out; have hnc77 := NB984_985.out; have ⟨hcz78_0, hcz78_1, hcz78_2, hcz78_3, hcz78_4, hfz78_0, hfz78_1, hfz78_2, hfz78_3, hfz78_4⟩ := bc5 BK985))
          refine bodyPost_ret (results_ctt rfl _ _ gb985 35 #[.int .i64 x999000_2, .int .i64 x999001_2, .slice Ao63 x999002_2.length co63, .slice Ao64 x999003_2.length co64, .slice Ao65 x999004_2.length co65] (0, 0) _ rfl (zp BK985) Try.underlying35 rfl (by kernel_rfl)) rfl ?_
          exact ⟨_, _, _, eq_, by (with_reducible repeat (first | apply Kd.R_alloc | apply Kd.R_drewN | apply Kd.R_drew)); exact Kd.R_mono (Kd.R_far (p := ⟨gb985, 4, none⟩) (Kd.R_far (p := ⟨gb985, 3, none⟩) (Kd.R_far (p := ⟨gb985, 2, none⟩) (Kd.R_far (p := ⟨gb985, 1, none⟩) (Kd.R_far (p := ⟨gb985, 0, none⟩) (Kd.R_far (p := ⟨gb1013, 4, none⟩) (Kd.R_far (p := ⟨gb1013, 3, none⟩) (Kd.R_far (p := ⟨gb1013, 2, none⟩) (Kd.R_far (p := ⟨gb1013, 1, none⟩) (Kd.R_far (p := ⟨gb1013, 0, none⟩) (Kd.R_types (Kd.R_types HO_999002.out BK1013.out (by decide)) BK985.out (by decide)) (fun _ hk => hk.1.2) (.int .i64 t1001)) (fun _ hk => hk.1.2) (.int .i64 t1002)) (fun _ hk => hk.1.2) (.slice Ao73 t1003.length co73)) (fun _ hk => hk.1.2) (.slice Ao74 t1006.length co74)) (fun _ hk => hk.1.2) (.slice Ao75 t1009.length co75)) (fun _ hk => hk.2) (.int .i64 x999000_2)) (fun _ hk => hk.2) (.int .i64 x999001_2)) (fun _ hk => hk.2) (.slice Ao63 x999002_2.length co63)) (fun _ hk => hk.2) (.slice Ao64 x999003_2.length co64)) (fun _ hk => hk.2) (.slice Ao65 x999004_2.length co65)) (fun _ hk => trivial), by (with_reducible repeat (first | apply Kd.R_alloc | apply Kd.R_drewN | apply Kd.R_drew)); exact Kd.R_mono (Kd.R_far (p := ⟨gb985, 4, none⟩) (Kd.R_far (p := ⟨gb985, 3, none⟩) (Kd.R_far (p := ⟨gb985, 2, none⟩) (Kd.R_far (p := ⟨gb985, 1, none⟩) (Kd.R_far (p := ⟨gb985, 0, none⟩) (Kd.R_far (p := ⟨gb1013, 4, none⟩) (Kd.R_far (p := ⟨gb1013, 3, none⟩) (Kd.R_far (p := ⟨gb1013, 2, none⟩) (Kd.R_far (p := ⟨gb1013, 1, none⟩) (Kd.R_far (p := ⟨gb1013, 0, none⟩) (Kd.R_types (Kd.R_types HO_999003.out BK1013.out (by decide)) BK985.out (by decide)) (fun _ hk => hk.1.2) (.int .i64 t1001)) (fun _ hk => hk.1.2) (.int .i64 t1002)) (fun _ hk => hk.1.2) (.slice Ao73 t1003.length co73)) (fun _ hk => hk.1.2) (.slice Ao74 t1006.length co74)) (fun _ hk => hk.1.2) (.slice Ao75 t1009.length co75)) (fun _ hk => hk.2) (.int .i64 x999000_2)) (fun _ hk => hk.2) (.int .i64 x999001_2)) (fun _ hk => hk.2) (.slice Ao63 x999002_2.length co63)) (fun _ hk => hk.2) (.slice Ao64 x999003_2.length co64)) (fun _ hk => hk.2) (.slice Ao65 x999004_2.length co65)) (fun _ hk => hk.1.1.1.1.1), by (with_reducible repeat (first | apply Kd.R_alloc | apply Kd.R_drewN | apply Kd.R_drew)); exact Kd.R_mono (Kd.R_far (p := ⟨gb985, 4, none⟩) (Kd.R_far (p := ⟨gb985, 3, none⟩) (Kd.R_far (p := ⟨gb985, 2, none⟩) (Kd.R_far (p := ⟨gb985, 1, none⟩) (Kd.R_far (p := ⟨gb985, 0, none⟩) (Kd.R_far (p := ⟨gb1013, 4, none⟩) (Kd.R_far (p := ⟨gb1013, 3, none⟩) (Kd.R_far (p := ⟨gb1013, 2, none⟩) (Kd.R_far (p := ⟨gb1013, 1, none⟩) (Kd.R_far (p := ⟨gb1013, 0, none⟩) (Kd.R_types (Kd.R_types HO_999004.out BK1013.out (by decide)) BK985.out (by decide)) (fun _ hk => hk.1.2) (.int .i64 t1001)) (fun _ hk => hk.1.2) (.int .i64 t1002)) (fun _ hk => hk.1.2) (.slice Ao73 t1003.length co73)) (fun _ hk => hk.1.2) (.slice Ao74 t1006.length co74)) (fun _ hk => hk.1.2) (.slice Ao75 t1009.length co75)) (fun _ hk => hk.2) (.int .i64 x999000_2)) (fun _ hk => hk.2) (.int .i64 x999001_2)) (fun _ hk => hk.2) (.slice Ao63 x999002_2.length co63)) (fun _ hk => hk.2) (.slice Ao64 x999003_2.length co64)) (fun _ hk => hk.2) (.slice Ao65 x999004_2.length co65)) (fun _ hk => hk.1.1.1.1.1), bq⟩
        ·rw [if_neg c30] at H
         exact absurd H (by simp)
       ·rw [if_neg c29] at H
        exact absurd H (by simp)
      ·rw [if_neg c28] at H
       have c28b0 : decide (x29_2 < (l1.length : Int)) = false := decide_eq_false c28
       clear c28
       simp only [Option.some.injEq, Prod.mk.injEq] at H
       obtain ⟨rfl, rfl, rfl, rfl, rfl, rfl, rfl⟩ := H
       have hnb79 := NB998_984.out
       have hnc79 := NB984_998.out
       have hnb80 := NB998_985.out
       have hnc80 := NB985_998.out
       have ⟨hcz81_0, hcz81_1, hcz81_2, hcz81_3, hcz81_4, hfz81_0, hfz81_1, hfz81_2, hfz81_3, hfz81_4⟩ := bc5 BK998
       have hnb82 := NB985_984.out
       have hnc82 := NB984_985.out
       have ⟨hcz83_0, hcz83_1, hcz83_2, hcz83_3, hcz83_4, hfz83_0, hfz83_1, hfz83_2, hfz83_3, hfz83_4⟩ := bc5 BK985
       obtain ⟨Ao84, co84, eo84⟩ := Kd.R_slice HO_999002.out
       subst eo84
       obtain ⟨Ao85, co85, eo85⟩ := Kd.R_slice HO_999003.out
       subst eo85
       obtain ⟨Ao86, co86, eo86⟩ := Kd.R_slice HO_999004.out
       subst eo86
       go_wp2
       refine bodyPost_ret (results_ctt rfl _ _ gb985 35 #[.int .i64 x999000_2, .int .i64 x999001_2, .slice Ao84 x999002_2.length co84, .slice Ao85 x999003_2.length co85, .slice Ao86 x999004_2.length co86] (0, 0) _ rfl (zp BK985) Try.underlying35 rfl (by kernel_rfl)) rfl ?_
       exact ⟨_, _, _, eq_, Kd.R_mono (ff HO_999002 BK985) (fun _ hk => trivial), Kd.R_mono (ff HO_999003 BK985) (fun _ hk => hk.1), Kd.R_mono (ff HO_999004 BK985) (fun _ hk => hk.1), bq⟩


/-! ### impl_IsCell: function 90 -/
def impl_IsCell.f (a0_0 : Int) (a0_1 : Int) : Option (Bool) := if a0_0 < 0 then (some false) else (if a0_0 > 7 then (some false) else (if a0_1 < 0 then (some false) else (if a0_1 > 1 then (some false) else (if a0_1 = 0 then (some true) else (if a0_0 = 3 then (some true) else (some (a0_0 == 6)))))))
set_option maxHeartbeats 8000000 in
set_option maxRecDepth 100000 in
theorem impl_IsCell.calls (a0_0 : Int) (a0_1 : Int) (r : Bool) (w : World) (h : impl_IsCell.f a0_0 a0_1 = some r) :
  Calls Try.prog 90 #[.agg #[.int .i64 a0_0, .int .i64 a0_1]] w fun e w' => e = .returned (.bool r) ∧ Below w.heap.size w w' := by
 have hu58 := Try.underlying58
 have HB := am (Below.refl w.heap.size w)
 have H : (if a0_0 < 0 then (some false) else (if a0_0 > 7 then (some false) else (if a0_1 < 0 then (some false) else (if a0_1 > 1 then (some false) else (if a0_1 = 0 then (some true) else (if a0_0 = 3 then (some true) else (some (a0_0 == 6)))))))) = some r := h
 clear h
 by_cases c2 : a0_0 < 0
 ·rw [if_pos c2] at H
  have c2b0 : decide (a0_0 < 0) = true := decide_eq_true c2
  clear c2
  obtain rfl := Option.some.inj H
  go_enter Try.func90, Try.ntmps90
  go_wp2_with (first | ((with_reducible refine gate_dst (N := 1) rfl ?_); refine box_event ?hg (N := 1) ?hd (cs := #[.int .i64 a0_0, .int .i64 a0_1]) (t := 58) ?hr ?_; (case hd => rfl); (case hg => rfl); (case hr => first | (go_simp; done) | (go_simp; rfl)); intro gb177 hg w3 hbox hb; have BK177 := am (hbox); have GW177 := am (gq hg); have GE177 := am (gq hg); replace HB := sb hb; clear hb hbox hg; have ⟨hcz4_0, hcz4_1, hfz4_0, hfz4_1⟩ := bc2 BK177))
  go_ret
  exact ⟨eq_, bq⟩
 ·rw [if_neg c2] at H
  have c2b0 : decide (a0_0 < 0) = false := decide_eq_false c2
  clear c2
  by_cases c5 : a0_0 > 7
  ·rw [if_pos c5] at H
   have c5b0 : decide (7 < a0_0) = true := decide_eq_true c5
   clear c5
   obtain rfl := Option.some.inj H
   go_enter Try.func90, Try.ntmps90
   go_wp2_with (first | ((with_reducible refine gate_dst (N := 1) rfl ?_); refine box_event ?hg (N := 1) ?hd (cs := #[.int .i64 a0_0, .int .i64 a0_1]) (t := 58) ?hr ?_; (case hd => rfl); (case hg => rfl); (case hr => first | (go_simp; done) | (go_simp; rfl)); intro gb177 hg w6 hbox hb; have BK177 := am (hbox); have GW177 := am (gq hg); have GE177 := am (gq hg); replace HB := sb hb; clear hb hbox hg; have ⟨hcz7_0, hcz7_1, hfz7_0, hfz7_1⟩ := bc2 BK177))
   go_ret
   exact ⟨eq_, bq⟩
  ·rw [if_neg c5] at H
   have c5b0 : decide (7 < a0_0) = false := decide_eq_false c5
   clear c5
   by_cases c8 : a0_1 < 0
   ·rw [if_pos c8] at H
    have c8b0 : decide (a0_1 < 0) = true := decide_eq_true c8
    clear c8
    obtain rfl := Option.some.inj H
    go_enter Try.func90, Try.ntmps90
    go_wp2_with (first | ((with_reducible refine gate_dst (N := 1) rfl ?_); refine box_event ?hg (N := 1) ?hd (cs := #[.int .i64 a0_0, .int .i64 a0_1]) (t := 58) ?hr ?_; (case hd => rfl); (case hg => rfl); (case hr => first | (go_simp; done) | (go_simp; rfl)); intro gb177 hg w9 hbox hb; have BK177 := am (hbox); have GW177 := am (gq hg); have GE177 := am (gq hg); replace HB := sb hb; clear hb hbox hg; have ⟨hcz10_0, hcz10_1, hfz10_0, hfz10_1⟩ := bc2 BK177))
    go_ret
    exact ⟨eq_, bq⟩
   ·rw [if_neg c8] at H
    have c8b0 : decide (a0_1 < 0) = false := decide_eq_false c8
    clear c8
    by_cases c11 : a0_1 > 1
    ·rw [if_pos c11] at H
     have c11b0 : decide (1 < a0_1) = true := decide_eq_true c11
     clear c11
     obtain rfl := Option.some.inj H
     go_enter Try.func90, Try.ntmps90
     go_wp2_with (first | ((with_reducible refine gate_dst (N := 1) rfl ?_); refine box_event ?hg (N := 1) ?hd (cs := #[.int .i64 a0_0, .int .i64 a0_1]) (t := 58) ?hr ?_; (case hd => rfl); (case hg => rfl); (case hr => first | (go_simp; done) | (go_simp; rfl)); intro gb177 hg w12 hbox hb; have BK177 := am (hbox); have GW177 := am (gq hg); have GE177 := am (gq hg); replace HB := sb hb; clear hb hbox hg; have ⟨hcz13_0, hcz13_1, hfz13_0, hfz13_1⟩ := bc2 BK177))
     go_ret
     exact ⟨eq_, bq⟩
    ·rw [if_neg c11] at H
     have c11b0 : decide (1 < a0_1) = false := decide_eq_false c11
     clear c11
     by_cases c14 : a0_1 = 0
     ·rw [if_pos c14] at H
      have c14b0 : (a0_1 == 0) = true := beq_iff_eq.mpr c14
      have c14b1 : (a0_1 != 0) = false := bne_eq_false_iff_eq.mpr c14
      clear c14
      obtain rfl := Option.some.inj H
      go_enter Try.func90, Try.ntmps90
      go_wp2_with (first | ((with_reducible refine gate_dst (N := 1) rfl ?_); refine box_event ?hg (N := 1) ?hd (cs := #[.int .i64 a0_0, .int .i64 a0_1]) (t := 58) ?hr ?_; (case hd => rfl); (case hg => rfl); (case hr => first | (go_simp; done) | (go_simp; rfl)); intro gb177 hg w15 hbox hb; have BK177 := am (hbox); have GW177 := am (gq hg); have GE177 := am (gq hg); replace HB := sb hb; clear hb hbox hg; have ⟨hcz16_0, hcz16_1, hfz16_0, hfz16_1⟩ := bc2 BK177))
      go_ret
      exact ⟨eq_, bq⟩
     ·rw [if_neg c14] at H
      have c14b0 : (a0_1 == 0) = false := beq_eq_false_iff_ne.mpr c14
      have c14b1 : (a0_1 != 0) = true := bne_iff_ne.mpr c14
      by_cases c17 : a0_0 = 3
      ·rw [if_pos c17] at H
       have c17b0 : (a0_0 == 3) = true := beq_iff_eq.mpr c17
       have c17b1 : (a0_0 != 3) = false := bne_eq_false_iff_eq.mpr c17
       clear c17
       obtain rfl := Option.some.inj H
       go_enter Try.func90, Try.ntmps90
       go_wp2_with (first | ((with_reducible refine gate_dst (N := 1) rfl ?_); refine box_event ?hg (N := 1) ?hd (cs := #[.int .i64 a0_0, .int .i64 a0_1]) (t := 58) ?hr ?_; (case hd => rfl); (case hg => rfl); (case hr => first | (go_simp; done) | (go_simp; rfl)); intro gb177 hg w18 hbox hb; have BK177 := am (hbox); have GW177 := am (gq hg); have GE177 := am (gq hg); replace HB := sb hb; clear hb hbox hg; have ⟨hcz19_0, hcz19_1, hfz19_0, hfz19_1⟩ := bc2 BK177))
       go_ret
       exact ⟨eq_, bq⟩
      ·rw [if_neg c17] at H
       have c17b0 : (a0_0 == 3) = false := beq_eq_false_iff_ne.mpr c17
       have c17b1 : (a0_0 != 3) = true := bne_iff_ne.mpr c17
       obtain rfl := Option.some.inj H
       go_enter Try.func90, Try.ntmps90
       go_wp2_with (first | ((with_reducible refine gate_dst (N := 1) rfl ?_); refine box_event ?hg (N := 1) ?hd (cs := #[.int .i64 a0_0, .int .i64 a0_1]) (t := 58) ?hr ?_; (case hd => rfl); (case hg => rfl); (case hr => first | (go_simp; done) | (go_simp; rfl)); intro gb177 hg w20 hbox hb; have BK177 := am (hbox); have GW177 := am (gq hg); have GE177 := am (gq hg); replace HB := sb hb; clear hb hbox hg; have ⟨hcz21_0, hcz21_1, hfz21_0, hfz21_1⟩ := bc2 BK177))
       go_ret
       exact ⟨eq_, bq⟩




section
/-! ### impl_validCells: function 88 -/
attribute [local go_sem high] eqA58
def impl_validCells.l0 : Nat → List (S58) → Int → Int → Option (Bool)
 | 0, _, _, _ => none
 | k + 1, x8, x9, x10 => if x10 < x9 then (if 0 ≤ x10 then (if x10 < (x8.length : Int) then ((impl_IsCell.f ((rd_T58 x8 x10).f0) ((rd_T58 x8 x10).f1)).bind fun t180 => (if t180 = true then (impl_validCells.l0 k x8 x9 (wrap64 (x10 + 1))) else (some false))) else (none)) else (none)) else (some true)
def impl_validCells.f (k : Nat) (l0 : List (S58)) : Option (Bool) := if (l0.length : Int) > 90 then (some false) else (impl_validCells.l0 k l0 (l0.length : Int) 0)
theorem impl_validCells.mono_l : ∀ k, (∀ y0 y1 y2, LeO (impl_validCells.l0 k y0 y1 y2) (impl_validCells.l0 (k + 1) y0 y1 y2))
 | 0 => fun _ _ _ r h => by simp [impl_validCells.l0] at h
 | k + 1 => by
  have ih0 := impl_validCells.mono_l k
  ·intro y0 y1 y2
   unfold impl_validCells.l0
   repeat' first
   | (with_reducible exact ih0 _ _ _)
   | (with_reducible exact LeO.refl _)
   | (with_reducible exact LeO.none _)
   | (with_reducible refine LeO.ite ?_ ?_)
   | (with_reducible refine LeO.bind ?_ (fun _ => ?_))
   | exact ih0 _ _ _
   | exact LeO.none _
   | refine LeO.ite ?_ ?_
   | refine LeO.bind ?_ (fun _ => ?_)
theorem impl_validCells.mono : ∀ a0 k, LeO (impl_validCells.f k a0) (impl_validCells.f (k + 1) a0) := by
 intro a0 k
 have ih0 := impl_validCells.mono_l k
 unfold impl_validCells.f
 repeat' first
   | (with_reducible exact ih0 _ _ _)
   | (with_reducible exact LeO.refl _)
   | (with_reducible exact LeO.none _)
   | (with_reducible refine LeO.ite ?_ ?_)
   | (with_reducible refine LeO.bind ?_ (fun _ => ?_))
   | exact ih0 _ _ _
   | exact LeO.none _
   | refine LeO.ite ?_ ?_
   | refine LeO.bind ?_ (fun _ => ?_)
set_option maxHeartbeats 8000000 in
set_option maxRecDepth 100000 in
theorem impl_validCells.calls (k : Nat) (A0 : Option Addr) (c0 : Nat) (l0 : List (S58)) (r : Bool) (w : World) (hr0 : Kd.C k58 w A0 l0.length l0) (hc0 : l0.length ≤ c0) (h : impl_validCells.f k l0 = some r) :
  Calls Try.prog 88 #[.slice A0 l0.length c0] w fun e w' => e = .returned (.bool r) ∧ Below w.heap.size w w' := by
 have hu58 := Try.underlying58
 have HR0 := am hr0
 have HC0 := am hc0
 clear hr0 hc0
 have HB := am (Below.refl w.heap.size w)
 have H : (if (l0.length : Int) > 90 then (some false) else (impl_validCells.l0 k l0 (l0.length : Int) 0)) = some r := h
 clear h
 by_cases c2 : (l0.length : Int) > 90
 ·rw [if_pos c2] at H
  have c2b0 : decide (90 < (l0.length : Int)) = true := decide_eq_true c2
  have c2b1 : decide (90 < l0.length) = true := decide_eq_true (by omega)
  clear c2
  obtain rfl := Option.some.inj H
  go_enter Try.func88, Try.ntmps88
  go_wp2
  go_ret
  exact ⟨eq_, bq⟩
 ·rw [if_neg c2] at H
  have c2b0 : decide (90 < (l0.length : Int)) = false := decide_eq_false c2
  have c2b1 : decide (90 < l0.length) = false := decide_eq_false (by omega)
  clear c2
  have H' := am H
  clear H
  go_enter Try.func88, Try.ntmps88
  go_wp2
  go_loopg [10] k (fun kq v10 w' => ∃ (x10_1 : Int), v10 = .int .i64 x10_1 ∧ Aside0 (impl_validCells.l0 kq l0 (l0.length : Int) x10_1 = some r) ∧ Aside0 (kq ≤ k) ∧ Aside0 (Below w.heap.size w w'))
  case atStart => exact ⟨(0), sq, H', ⟨Nat.le_refl _⟩, ⟨bq⟩⟩
  case round =>
   clear H'
   try clear c2b0
   try clear c2b1
   obtain ⟨x10_1, rfl, HA, HK1, HB⟩ := hrel
   cases gk with
   | zero => exact absurd HA.out (by simp [impl_validCells.l0])
   | succ k1 =>
    have H := HA.out
    clear HA
    simp only [impl_validCells.l0] at H
    by_cases c3 : x10_1 < (l0.length : Int)
    ·rw [if_pos c3] at H
     have c3b0 : decide (x10_1 < (l0.length : Int)) = true := decide_eq_true c3
     clear c3
     by_cases c4 : 0 ≤ x10_1
     ·rw [if_pos c4] at H
      have c4b0 : decide (0 ≤ x10_1) = true := decide_eq_true c4
      clear c4
      by_cases c5 : x10_1 < (l0.length : Int)
      ·rw [if_pos c5] at H
       have c5b0 : decide (x10_1 < (l0.length : Int)) = true := decide_eq_true c5
       clear c5
       obtain ⟨t180, A6, H⟩ := bindq H
       try dsimp only at H
       by_cases c7 : t180 = true
       ·subst c7
        rw [if_pos rfl] at H
        try dsimp only at H
        have H' := am H
        clear H
        have p178 : 0 ≤ (x10_1 : Int) := of_decide_eq_true aq
        have q178 : x10_1 < (l0.length : Int) := of_decide_eq_true aq
        obtain ⟨ad178, e178, hx178_0, hx178_1⟩ := at_T58 HR0.out x10_1 p178 q178
        cases e178
        replace hx178_0 := (HB.out.cell (World.block_lt_of_cell? w _ hx178_0)).trans hx178_0
        replace hx178_1 := (HB.out.cell (World.block_lt_of_cell? w _ hx178_1)).trans hx178_1
        replace p178 := eq_true p178
        replace q178 := eq_true q178
        go_wp2_with (first | ((with_reducible refine gate_dst (N := 4) rfl ?_); refine box_event ?hg (N := 4) ?hd (cs := #[.int .i64 0, .int .i64 0]) (t := 58) ?hr ?_; (case hd => rfl); (case hg => rfl); (case hr => first | (go_simp; done) | (go_simp; rfl)); intro gb179 hg w8 hbox hb; have BK179 := am (hbox); have GW179 := am (gq hg); have GE179 := am (gq hg); replace HB := sb hb; clear hb hbox hg; have ⟨hcz9_0, hcz9_1, hfz9_0, hfz9_1⟩ := bc2 BK179) | ((with_reducible refine gate_callee (f := 90) rfl ?_); refine goesQ (some 15) Try.func90 #[.agg #[.int .i64 ((rd_T58 l0 x10_1).f0), .int .i64 ((rd_T58 l0 x10_1).f1)]] ?_; (with_reducible refine (impl_IsCell.calls ((rd_T58 l0 x10_1).f0) ((rd_T58 l0 x10_1).f1) true _ A6.out).mono ?_); rintro e w10 ⟨rfl, hb⟩; refine ⟨_, rfl, ?_⟩; replace BK179 := am (blk_below (g := gb179) (o := .cells #[.int .i64 ((rd_T58 l0 x10_1).f0), .int .i64 ((rd_T58 l0 x10_1).f1)] 58 (0, 0)) (zp BK179) hb); replace HB := sb hb; (try clear hb)))
        go_roundg k1
        case measure => have := HK1.out; omega
        case rel => exact ⟨(wrap64 (x10_1 + 1)), sq, H', ⟨by have := HK1.out; omega⟩, ⟨bq⟩⟩
       ·replace c7 := Bool.eq_false_iff.mpr c7
        subst c7
        rw [if_neg (show ¬ (false = true) by decide)] at H
        try dsimp only at H
        obtain rfl := Option.some.inj H
        have p178 : 0 ≤ (x10_1 : Int) := of_decide_eq_true aq
        have q178 : x10_1 < (l0.length : Int) := of_decide_eq_true aq
        obtain ⟨ad178, e178, hx178_0, hx178_1⟩ := at_T58 HR0.out x10_1 p178 q178
        cases e178
        replace hx178_0 := (HB.out.cell (World.block_lt_of_cell? w _ hx178_0)).trans hx178_0
        replace hx178_1 := (HB.out.cell (World.block_lt_of_cell? w _ hx178_1)).trans hx178_1
        replace p178 := eq_true p178
        replace q178 := eq_true q178
        go_wp2_with (first | ((with_reducible refine gate_dst (N := 4) rfl ?_); refine box_event ?hg (N := 4) ?hd (cs := #[.int .i64 0, .int .i64 0]) (t := 58) ?hr ?_; (case hd => rfl); (case hg => rfl); (case hr => first | (go_simp; done) | (go_simp; rfl)); intro gb179 hg w11 hbox hb; have BK179 := am (hbox); have GW179 := am (gq hg); have GE179 := am (gq hg); replace HB := sb hb; clear hb hbox hg; have ⟨hcz12_0, hcz12_1, hfz12_0, hfz12_1⟩ := bc2 BK179) | ((with_reducible refine gate_callee (f := 90) rfl ?_); refine goesQ (some 15) Try.func90 #[.agg #[.int .i64 ((rd_T58 l0 x10_1).f0), .int .i64 ((rd_T58 l0 x10_1).f1)]] ?_; (with_reducible refine (impl_IsCell.calls ((rd_T58 l0 x10_1).f0) ((rd_T58 l0 x10_1).f1) false _ A6.out).mono ?_); rintro e w13 ⟨rfl, hb⟩; refine ⟨_, rfl, ?_⟩; replace BK179 := am (blk_below (g := gb179) (o := .cells #[.int .i64 ((rd_T58 l0 x10_1).f0), .int .i64 ((rd_T58 l0 x10_1).f1)] 58 (0, 0)) (zp BK179) hb); replace HB := sb hb; (try clear hb)))
        go_ret
        exact ⟨eq_, bq⟩
      ·rw [if_neg c5] at H
       exact absurd H (by simp)
     ·rw [if_neg c4] at H
      exact absurd H (by simp)
    ·rw [if_neg c3] at H
     have c3b0 : decide (x10_1 < (l0.length : Int)) = false := decide_eq_false c3
     clear c3
     obtain rfl := Option.some.inj H
     go_wp2
     go_ret
     exact ⟨eq_, bq⟩



end

section
/-! ### impl_IsBoard: function 61 -/
attribute [local go_sem high] eqA58
def impl_IsBoard.f (k : Nat) (a0_0 : Int) (a0_1 : Int) (l0_2 : List (S58)) : Option (Bool) := if a0_0 ≥ 1 then (if a0_0 ≤ 10 then (if a0_1 ≥ 1 then (if a0_1 ≤ 9 then (if (l0_2.length : Int) = (wrap64 (a0_0 * a0_1)) then ((impl_validCells.f k l0_2).bind fun t182 => (some t182)) else (some false)) else (some false)) else (some false)) else (some false)) else (some false)
theorem impl_IsBoard.mono : ∀ a0 a1 a2 k, LeO (impl_IsBoard.f k a0 a1 a2) (impl_IsBoard.f (k + 1) a0 a1 a2) := by
 intro a0 a1 a2 k
 unfold impl_IsBoard.f
 repeat' first
   | (with_reducible exact impl_validCells.mono _ _)
   | (with_reducible exact LeO.refl _)
   | (with_reducible exact LeO.none _)
   | (with_reducible refine LeO.ite ?_ ?_)
   | (with_reducible refine LeO.bind ?_ (fun _ => ?_))
   | exact impl_validCells.mono _ _
   | exact LeO.none _
   | refine LeO.ite ?_ ?_
   | refine LeO.bind ?_ (fun _ => ?_)
set_option maxHeartbeats 8000000 in
set_option maxRecDepth 100000 in
theorem impl_IsBoard.calls (k : Nat) (a0_0 : Int) (a0_1 : Int) (A0_2 : Option Addr) (c0_2 : Nat) (l0_2 : List (S58)) (r : Bool) (w : World) (hr0_2 : Kd.C k58 w A0_2 l0_2.length l0_2) (hc0_2 : l0_2.length ≤ c0_2) (h : impl_IsBoard.f k a0_0 a0_1 l0_2 = some r) :
  Calls Try.prog 61 #[.agg #[.int .i64 a0_0, .int .i64 a0_1, .slice A0_2 l0_2.length c0_2]] w fun e w' => e = .returned (.bool r) ∧ Below w.heap.size w w' := by
 have hu32 := Try.underlying32
 have HR0_2 := am hr0_2
 have HC0_2 := am hc0_2
 clear hr0_2 hc0_2
 have HB := am (Below.refl w.heap.size w)
 have H : (if a0_0 ≥ 1 then (if a0_0 ≤ 10 then (if a0_1 ≥ 1 then (if a0_1 ≤ 9 then (if (l0_2.length : Int) = (wrap64 (a0_0 * a0_1)) then ((impl_validCells.f k l0_2).bind fun t182 => (some t182)) else (some false)) else (some false)) else (some false)) else (some false)) else (some false)) = some r := h
 clear h
 by_cases c2 : a0_0 ≥ 1
 ·rw [if_pos c2] at H
  have c2b0 : decide (1 ≤ a0_0) = true := decide_eq_true c2
  clear c2
  by_cases c3 : a0_0 ≤ 10
  ·rw [if_pos c3] at H
   have c3b0 : decide (a0_0 ≤ 10) = true := decide_eq_true c3
   clear c3
   by_cases c4 : a0_1 ≥ 1
   ·rw [if_pos c4] at H
    have c4b0 : decide (1 ≤ a0_1) = true := decide_eq_true c4
    clear c4
    by_cases c5 : a0_1 ≤ 9
    ·rw [if_pos c5] at H
     have c5b0 : decide (a0_1 ≤ 9) = true := decide_eq_true c5
     clear c5
     by_cases c6 : (l0_2.length : Int) = (wrap64 (a0_0 * a0_1))
     ·rw [if_pos c6] at H
      have c6b0 : ((l0_2.length : Int) == (wrap64 (a0_0 * a0_1))) = true := beq_iff_eq.mpr c6
      have c6b1 : ((l0_2.length : Int) != (wrap64 (a0_0 * a0_1))) = false := bne_eq_false_iff_eq.mpr c6
      clear c6
      obtain ⟨t182, A7, H⟩ := bindq H
      try dsimp only at H
      obtain rfl := Option.some.inj H
      go_enter Try.func61, Try.ntmps61
      go_wp2_with (first | ((with_reducible refine gate_dst (N := 1) rfl ?_); (try (refine gate_guard (by rfl) ?_; dsimp only)); refine box_event ?hg (N := 1) ?hd (cs := #[.int .i64 a0_0, .int .i64 a0_1, .slice A0_2 l0_2.length c0_2]) (t := 32) ?hr ?_; (case hd => rfl); (case hg => rfl); (case hr => first | (go_simp; done) | (go_simp; rfl)); intro gb181 hg w8 hbox hb; have BK181 := am (hbox); have GW181 := am (gq hg); have GE181 := am (gq hg); replace HB := sb hb; clear hb hbox hg; have ⟨hcz9_0, hcz9_1, hcz9_2, hfz9_0, hfz9_1, hfz9_2⟩ := bc3 BK181) | (go_at_call 88; (with_reducible refine (impl_validCells.calls k _ _ l0_2 t182 _ ?s1 ?s2 A7.out).mono ?_); (case s1 => exact cq (Kd.C_below HR0_2.out HB.out)); (case s2 => exact HC0_2.out); rintro e w10 ⟨rfl, hb⟩; replace BK181 := zb BK181 hb; replace HB := sb hb; (try clear hb)))
      go_ret
      exact ⟨eq_, bq⟩
     ·rw [if_neg c6] at H
      have c6b0 : ((l0_2.length : Int) == (wrap64 (a0_0 * a0_1))) = false := beq_eq_false_iff_ne.mpr c6
      have c6b1 : ((l0_2.length : Int) != (wrap64 (a0_0 * a0_1))) = true := bne_iff_ne.mpr c6
      obtain rfl := Option.some.inj H
      go_enter Try.func61, Try.ntmps61
      go_wp2_with (first | ((with_reducible refine gate_dst (N := 1) rfl ?_); (try (refine gate_guard (by rfl) ?_; dsimp only)); refine box_event ?hg (N := 1) ?hd (cs := #[.int .i64 a0_0, .int .i64 a0_1, .slice A0_2 l0_2.length c0_2]) (t := 32) ?hr ?_; (case hd => rfl); (case hg => rfl); (case hr => first | (go_simp; done) | (go_simp; rfl)); intro gb181 hg w11 hbox hb; have BK181 := am (hbox); have GW181 := am (gq hg); have GE181 := am (gq hg); replace HB := sb hb; clear hb hbox hg; have ⟨hcz12_0, hcz12_1, hcz12_2, hfz12_0, hfz12_1, hfz12_2⟩ := bc3 BK181))
      go_ret
      exact ⟨eq_, bq⟩
    ·rw [if_neg c5] at H
     have c5b0 : decide (a0_1 ≤ 9) = false := decide_eq_false c5
     clear c5
     obtain rfl := Option.some.inj H
     go_enter Try.func61, Try.ntmps61
     go_wp2_with (first | ((with_reducible refine gate_dst (N := 1) rfl ?_); (try (refine gate_guard (by rfl) ?_; dsimp only)); refine box_event ?hg (N := 1) ?hd (cs := #[.int .i64 a0_0, .int .i64 a0_1, .slice A0_2 l0_2.length c0_2]) (t := 32) ?hr ?_; (case hd => rfl); (case hg => rfl); (case hr => first | (go_simp; done) | (go_simp; rfl)); intro gb181 hg w13 hbox hb; have BK181 := am (hbox); have GW181 := am (gq hg); have GE181 := am (gq hg); replace HB := sb hb; clear hb hbox hg; have ⟨hcz14_0, hcz14_1, hcz14_2, hfz14_0, hfz14_1, hfz14_2⟩ := bc3 BK181))
     go_ret
     exact ⟨eq_, bq⟩
   ·rw [if_neg c4] at H
    have c4b0 : decide (1 ≤ a0_1) = false := decide_eq_false c4
    clear c4
    obtain rfl := Option.some.inj H
    go_enter Try.func61, Try.ntmps61
    go_wp2_with (first | ((with_reducible refine gate_dst (N := 1) rfl ?_); (try (refine gate_guard (by rfl) ?_; dsimp only)); refine box_event ?hg (N := 1) ?hd (cs := #[.int .i64 a0_0, .int .i64 a0_1, .slice A0_2 l0_2.length c0_2]) (t := 32) ?hr ?_; (case hd => rfl); (case hg => rfl); (case hr => first | (go_simp; done) | (go_simp; rfl)); intro gb181 hg w15 hbox hb; have BK181 := am (hbox); have GW181 := am (gq hg); have GE181 := am (gq hg); replace HB := sb hb; clear hb hbox hg; have ⟨hcz16_0, hcz16_1, hcz16_2, hfz16_0, hfz16_1, hfz16_2⟩ := bc3 BK181))
    go_ret
    exact ⟨eq_, bq⟩
  ·rw [if_neg c3] at H
   have c3b0 : decide (a0_0 ≤ 10) = false := decide_eq_false c3
   clear c3
   obtain rfl := Option.some.inj H
   go_enter Try.func61, Try.ntmps61
   go_wp2_with (first | ((with_reducible refine gate_dst (N := 1) rfl ?_); (try (refine gate_guard (by rfl) ?_; dsimp only)); refine box_event ?hg (N := 1) ?hd (cs := #[.int .i64 a0_0, .int .i64 a0_1, .slice A0_2 l0_2.length c0_2]) (t := 32) ?hr ?_; (case hd => rfl); (case hg => rfl); (case hr => first | (go_simp; done) | (go_simp; rfl)); intro gb181 hg w17 hbox hb; have BK181 := am (hbox); have GW181 := am (gq hg); have GE181 := am (gq hg); replace HB := sb hb; clear hb hbox hg; have ⟨hcz18_0, hcz18_1, hcz18_2, hfz18_0, hfz18_1, hfz18_2⟩ := bc3 BK181))
   go_ret
   exact ⟨eq_, bq⟩
 ·rw [if_neg c2] at H
  have c2b0 : decide (1 ≤ a0_0) = false := decide_eq_false c2
  clear c2
  obtain rfl := Option.some.inj H
  go_enter Try.func61, Try.ntmps61
  go_wp2_with (first | ((with_reducible refine gate_dst (N := 1) rfl ?_); (try (refine gate_guard (by rfl) ?_; dsimp only)); refine box_event ?hg (N := 1) ?hd (cs := #[.int .i64 a0_0, .int .i64 a0_1, .slice A0_2 l0_2.length c0_2]) (t := 32) ?hr ?_; (case hd => rfl); (case hg => rfl); (case hr => first | (go_simp; done) | (go_simp; rfl)); intro gb181 hg w19 hbox hb; have BK181 := am (hbox); have GW181 := am (gq hg); have GE181 := am (gq hg); replace HB := sb hb; clear hb hbox hg; have ⟨hcz20_0, hcz20_1, hcz20_2, hfz20_0, hfz20_1, hfz20_2⟩ := bc3 BK181))
  go_ret
  exact ⟨eq_, bq⟩



end

section
/-! ### impl_onBoard: function 89 -/
attribute [local go_sem high] eqA58
def impl_onBoard.f (k : Nat) (a0_0 : Int) (a0_1 : Int) (l0_2 : List (S58)) (a1 : Int) (a2 : Int) : Option (Bool) := (impl_IsBoard.f k a0_0 a0_1 l0_2).bind fun t184 => (if t184 = true then (if a1 ≥ 0 then (if a1 < a0_0 then (if a2 ≥ 0 then (some (decide (a2 < a0_1))) else (some false)) else (some false)) else (some false)) else (some false))
theorem impl_onBoard.mono : ∀ a0 a1 a2 a3 a4 k, LeO (impl_onBoard.f k a0 a1 a2 a3 a4) (impl_onBoard.f (k + 1) a0 a1 a2 a3 a4) := by
 intro a0 a1 a2 a3 a4 k
 unfold impl_onBoard.f
 repeat' first
   | (with_reducible exact impl_IsBoard.mono _ _ _ _)
   | (with_reducible exact LeO.refl _)
   | (with_reducible exact LeO.none _)
   | (with_reducible refine LeO.ite ?_ ?_)
   | (with_reducible refine LeO.bind ?_ (fun _ => ?_))
   | exact impl_IsBoard.mono _ _ _ _
   | exact LeO.none _
   | refine LeO.ite ?_ ?_
   | refine LeO.bind ?_ (fun _ => ?_)
set_option maxHeartbeats 8000000 in
set_option maxRecDepth 100000 in
theorem impl_onBoard.calls (k : Nat) (a0_0 : Int) (a0_1 : Int) (A0_2 : Option Addr) (c0_2 : Nat) (l0_2 : List (S58)) (a1 : Int) (a2 : Int) (r : Bool) (w : World) (hr0_2 : Kd.C k58 w A0_2 l0_2.length l0_2) (hc0_2 : l0_2.length ≤ c0_2) (h : impl_onBoard.f k a0_0 a0_1 l0_2 a1 a2 = some r) :
  Calls Try.prog 89 #[.agg #[.int .i64 a0_0, .int .i64 a0_1, .slice A0_2 l0_2.length c0_2], .int .i64 a1, .int .i64 a2] w fun e w' => e = .returned (.bool r) ∧ Below w.heap.size w w' := by
 have hu32 := Try.underlying32
 have HR0_2 := am hr0_2
 have HC0_2 := am hc0_2
 clear hr0_2 hc0_2
 have HB := am (Below.refl w.heap.size w)
 have H : ((impl_IsBoard.f k a0_0 a0_1 l0_2).bind fun t184 => (if t184 = true then (if a1 ≥ 0 then (if a1 < a0_0 then (if a2 ≥ 0 then (some (decide (a2 < a0_1))) else (some false)) else (some false)) else (some false)) else (some false))) = some r := h
 clear h
 obtain ⟨t184, A4, H⟩ := bindq H
 try dsimp only at H
 by_cases c5 : t184 = true
 ·subst c5
  rw [if_pos rfl] at H
  try dsimp only at H
  by_cases c6 : a1 ≥ 0
  ·rw [if_pos c6] at H
   have c6b0 : decide (0 ≤ a1) = true := decide_eq_true c6
   clear c6
   by_cases c7 : a1 < a0_0
   ·rw [if_pos c7] at H
    have c7b0 : decide (a1 < a0_0) = true := decide_eq_true c7
    clear c7
    by_cases c8 : a2 ≥ 0
    ·rw [if_pos c8] at H
     have c8b0 : decide (0 ≤ a2) = true := decide_eq_true c8
     clear c8
     obtain rfl := Option.some.inj H
     go_enter Try.func89, Try.ntmps89
     go_wp2_with (first | ((with_reducible refine gate_dst (N := 3) rfl ?_); refine box_event ?hg (N := 3) ?hd (cs := #[.int .i64 a0_0, .int .i64 a0_1, .slice A0_2 l0_2.length c0_2]) (t := 32) ?hr ?_; (case hd => rfl); (case hg => rfl); (case hr => first | (go_simp; done) | (go_simp; rfl)); intro gb183 hg w9 hbox hb; have BK183 := am (hbox); have GW183 := am (gq hg); have GE183 := am (gq hg); replace HB := sb hb; clear hb hbox hg; have ⟨hcz10_0, hcz10_1, hcz10_2, hfz10_0, hfz10_1, hfz10_2⟩ := bc3 BK183) | ((with_reducible refine gate_callee (f := 61) rfl ?_); refine goesQ (some 8) Try.func61 #[.agg #[.int .i64 a0_0, .int .i64 a0_1, .slice A0_2 l0_2.length c0_2]] ?_; (with_reducible refine (impl_IsBoard.calls k a0_0 a0_1 _ _ l0_2 true _ ?s1 ?s2 A4.out).mono ?_); (case s1 => exact cq (Kd.C_below HR0_2.out HB.out)); (case s2 => exact HC0_2.out); rintro e w11 ⟨rfl, hb⟩; refine ⟨_, rfl, ?_⟩; replace BK183 := zb BK183 hb; replace HB := sb hb; (try clear hb); have ⟨hcz12_0, hcz12_1, hcz12_2, hfz12_0, hfz12_1, hfz12_2⟩ := bc3 BK183))
     go_ret
     exact ⟨eq_, bq⟩
    ·rw [if_neg c8] at H
     have c8b0 : decide (0 ≤ a2) = false := decide_eq_false c8
     clear c8
     obtain rfl := Option.some.inj H
     go_enter Try.func89, Try.ntmps89
     go_wp2_with (first | ((with_reducible refine gate_dst (N := 3) rfl ?_); refine box_event ?hg (N := 3) ?hd (cs := #[.int .i64 a0_0, .int .i64 a0_1, .slice A0_2 l0_2.length c0_2]) (t := 32) ?hr ?_; (case hd => rfl); (case hg => rfl); (case hr => first | (go_simp; done) | (go_simp; rfl)); intro gb183 hg w13 hbox hb; have BK183 := am (hbox); have GW183 := am (gq hg); have GE183 := am (gq hg); replace HB := sb hb; clear hb hbox hg; have ⟨hcz14_0, hcz14_1, hcz14_2, hfz14_0, hfz14_1, hfz14_2⟩ := bc3 BK183) | ((with_reducible refine gate_callee (f := 61) rfl ?_); refine goesQ (some 8) Try.func61 #[.agg #[.int .i64 a0_0, .int .i64 a0_1, .slice A0_2 l0_2.length c0_2]] ?_; (with_reducible refine (impl_IsBoard.calls k a0_0 a0_1 _ _ l0_2 true _ ?s1 ?s2 A4.out).mono ?_); (case s1 => exact cq (Kd.C_below HR0_2.out HB.out)); (case s2 => exact HC0_2.out); rintro e w15 ⟨rfl, hb⟩; refine ⟨_, rfl, ?_⟩; replace BK183 := zb BK183 hb; replace HB := sb hb; (try clear hb); have ⟨hcz16_0, hcz16_1, hcz16_2, hfz16_0, hfz16_1, hfz16_2⟩ := bc3 BK183))
     go_ret
     exact ⟨eq_, bq⟩
   ·rw [if_neg c7] at H
    have c7b0 : decide (a1 < a0_0) = false := decide_eq_false c7
    clear c7
    obtain rfl := Option.some.inj H
    go_enter Try.func89, Try.ntmps89
    go_wp2_with (first | ((with_reducible refine gate_dst (N := 3) rfl ?_); refine box_event ?hg (N := 3) ?hd (cs := #[.int .i64 a0_0, .int .i64 a0_1, .slice A0_2 l0_2.length c0_2]) (t := 32) ?hr ?_; (case hd => rfl); (case hg => rfl); (case hr => first | (go_simp; done) | (go_simp; rfl)); intro gb183 hg w17 hbox hb; have BK183 := am (hbox); have GW183 := am (gq hg); have GE183 := am (gq hg); replace HB := sb hb; clear hb hbox hg; have ⟨hcz18_0, hcz18_1, hcz18_2, hfz18_0, hfz18_1, hfz18_2⟩ := bc3 BK183) | ((with_reducible refine gate_callee (f := 61) rfl ?_); refine goesQ (some 8) Try.func61 #[.agg #[.int .i64 a0_0, .int .i64 a0_1, .slice A0_2 l0_2.length c0_2]] ?_; (with_reducible refine (impl_IsBoard.calls k a0_0 a0_1 _ _ l0_2 true _ ?s1 ?s2 A4.out).mono ?_); (case s1 => exact cq (Kd.C_below HR0_2.out HB.out)); (case s2 => exact HC0_2.out); rintro e w19 ⟨rfl, hb⟩; refine ⟨_, rfl, ?_⟩; replace BK183 := zb BK183 hb; replace HB := sb hb; (try clear hb); have ⟨hcz20_0, hcz20_1, hcz20_2, hfz20_0, hfz20_1, hfz20_2⟩ := bc3 BK183))
    go_ret
    exact ⟨eq_, bq⟩
  ·rw [if_neg c6] at H
   have c6b0 : decide (0 ≤ a1) = false := decide_eq_false c6
   clear c6
   obtain rfl := Option.some.inj H
   go_enter Try.func89, Try.ntmps89
   go_wp2_with (first | ((with_reducible refine gate_dst (N := 3) rfl ?_); refine box_event ?hg (N := 3) ?hd (cs := #[.int .i64 a0_0, .int .i64 a0_1, .slice A0_2 l0_2.length c0_2]) (t := 32) ?hr ?_; (case hd => rfl); (case hg => rfl); (case hr => first | (go_simp; done) | (go_simp; rfl)); intro gb183 hg w21 hbox hb; have BK183 := am (hbox); have GW183 := am (gq hg); have GE183 := am (gq hg); replace HB := sb hb; clear hb hbox hg; have ⟨hcz22_0, hcz22_1, hcz22_2, hfz22_0, hfz22_1, hfz22_2⟩ := bc3 BK183) | ((with_reducible refine gate_callee (f := 61) rfl ?_); refine goesQ (some 8) Try.func61 #[.agg #[.int .i64 a0_0, .int .i64 a0_1, .slice A0_2 l0_2.length c0_2]] ?_; (with_reducible refine (impl_IsBoard.calls k a0_0 a0_1 _ _ l0_2 true _ ?s1 ?s2 A4.out).mono ?_); (case s1 => exact cq (Kd.C_below HR0_2.out HB.out)); (case s2 => exact HC0_2.out); rintro e w23 ⟨rfl, hb⟩; refine ⟨_, rfl, ?_⟩; replace BK183 := zb BK183 hb; replace HB := sb hb; (try clear hb)))
   go_ret
   exact ⟨eq_, bq⟩
 ·replace c5 := Bool.eq_false_iff.mpr c5
  subst c5
  rw [if_neg (show ¬ (false = true) by decide)] at H
  try dsimp only at H
  obtain rfl := Option.some.inj H
  go_enter Try.func89, Try.ntmps89
  go_wp2_with (first | ((with_reducible refine gate_dst (N := 3) rfl ?_); refine box_event ?hg (N := 3) ?hd (cs := #[.int .i64 a0_0, .int .i64 a0_1, .slice A0_2 l0_2.length c0_2]) (t := 32) ?hr ?_; (case hd => rfl); (case hg => rfl); (case hr => first | (go_simp; done) | (go_simp; rfl)); intro gb183 hg w24 hbox hb; have BK183 := am (hbox); have GW183 := am (gq hg); have GE183 := am (gq hg); replace HB := sb hb; clear hb hbox hg; have ⟨hcz25_0, hcz25_1, hcz25_2, hfz25_0, hfz25_1, hfz25_2⟩ := bc3 BK183) | ((with_reducible refine gate_callee (f := 61) rfl ?_); refine goesQ (some 8) Try.func61 #[.agg #[.int .i64 a0_0, .int .i64 a0_1, .slice A0_2 l0_2.length c0_2]] ?_; (with_reducible refine (impl_IsBoard.calls k a0_0 a0_1 _ _ l0_2 false _ ?s1 ?s2 A4.out).mono ?_); (case s1 => exact cq (Kd.C_below HR0_2.out HB.out)); (case s2 => exact HC0_2.out); rintro e w26 ⟨rfl, hb⟩; refine ⟨_, rfl, ?_⟩; replace BK183 := zb BK183 hb; replace HB := sb hb; (try clear hb)))
  go_ret
  exact ⟨eq_, bq⟩



end

section
/-! ### impl_isAct: function 62 -/
attribute [local go_sem high] eqA58
def impl_isAct.f (k : Nat) (a0_0 : Int) (a0_1 : Int) (l0_2 : List (S58)) (a1_0 : Int) (a1_1 : Int) (a1_2 : Int) (a1_3 : Int) (a1_4 : Int) : Option (Bool) := (impl_onBoard.f k a0_0 a0_1 l0_2 a1_1 a1_2).bind fun t187 => (if t187 = true then (if a1_0 = 1 then ((impl_IsCell.f a1_3 a1_4).bind fun t188 => (some t188)) else (if a1_0 = 2 then (if a1_1 = 0 then (some (a1_3 == 0 && (a1_4 == 0))) else (some false)) else (if a1_0 = 3 then (if a1_1 = 0 then (if a1_2 = 0 then (some (a1_3 == 0 && (a1_4 == 0))) else (some false)) else (some false)) else (some false)))) else (some false))
theorem impl_isAct.mono : ∀ a0 a1 a2 a3 a4 a5 a6 a7 k, LeO (impl_isAct.f k a0 a1 a2 a3 a4 a5 a6 a7) (impl_isAct.f (k + 1) a0 a1 a2 a3 a4 a5 a6 a7) := by
 intro a0 a1 a2 a3 a4 a5 a6 a7 k
 unfold impl_isAct.f
 repeat' first
   | (with_reducible exact impl_onBoard.mono _ _ _ _ _ _)
   | (with_reducible exact LeO.refl _)
   | (with_reducible exact LeO.none _)
   | (with_reducible refine LeO.ite ?_ ?_)
   | (with_reducible refine LeO.bind ?_ (fun _ => ?_))
   | exact impl_onBoard.mono _ _ _ _ _ _
   | exact LeO.none _
   | refine LeO.ite ?_ ?_
   | refine LeO.bind ?_ (fun _ => ?_)
set_option maxHeartbeats 8000000 in
set_option maxRecDepth 100000 in
theorem impl_isAct.calls (k : Nat) (a0_0 : Int) (a0_1 : Int) (A0_2 : Option Addr) (c0_2 : Nat) (l0_2 : List (S58)) (a1_0 : Int) (a1_1 : Int) (a1_2 : Int) (a1_3 : Int) (a1_4 : Int) (r : Bool) (w : World) (hr0_2 : Kd.C k58 w A0_2 l0_2.length l0_2) (hc0_2 : l0_2.length ≤ c0_2) (h : impl_isAct.f k a0_0 a0_1 l0_2 a1_0 a1_1 a1_2 a1_3 a1_4 = some r) :
  Calls Try.prog 62 #[.agg #[.int .i64 a0_0, .int .i64 a0_1, .slice A0_2 l0_2.length c0_2], .agg #[.int .i64 a1_0, .int .i64 a1_1, .int .i64 a1_2, .int .i64 a1_3, .int .i64 a1_4]] w fun e w' => e = .returned (.bool r) ∧ Below w.heap.size w w' := by
 have hu32 := Try.underlying32
 have hu60 := Try.underlying60
 have hu58 := Try.underlying58
 have HR0_2 := am hr0_2
 have HC0_2 := am hc0_2
 clear hr0_2 hc0_2
 have HB := am (Below.refl w.heap.size w)
 have H : ((impl_onBoard.f k a0_0 a0_1 l0_2 a1_1 a1_2).bind fun t187 => (if t187 = true then (if a1_0 = 1 then ((impl_IsCell.f a1_3 a1_4).bind fun t188 => (some t188)) else (if a1_0 = 2 then (if a1_1 = 0 then (some (a1_3 == 0 && (a1_4 == 0))) else (some false)) else (if a1_0 = 3 then (if a1_1 = 0 then (if a1_2 = 0 then (some (a1_3 == 0 && (a1_4 == 0))) else (some false)) else (some false)) else (some false)))) else (some false))) = some r := h
 clear h
 obtain ⟨t187, A3, H⟩ := bindq H
 try dsimp only at H
 by_cases c4 : t187 = true
 ·subst c4
  rw [if_pos rfl] at H
  try dsimp only at H
  by_cases c5 : a1_0 = 1
  ·rw [if_pos c5] at H
   have c5b0 : (a1_0 == 1) = true := beq_iff_eq.mpr c5
   have c5b1 : (a1_0 != 1) = false := bne_eq_false_iff_eq.mpr c5
   clear c5
   obtain ⟨t188, A6, H⟩ := bindq H
   try dsimp only at H
   obtain rfl := Option.some.inj H
   go_enter Try.func62, Try.ntmps62
   go_wp2_with (first | ((with_reducible refine gate_dst (N := 2) rfl ?_); refine box_event ?hg (N := 2) ?hd (cs := #[.int .i64 a0_0, .int .i64 a0_1, .slice A0_2 l0_2.length c0_2]) (t := 32) ?hr ?_; (case hd => rfl); (case hg => rfl); (case hr => first | (go_simp; done) | (go_simp; rfl)); intro gb185 hg w7 hbox hb; have BK185 := am (hbox); have GW185 := am (gq hg); have GE185 := am (gq hg); replace HB := sb hb; clear hb hbox hg) | ((with_reducible refine gate_dst (N := 3) rfl ?_); refine box_event ?hg (N := 3) ?hd (cs := #[.int .i64 a1_0, .int .i64 a1_1, .int .i64 a1_2, .int .i64 a1_3, .int .i64 a1_4]) (t := 60) ?hr ?_; (case hd => rfl); (case hg => rfl); (case hr => first | (go_simp; done) | (go_simp; rfl)); intro gb186 hg w8 hbox hb; have BK186 := am (hbox); have GW186 := am (gq hg); have GE186 := am (gq hg); replace HB := sb hb; have NB185_186 := nl hg BK185; have NB186_185 := ng hg BK185; replace BK185 := zb BK185 hb; clear hb hbox hg; have hnb9 := NB185_186.out; have hnc9 := NB186_185.out; have ⟨hcz10_0, hcz10_1, hcz10_2, hfz10_0, hfz10_1, hfz10_2⟩ := bc3 BK185; have ⟨hcz11_0, hcz11_1, hcz11_2, hcz11_3, hcz11_4, hfz11_0, hfz11_1, hfz11_2, hfz11_3, hfz11_4⟩ := bc5 BK186) | ((with_reducible refine gate_callee (f := 89) rfl ?_); refine goesQ (some 10) Try.func89 #[.agg #[.int .i64 a0_0, .int .i64 a0_1, .slice A0_2 l0_2.length c0_2], .int .i64 a1_1, .int .i64 a1_2] ?_; (with_reducible refine (impl_onBoard.calls k a0_0 a0_1 _ _ l0_2 a1_1 a1_2 true _ ?s1 ?s2 A3.out).mono ?_); (case s1 => exact cq (Kd.C_below HR0_2.out HB.out)); (case s2 => exact HC0_2.out); rintro e w12 ⟨rfl, hb⟩; refine ⟨_, rfl, ?_⟩; replace BK185 := zb BK185 hb; replace BK186 := zb BK186 hb; replace HB := sb hb; (try clear hb); have ⟨hcz13_0, hcz13_1, hcz13_2, hcz13_3, hcz13_4, hfz13_0, hfz13_1, hfz13_2, hfz13_3, hfz13_4⟩ := bc5 BK186) | ((with_reducible refine gate_callee (f := 90) rfl ?_); refine goesQ (some 18) Try.func90 #[.agg #[.int .i64 a1_3, .int .i64 a1_4]] ?_; (with_reducible refine (impl_IsCell.calls a1_3 a1_4 t188 _ A6.out).mono ?_); rintro e w14 ⟨rfl, hb⟩; refine ⟨_, rfl, ?_⟩; replace BK185 := zb BK185 hb; replace BK186 := zb BK186 hb; replace HB := sb hb; (try clear hb)))
   go_ret
   exact ⟨eq_, bq⟩
  ·rw [if_neg c5] at H
   have c5b0 : (a1_0 == 1) = false := beq_eq_false_iff_ne.mpr c5
   have c5b1 : (a1_0 != 1) = true := bne_iff_ne.mpr c5
   by_cases c15 : a1_0 = 2
   ·rw [if_pos c15] at H
    have c15b0 : (a1_0 == 2) = true := beq_iff_eq.mpr c15
    have c15b1 : (a1_0 != 2) = false := bne_eq_false_iff_eq.mpr c15
    clear c15
    by_cases c16 : a1_1 = 0
    ·rw [if_pos c16] at H
     have c16b0 : (a1_1 == 0) = true := beq_iff_eq.mpr c16
     have c16b1 : (a1_1 != 0) = false := bne_eq_false_iff_eq.mpr c16
     clear c16
     obtain rfl := Option.some.inj H
     go_enter Try.func62, Try.ntmps62
     go_wp2_with (first | ((with_reducible refine gate_dst (N := 2) rfl ?_); refine box_event ?hg (N := 2) ?hd (cs := #[.int .i64 a0_0, .int .i64 a0_1, .slice A0_2 l0_2.length c0_2]) (t := 32) ?hr ?_; (case hd => rfl); (case hg => rfl); (case hr => first | (go_simp; done) | (go_simp; rfl)); intro gb185 hg w17 hbox hb; have BK185 := am (hbox); have GW185 := am (gq hg); have GE185 := am (gq hg); replace HB := sb hb; clear hb hbox hg) | ((with_reducible refine gate_dst (N := 3) rfl ?_); refine box_event ?hg (N := 3) ?hd (cs := #[.int .i64 a1_0, .int .i64 a1_1, .int .i64 a1_2, .int .i64 a1_3, .int .i64 a1_4]) (t := 60) ?hr ?_; (case hd => rfl); (case hg => rfl); (case hr => first | (go_simp; done) | (go_simp; rfl)); intro gb186 hg w18 hbox hb; have BK186 := am (hbox); have GW186 := am (gq hg); have GE186 := am (gq hg); replace HB := sb hb; have NB185_186 := nl hg BK185; have NB186_185 := ng hg BK185; replace BK185 := zb BK185 hb; clear hb hbox hg; have hnb19 := NB185_186.out; have hnc19 := NB186_185.out; have ⟨hcz20_0, hcz20_1, hcz20_2, hfz20_0, hfz20_1, hfz20_2⟩ := bc3 BK185; have ⟨hcz21_0, hcz21_1, hcz21_2, hcz21_3, hcz21_4, hfz21_0, hfz21_1, hfz21_2, hfz21_3, hfz21_4⟩ := bc5 BK186) | ((with_reducible refine gate_callee (f := 89) rfl ?_); refine goesQ (some 10) Try.func89 #[.agg #[.int .i64 a0_0, .int .i64 a0_1, .slice A0_2 l0_2.length c0_2], .int .i64 a1_1, .int .i64 a1_2] ?_; (with_reducible refine (impl_onBoard.calls k a0_0 a0_1 _ _ l0_2 a1_1 a1_2 true _ ?s1 ?s2 A3.out).mono ?_); (case s1 => exact cq (Kd.C_below HR0_2.out HB.out)); (case s2 => exact HC0_2.out); rintro e w22 ⟨rfl, hb⟩; refine ⟨_, rfl, ?_⟩; replace BK185 := zb BK185 hb; replace BK186 := zb BK186 hb; replace HB := sb hb; (try clear hb); have ⟨hcz23_0, hcz23_1, hcz23_2, hcz23_3, hcz23_4, hfz23_0, hfz23_1, hfz23_2, hfz23_3, hfz23_4⟩ := bc5 BK186))
     go_ret
     exact ⟨eq_, bq⟩
    ·rw [if_neg c16] at H
     have c16b0 : (a1_1 == 0) = false := beq_eq_false_iff_ne.mpr c16
     have c16b1 : (a1_1 != 0) = true := bne_iff_ne.mpr c16
     obtain rfl := Option.some.inj H
     go_enter Try.func62, Try.ntmps62
     go_wp2_with (first | ((with_reducible refine gate_dst (N := 2) rfl ?_); refine box_event ?hg (N := 2) ?hd (cs := #[.int .i64 a0_0, .int .i64 a0_1, .slice A0_2 l0_2.length c0_2]) (t := 32) ?hr ?_; (case hd => rfl); (case hg => rfl); (case hr => first | (go_simp; done) | (go_simp; rfl)); intro gb185 hg w24 hbox hb; have BK185 := am (hbox); have GW185 := am (gq hg); have GE185 := am (gq hg); replace HB := sb hb; clear hb hbox hg) | ((with_reducible refine gate_dst (N := 3) rfl ?_); refine box_event ?hg (N := 3) ?hd (cs := #[.int .i64 a1_0, .int .i64 a1_1, .int .i64 a1_2, .int .i64 a1_3, .int .i64 a1_4]) (t := 60) ?hr ?_; (case hd => rfl); (case hg => rfl); (case hr => first | (go_simp; done) | (go_simp; rfl)); intro gb186 hg w25 hbox hb; have BK186 := am (hbox); have GW186 := am (gq hg); have GE186 := am (gq hg); replace HB := sb hb; have NB185_186 := nl hg BK185; have NB186_185 := ng hg BK185; replace BK185 := zb BK185 hb; clear hb hbox hg; have hnb26 := NB185_186.out; have hnc26 := NB186_185.out; have ⟨hcz27_0, hcz27_1, hcz27_2, hfz27_0, hfz27_1, hfz27_2⟩ := bc3 BK185; have ⟨hcz28_0, hcz28_1, hcz28_2, hcz28_3, hcz28_4, hfz28_0, hfz28_1, hfz28_2, hfz28_3, hfz28_4⟩ := bc5 BK186) | ((with_reducible refine gate_callee (f := 89) rfl ?_); refine goesQ (some 10) Try.func89 #[.agg #[.int .i64 a0_0, .int .i64 a0_1, .slice A0_2 l0_2.length c0_2], .int .i64 a1_1, .int .i64 a1_2] ?_; (with_reducible refine (impl_onBoard.calls k a0_0 a0_1 _ _ l0_2 a1_1 a1_2 true _ ?s1 ?s2 A3.out).mono ?_); (case s1 => exact cq (Kd.C_below HR0_2.out HB.out)); (case s2 => exact HC0_2.out); rintro e w29 ⟨rfl, hb⟩; refine ⟨_, rfl, ?_⟩; replace BK185 := zb BK185 hb; replace BK186 := zb BK186 hb; replace HB := sb hb; (try clear hb); have ⟨hcz30_0, hcz30_1, hcz30_2, hcz30_3, hcz30_4, hfz30_0, hfz30_1, hfz30_2, hfz30_3, hfz30_4⟩ := bc5 BK186))
     go_ret
     exact ⟨eq_, bq⟩
   ·rw [if_neg c15] at H
    have c15b0 : (a1_0 == 2) = false := beq_eq_false_iff_ne.mpr c15
    have c15b1 : (a1_0 != 2) = true := bne_iff_ne.mpr c15
    by_cases c31 : a1_0 = 3
    ·rw [if_pos c31] at H
     have c31b0 : (a1_0 == 3) = true := beq_iff_eq.mpr c31
     have c31b1 : (a1_0 != 3) = false := bne_eq_false_iff_eq.mpr c31
     clear c31
     by_cases c32 : a1_1 = 0
     ·rw [if_pos c32] at H
      have c32b0 : (a1_1 == 0) = true := beq_iff_eq.mpr c32
      have c32b1 : (a1_1 != 0) = false := bne_eq_false_iff_eq.mpr c32
      clear c32
      by_cases c33 : a1_2 = 0
      ·rw [if_pos c33] at H
       have c33b0 : (a1_2 == 0) = true := beq_iff_eq.mpr c33
       have c33b1 : (a1_2 != 0) = false := bne_eq_false_iff_eq.mpr c33
       clear c33
       obtain rfl := Option.some.inj H
       go_enter Try.func62, Try.ntmps62
       go_wp2_with (first | ((with_reducible refine gate_dst (N := 2) rfl ?_); refine box_event ?hg (N := 2) ?hd (cs := #[.int .i64 a0_0, .int .i64 a0_1, .slice A0_2 l0_2.length c0_2]) (t := 32) ?hr ?_; (case hd => rfl); (case hg => rfl); (case hr => first | (go_simp; done) | (go_simp; rfl)); intro gb185 hg w34 hbox hb; have BK185 := am (hbox); have GW185 := am (gq hg); have GE185 := am (gq hg); replace HB := sb hb; clear hb hbox hg) | ((with_reducible refine gate_dst (N := 3) rfl ?_); refine box_event ?hg (N := 3) ?hd (cs := #[.int .i64 a1_0, .int .i64 a1_1, .int .i64 a1_2, .int .i64 a1_3, .int .i64 a1_4]) (t := 60) ?hr ?_; (case hd => rfl); (case hg => rfl); (case hr => first | (go_simp; done) | (go_simp; rfl)); intro gb186 hg w35 hbox hb; have BK186 := am (hbox); have GW186 := am (gq hg); have GE186 := am (gq hg); replace HB := sb hb; have NB185_186 := nl hg BK185; have NB186_185 := ng hg BK185; replace BK185 := zb BK185 hb; clear hb hbox hg; have hnb36 := NB185_186.out; have hnc36 := NB186_185.out; have ⟨hcz37_0, hcz37_1, hcz37_2, hfz37_0, hfz37_1, hfz37_2⟩ := bc3 BK185; have ⟨hcz38_0, hcz38_1, hcz38_2, hcz38_3, hcz38_4, hfz38_0, hfz38_1, hfz38_2, hfz38_3, hfz38_4⟩ := bc5 BK186) | ((with_reducible refine gate_callee (f := 89) rfl ?_); refine goesQ (some 10) Try.func89 #[.agg #[.int .i64 a0_0, .int .i64 a0_1, .slice A0_2 l0_2.length c0_2], .int .i64 a1_1, .int .i64 a1_2] ?_; (with_reducible refine (impl_onBoard.calls k a0_0 a0_1 _ _ l0_2 a1_1 a1_2 true _ ?s1 ?s2 A3.out).mono ?_); (case s1 => exact cq (Kd.C_below HR0_2.out HB.out)); (case s2 => exact HC0_2.out); rintro e w39 ⟨rfl, hb⟩; refine ⟨_, rfl, ?_⟩; replace BK185 := zb BK185 hb; replace BK186 := zb BK186 hb; replace HB := sb hb; (try clear hb); have ⟨hcz40_0, hcz40_1, hcz40_2, hcz40_3, hcz40_4, hfz40_0, hfz40_1, hfz40_2, hfz40_3, hfz40_4⟩ := bc5 BK186))
       go_ret
       exact ⟨eq_, bq⟩
      ·rw [if_neg c33] at H
       have c33b0 : (a1_2 == 0) = false := beq_eq_false_iff_ne.mpr c33
       have c33b1 : (a1_2 != 0) = true := bne_iff_ne.mpr c33
       obtain rfl := Option.some.inj H
       go_enter Try.func62, Try.ntmps62
       go_wp2_with (first | ((with_reducible refine gate_dst (N := 2) rfl ?_); refine box_event ?hg (N := 2) ?hd (cs := #[.int .i64 a0_0, .int .i64 a0_1, .slice A0_2 l0_2.length c0_2]) (t := 32) ?hr ?_; (case hd => rfl); (case hg => rfl); (case hr => first | (go_simp; done) | (go_simp; rfl)); intro gb185 hg w41 hbox hb; have BK185 := am (hbox); have GW185 := am (gq hg); have GE185 := am (gq hg); replace HB := sb hb; clear hb hbox hg) | ((with_reducible refine gate_dst (N := 3) rfl ?_); refine box_event ?hg (N := 3) ?hd (cs := #[.int .i64 a1_0, .int .i64 a1_1, .int .i64 a1_2, .int .i64 a1_3, .int .i64 a1_4]) (t := 60) ?hr ?_; (case hd => rfl); (case hg => rfl); (case hr => first | (go_simp; done) | (go_simp; rfl)); intro gb186 hg w42 hbox hb; have BK186 := am (hbox); have GW186 := am (gq hg); have GE186 := am (gq hg); replace HB := sb hb; have NB185_186 := nl hg BK185; have NB186_185 := ng hg BK185; replace BK185 := zb BK185 hb; clear hb hbox hg; have hnb43 := NB185_186.out; have hnc43 := NB186_185.out; have ⟨hcz44_0, hcz44_1, hcz44_2, hfz44_0, hfz44_1, hfz44_2⟩ := bc3 BK185; have ⟨hcz45_0, hcz45_1, hcz45_2, hcz45_3, hcz45_4, hfz45_0, hfz45_1, hfz45_2, hfz45_3, hfz45_4⟩ := bc5 BK186) | ((with_reducible refine gate_callee (f := 89) rfl ?_); refine goesQ (some 10) Try.func89 #[.agg #[.int .i64 a0_0, .int .i64 a0_1, .slice A0_2 l0_2.length c0_2], .int .i64 a1_1, .int .i64 a1_2] ?_; (with_reducible refine (impl_onBoard.calls k a0_0 a0_1 _ _ l0_2 a1_1 a1_2 true _ ?s1 ?s2 A3.out).mono ?_); (case s1 => exact cq (Kd.C_below HR0_2.out HB.out)); (case s2 => exact HC0_2.out); rintro e w46 ⟨rfl, hb⟩; refine ⟨_, rfl, ?_⟩; replace BK185 := zb BK185 hb; replace BK186 := zb BK186 hb; replace HB := sb hb; (try clear hb); have ⟨hcz47_0, hcz47_1, hcz47_2, hcz47_3, hcz47_4, hfz47_0, hfz47_1, hfz47_2, hfz47_3, hfz47_4⟩ := bc5 BK186))
       go_ret
       exact ⟨eq_, bq⟩
     ·rw [if_neg c32] at H
      have c32b0 : (a1_1 == 0) = false := beq_eq_false_iff_ne.mpr c32
      have c32b1 : (a1_1 != 0) = true := bne_iff_ne.mpr c32
      obtain rfl := Option.some.inj H
      go_enter Try.func62, Try.ntmps62
      go_wp2_with (first | ((with_reducible refine gate_dst (N := 2) rfl ?_); refine box_event ?hg (N := 2) ?hd (cs := #[.int .i64 a0_0, .int .i64 a0_1, .slice A0_2 l0_2.length c0_2]) (t := 32) ?hr ?_; (case hd => rfl); (case hg => rfl); (case hr => first | (go_simp; done) | (go_simp; rfl)); intro gb185 hg w48 hbox hb; have BK185 := am (hbox); have GW185 := am (gq hg); have GE185 := am (gq hg); replace HB := sb hb; clear hb hbox hg) | ((with_reducible refine gate_dst (N := 3) rfl ?_); refine box_event ?hg (N := 3) ?hd (cs := #[.int .i64 a1_0, .int .i64 a1_1, .int .i64 a1_2, .int .i64 a1_3, .int .i64 a1_4]) (t := 60) ?hr ?_; (case hd => rfl); (case hg => rfl); (case hr => first | (go_simp; done) | (go_simp; rfl)); intro gb186 hg w49 hbox hb; have BK186 := am (hbox); have GW186 := am (gq hg); have GE186 := am (gq hg); replace HB := sb hb; have NB185_186 := nl hg BK185; have NB186_185 := ng hg BK185; replace BK185 := zb BK185 hb; clear hb hbox hg; have hnb50 := NB185_186.out; have hnc50 := NB186_185.out; have ⟨hcz51_0, hcz51_1, hcz51_2, hfz51_0, hfz51_1, hfz51_2⟩ := bc3 BK185; have ⟨hcz52_0, hcz52_1, hcz52_2, hcz52_3, hcz52_4, hfz52_0, hfz52_1, hfz52_2, hfz52_3, hfz52_4⟩ := bc5 BK186) | ((with_reducible refine gate_callee (f := 89) rfl ?_); refine goesQ (some 10) Try.func89 #[.agg #[.int .i64 a0_0, .int .i64 a0_1, .slice A0_2 l0_2.length c0_2], .int .i64 a1_1, .int .i64 a1_2] ?_; (with_reducible refine (impl_onBoard.calls k a0_0 a0_1 _ _ l0_2 a1_1 a1_2 true _ ?s1 ?s2 A3.out).mono ?_); (case s1 => exact cq (Kd.C_below HR0_2.out HB.out)); (case s2 => exact HC0_2.out); rintro e w53 ⟨rfl, hb⟩; refine ⟨_, rfl, ?_⟩; replace BK185 := zb BK185 hb; replace BK186 := zb BK186 hb; replace HB := sb hb; (try clear hb); have ⟨hcz54_0, hcz54_1, hcz54_2, hcz54_3, hcz54_4, hfz54_0, hfz54_1, hfz54_2, hfz54_3, hfz54_4⟩ := bc5 BK186))
      go_ret
      exact ⟨eq_, bq⟩
    ·rw [if_neg c31] at H
     have c31b0 : (a1_0 == 3) = false := beq_eq_false_iff_ne.mpr c31
     have c31b1 : (a1_0 != 3) = true := bne_iff_ne.mpr c31
     obtain rfl := Option.some.inj H
     go_enter Try.func62, Try.ntmps62
     go_wp2_with (first | ((with_reducible refine gate_dst (N := 2) rfl ?_); refine box_event ?hg (N := 2) ?hd (cs := #[.int .i64 a0_0, .int .i64 a0_1, .slice A0_2 l0_2.length c0_2]) (t := 32) ?hr ?_; (case hd => rfl); (case hg => rfl); (case hr => first | (go_simp; done) | (go_simp; rfl)); intro gb185 hg w55 hbox hb; have BK185 := am (hbox); have GW185 := am (gq hg); have GE185 := am (gq hg); replace HB := sb hb; clear hb hbox hg) | ((with_reducible refine gate_dst (N := 3) rfl ?_); refine box_event ?hg (N := 3) ?hd (cs := #[.int .i64 a1_0, .int .i64 a1_1, .int .i64 a1_2, .int .i64 a1_3, .int .i64 a1_4]) (t := 60) ?hr ?_; (case hd => rfl); (case hg => rfl); (case hr => first | (go_simp; done) | (go_simp; rfl)); intro gb186 hg w56 hbox hb; have BK186 := am (hbox); have GW186 := am (gq hg); have GE186 := am (gq hg); replace HB := sb hb; have NB185_186 := nl hg BK185; have NB186_185 := ng hg BK185; replace BK185 := zb BK185 hb; clear hb hbox hg; have hnb57 := NB185_186.out; have hnc57 := NB186_185.out; have ⟨hcz58_0, hcz58_1, hcz58_2, hfz58_0, hfz58_1, hfz58_2⟩ := bc3 BK185; have ⟨hcz59_0, hcz59_1, hcz59_2, hcz59_3, hcz59_4, hfz59_0, hfz59_1, hfz59_2, hfz59_3, hfz59_4⟩ := bc5 BK186) | ((with_reducible refine gate_callee (f := 89) rfl ?_); refine goesQ (some 10) Try.func89 #[.agg #[.int .i64 a0_0, .int .i64 a0_1, .slice A0_2 l0_2.length c0_2], .int .i64 a1_1, .int .i64 a1_2] ?_; (with_reducible refine (impl_onBoard.calls k a0_0 a0_1 _ _ l0_2 a1_1 a1_2 true _ ?s1 ?s2 A3.out).mono ?_); (case s1 => exact cq (Kd.C_below HR0_2.out HB.out)); (case s2 => exact HC0_2.out); rintro e w60 ⟨rfl, hb⟩; refine ⟨_, rfl, ?_⟩; replace BK185 := zb BK185 hb; replace BK186 := zb BK186 hb; replace HB := sb hb; (try clear hb); have ⟨hcz61_0, hcz61_1, hcz61_2, hcz61_3, hcz61_4, hfz61_0, hfz61_1, hfz61_2, hfz61_3, hfz61_4⟩ := bc5 BK186))
     go_ret
     exact ⟨eq_, bq⟩
 ·replace c4 := Bool.eq_false_iff.mpr c4
  subst c4
  rw [if_neg (show ¬ (false = true) by decide)] at H
  try dsimp only at H
  obtain rfl := Option.some.inj H
  go_enter Try.func62, Try.ntmps62
  go_wp2_with (first | ((with_reducible refine gate_dst (N := 2) rfl ?_); refine box_event ?hg (N := 2) ?hd (cs := #[.int .i64 a0_0, .int .i64 a0_1, .slice A0_2 l0_2.length c0_2]) (t := 32) ?hr ?_; (case hd => rfl); (case hg => rfl); (case hr => first | (go_simp; done) | (go_simp; rfl)); intro gb185 hg w62 hbox hb; have BK185 := am (hbox); have GW185 := am (gq hg); have GE185 := am (gq hg); replace HB := sb hb; clear hb hbox hg) | ((with_reducible refine gate_dst (N := 3) rfl ?_); refine box_event ?hg (N := 3) ?hd (cs := #[.int .i64 a1_0, .int .i64 a1_1, .int .i64 a1_2, .int .i64 a1_3, .int .i64 a1_4]) (t := 60) ?hr ?_; (case hd => rfl); (case hg => rfl); (case hr => first | (go_simp; done) | (go_simp; rfl)); intro gb186 hg w63 hbox hb; have BK186 := am (hbox); have GW186 := am (gq hg); have GE186 := am (gq hg); replace HB := sb hb; have NB185_186 := nl hg BK185; have NB186_185 := ng hg BK185; replace BK185 := zb BK185 hb; clear hb hbox hg; have hnb64 := NB185_186.out; have hnc64 := NB186_185.out; have ⟨hcz65_0, hcz65_1, hcz65_2, hfz65_0, hfz65_1, hfz65_2⟩ := bc3 BK185; have ⟨hcz66_0, hcz66_1, hcz66_2, hcz66_3, hcz66_4, hfz66_0, hfz66_1, hfz66_2, hfz66_3, hfz66_4⟩ := bc5 BK186) | ((with_reducible refine gate_callee (f := 89) rfl ?_); refine goesQ (some 10) Try.func89 #[.agg #[.int .i64 a0_0, .int .i64 a0_1, .slice A0_2 l0_2.length c0_2], .int .i64 a1_1, .int .i64 a1_2] ?_; (with_reducible refine (impl_onBoard.calls k a0_0 a0_1 _ _ l0_2 a1_1 a1_2 false _ ?s1 ?s2 A3.out).mono ?_); (case s1 => exact cq (Kd.C_below HR0_2.out HB.out)); (case s2 => exact HC0_2.out); rintro e w67 ⟨rfl, hb⟩; refine ⟨_, rfl, ?_⟩; replace BK185 := zb BK185 hb; replace BK186 := zb BK186 hb; replace HB := sb hb; (try clear hb)))
  go_ret
  exact ⟨eq_, bq⟩




end
/-! ### impl_IsSession: function 17 -/
mutual
def impl_IsSession.j0 : Nat → Bool → Int → Int → List (S58) → List (S60) → List (S60) → Option (Bool)
 | 0, _, _, _, _, _, _ => none
 | k + 1, x20, x190000, x190001, x190002, x190003, x190004 => if x20 = true then (some false) else ((some (([x190003, x190004] : List (List (S60))) : List (List (S60)))).bind fun y191 => (impl_IsSession.l0 k y191 (y191.length : Int) 0 x190000 x190001 x190002 x190003 x190004))
def impl_IsSession.l0 : Nat → List (List (S60)) → Int → Int → Int → Int → List (S58) → List (S60) → List (S60) → Option (Bool)
 | 0, _, _, _, _, _, _, _, _ => none
 | k + 1, x25, x26, x27, x190000, x190001, x190002, x190003, x190004 => if x27 < x26 then (if 0 ≤ x27 then (if x27 < (x25.length : Int) then (impl_IsSession.l1 k x25 x26 x27 (rd_L5 x25 x27) ((rd_L5 x25 x27).length : Int) 0 x190000 x190001 x190002 x190003 x190004) else (none)) else (none)) else (some true)
def impl_IsSession.l1 : Nat → List (List (S60)) → Int → Int → List (S60) → Int → Int → Int → Int → List (S58) → List (S60) → List (S60) → Option (Bool)
 | 0, _, _, _, _, _, _, _, _, _, _, _ => none
 | k + 1, x25, x26, x27, x31, x32, x33, x190000, x190001, x190002, x190003, x190004 => if x33 < x32 then (if 0 ≤ x33 then (if x33 < (x31.length : Int) then ((impl_isAct.f k x190000 x190001 x190002 ((rd_T60 x31 x33).f0) ((rd_T60 x31 x33).f1) ((rd_T60 x31 x33).f2) ((rd_T60 x31 x33).f3.f0) ((rd_T60 x31 x33).f3.f1)).bind fun t197 => (if t197 = true then (impl_IsSession.l1 k x25 x26 x27 x31 x32 (wrap64 (x33 + 1)) x190000 x190001 x190002 x190003 x190004) else (some false))) else (none)) else (none)) else (impl_IsSession.l0 k x25 x26 (wrap64 (x27 + 1)) x190000 x190001 x190002 x190003 x190004)
end
def impl_IsSession.f (k : Nat) (a0_0 : Int) (a0_1 : Int) (l0_2 : List (S58)) (l0_3 : List (S60)) (l0_4 : List (S60)) : Option (Bool) := (impl_IsBoard.f k a0_0 a0_1 l0_2).bind fun t190 => (if t190 = true then (impl_IsSession.j0 k (decide ((wrap64 ((l0_3.length : Int) + (l0_4.length : Int))) > 40)) a0_0 a0_1 l0_2 l0_3 l0_4) else (impl_IsSession.j0 k true a0_0 a0_1 l0_2 l0_3 l0_4))
theorem impl_IsSession.mono_l : ∀ k, (∀ y0 y1 y2 y3 y4 y5, LeO (impl_IsSession.j0 k y0 y1 y2 y3 y4 y5) (impl_IsSession.j0 (k + 1) y0 y1 y2 y3 y4 y5)) ∧ (∀ y0 y1 y2 y3 y4 y5 y6 y7, LeO (impl_IsSession.l0 k y0 y1 y2 y3 y4 y5 y6 y7) (impl_IsSession.l0 (k + 1) y0 y1 y2 y3 y4 y5 y6 y7)) ∧ (∀ y0 y1 y2 y3 y4 y5 y6 y7 y8 y9 y10, LeO (impl_IsSession.l1 k y0 y1 y2 y3 y4 y5 y6 y7 y8 y9 y10) (impl_IsSession.l1 (k + 1) y0 y1 y2 y3 y4 y5 y6 y7 y8 y9 y10))
 | 0 => ⟨fun _ _ _ _ _ _ r h => by simp [impl_IsSession.j0] at h, fun _ _ _ _ _ _ _ _ r h => by simp [impl_IsSession.l0] at h, fun _ _ _ _ _ _ _ _ _ _ _ r h => by simp [impl_IsSession.l1] at h⟩
 | k + 1 => by
  obtain ⟨ih0, ih1, ih2⟩ := impl_IsSession.mono_l k
  refine ⟨?_, ?_, ?_⟩
  ·intro y0 y1 y2 y3 y4 y5
   unfold impl_IsSession.j0
   repeat' first
   | (with_reducible exact ih0 _ _ _ _ _ _)
   | (with_reducible exact ih1 _ _ _ _ _ _ _ _)
   | (with_reducible exact ih2 _ _ _ _ _ _ _ _ _ _ _)
   | (with_reducible exact impl_IsBoard.mono _ _ _ _)
   | (with_reducible exact impl_isAct.mono _ _ _ _ _ _ _ _ _)
   | (with_reducible exact LeO.refl _)
   | (with_reducible exact LeO.none _)
   | (with_reducible refine LeO.ite ?_ ?_)
   | (with_reducible refine LeO.bind ?_ (fun _ => ?_))
   | exact ih0 _ _ _ _ _ _
   | exact ih1 _ _ _ _ _ _ _ _
   | exact ih2 _ _ _ _ _ _ _ _ _ _ _
   | exact impl_IsBoard.mono _ _ _ _
   | exact impl_isAct.mono _ _ _ _ _ _ _ _ _
   | exact LeO.none _
   | refine LeO.ite ?_ ?_
   | refine LeO.bind ?_ (fun _ => ?_)
  ·intro y0 y1 y2 y3 y4 y5 y6 y7
   unfold impl_IsSession.l0
   repeat' first
   | (with_reducible exact ih0 _ _ _ _ _ _)
   | (with_reducible exact ih1 _ _ _ _ _ _ _ _)
   | (with_reducible exact ih2 _ _ _ _ _ _ _ _ _ _ _)
   | (with_reducible exact impl_IsBoard.mono _ _ _ _)
   | (with_reducible exact impl_isAct.mono _ _ _ _ _ _ _ _ _)
   | (with_reducible exact LeO.refl _)
   | (with_reducible exact LeO.none _)
   | (with_reducible refine LeO.ite ?_ ?_)
   | (with_reducible refine LeO.bind ?_ (fun _ => ?_))
   | exact ih0 _ _ _ _ _ _
   | exact ih1 _ _ _ _ _ _ _ _
   | exact ih2 _ _ _ _ _ _ _ _ _ _ _
   | exact impl_IsBoard.mono _ _ _ _
   | exact impl_isAct.mono _ _ _ _ _ _ _ _ _
   | exact LeO.none _
   | refine LeO.ite ?_ ?_
   | refine LeO.bind ?_ (fun _ => ?_)
  ·intro y0 y1 y2 y3 y4 y5 y6 y7 y8 y9 y10
   unfold impl_IsSession.l1
   repeat' first
   | (with_reducible exact ih0 _ _ _ _ _ _)
   | (with_reducible exact ih1 _ _ _ _ _ _ _ _)
   | (with_reducible exact ih2 _ _ _ _ _ _ _ _ _ _ _)
   | (with_reducible exact impl_IsBoard.mono _ _ _ _)
   | (with_reducible exact impl_isAct.mono _ _ _ _ _ _ _ _ _)
   | (with_reducible exact LeO.refl _)
   | (with_reducible exact LeO.none _)
   | (with_reducible refine LeO.ite ?_ ?_)
   | (with_reducible refine LeO.bind ?_ (fun _ => ?_))
   | exact ih0 _ _ _ _ _ _
   | exact ih1 _ _ _ _ _ _ _ _
   | exact ih2 _ _ _ _ _ _ _ _ _ _ _
   | exact impl_IsBoard.mono _ _ _ _
   | exact impl_isAct.mono _ _ _ _ _ _ _ _ _
   | exact LeO.none _
   | refine LeO.ite ?_ ?_
   | refine LeO.bind ?_ (fun _ => ?_)
theorem impl_IsSession.mono : ∀ a0 a1 a2 a3 a4 k, LeO (impl_IsSession.f k a0 a1 a2 a3 a4) (impl_IsSession.f (k + 1) a0 a1 a2 a3 a4) := by
 intro a0 a1 a2 a3 a4 k
 obtain ⟨ih0, ih1, ih2⟩ := impl_IsSession.mono_l k
 unfold impl_IsSession.f
 repeat' first
   | (with_reducible exact ih0 _ _ _ _ _ _)
   | (with_reducible exact ih1 _ _ _ _ _ _ _ _)
   | (with_reducible exact ih2 _ _ _ _ _ _ _ _ _ _ _)
   | (with_reducible exact impl_IsBoard.mono _ _ _ _)
   | (with_reducible exact impl_isAct.mono _ _ _ _ _ _ _ _ _)
   | (with_reducible exact LeO.refl _)
   | (with_reducible exact LeO.none _)
   | (with_reducible refine LeO.ite ?_ ?_)
   | (with_reducible refine LeO.bind ?_ (fun _ => ?_))
   | exact ih0 _ _ _ _ _ _
   | exact ih1 _ _ _ _ _ _ _ _
   | exact ih2 _ _ _ _ _ _ _ _ _ _ _
   | exact impl_IsBoard.mono _ _ _ _
   | exact impl_isAct.mono _ _ _ _ _ _ _ _ _
   | exact LeO.none _
   | refine LeO.ite ?_ ?_
   | refine LeO.bind ?_ (fun _ => ?_)
set_option maxHeartbeats 8000000 in
set_option maxRecDepth 100000 in
theorem impl_IsSession.calls (k : Nat) (a0_0 : Int) (a0_1 : Int) (A0_2 : Option Addr) (c0_2 : Nat) (l0_2 : List (S58)) (P0_3_ : Nat → Prop) (A0_3 : Option Addr) (c0_3 : Nat) (l0_3 : List (S60)) (P0_4_ : Nat → Prop) (A0_4 : Option Addr) (c0_4 : Nat) (l0_4 : List (S60)) (r : Bool) (w : World) (hr0_2 : Kd.C k58 w A0_2 l0_2.length l0_2) (hc0_2 : l0_2.length ≤ c0_2) (hs0_3 : Kd.V k60 60 w w.heap.size (fun k_ => P0_3_ k_) (.slice A0_3 l0_3.length c0_3) l0_3) (hs0_4 : Kd.V k60 60 w w.heap.size (fun k_ => P0_4_ k_) (.slice A0_4 l0_4.length c0_4) l0_4) (h : impl_IsSession.f k a0_0 a0_1 l0_2 l0_3 l0_4 = some r) :
  Calls Try.prog 17 #[.agg #[.int .i64 a0_0, .int .i64 a0_1, .slice A0_2 l0_2.length c0_2, .slice A0_3 l0_3.length c0_3, .slice A0_4 l0_4.length c0_4]] w fun e w' => e = .returned (.bool r) ∧ Below w.heap.size w w' := by
 have hu35 := Try.underlying35
 have hu32 := Try.underlying32
 have hu60 := Try.underlying60
 have HR0_2 := am hr0_2
 have HC0_2 := am hc0_2
 clear hr0_2 hc0_2
 have HO0_3 := am (show Kd.V k60 60 w w.heap.size (fun k_ => ((P0_3_ k_ ∨ P0_4_ k_) ∨ w.heap.size ≤ k_)) (.slice A0_3 l0_3.length c0_3) l0_3 from Kd.V_mono hs0_3 (fun k_ hk => .inl (.inl hk)))
 have HO0_4 := am (show Kd.V k60 60 w w.heap.size (fun k_ => ((P0_3_ k_ ∨ P0_4_ k_) ∨ w.heap.size ≤ k_)) (.slice A0_4 l0_4.length c0_4) l0_4 from Kd.V_mono hs0_4 (fun k_ hk => .inl (.inr hk)))
 have HB := am (Below.refl w.heap.size w)
 have H : ((impl_IsBoard.f k a0_0 a0_1 l0_2).bind fun t190 => (if t190 = true then (impl_IsSession.j0 k (decide ((wrap64 ((l0_3.length : Int) + (l0_4.length : Int))) > 40)) a0_0 a0_1 l0_2 l0_3 l0_4) else (impl_IsSession.j0 k true a0_0 a0_1 l0_2 l0_3 l0_4))) = some r := h
 clear h
 have HC2 := am H
 clear H
 go_enter Try.func17, Try.ntmps17
 go_upto_region 1 with (first | ((with_reducible refine gate_dst (N := 1) rfl ?_); (try (refine gate_guard (by rfl) ?_; dsimp only)); refine box_event ?hg (N := 1) ?hd (cs := #[.int .i64 a0_0, .int .i64 a0_1, .slice A0_2 l0_2.length c0_2, .slice A0_3 l0_3.length c0_3, .slice A0_4 l0_4.length c0_4]) (t := 35) ?hr ?_; (case hd => rfl); (case hg => rfl); (case hr => first | (go_simp; done) | (go_simp; rfl)); intro gb189 hg w3 hbox hb; replace HO0_3 := am (Kd.V_below (Kd.V_elderB (by (with_reducible repeat (first | apply Kd.V_alloc | apply Kd.V_drewN | apply Kd.V_drew)); exact HO0_3.out) gb189 (Nat.le_of_eq hg.symm)) hb); replace HO0_4 := am (Kd.V_below (Kd.V_elderB (by (with_reducible repeat (first | apply Kd.V_alloc | apply Kd.V_drewN | apply Kd.V_drew)); exact HO0_4.out) gb189 (Nat.le_of_eq hg.symm)) hb); have BK189 := am (hbox); have GW189 := am (gq hg); have GE189 := am (gq hg); replace HB := sb hb; clear hb hbox hg))
 (try simp only [Act.put, List.setIfInBounds_toArray, List.set_cons_zero, List.set_cons_succ])
 go_cut [20] (fun v20 wc => ∃ (kq : Nat) (x20_1 : Bool), v20 = .bool x20_1 ∧ Aside0 (impl_IsSession.j0 kq x20_1 a0_0 a0_1 l0_2 l0_3 l0_4 = some r) ∧ Aside0 (kq ≤ k) ∧ Aside0 (Kd.V k60 60 wc w.heap.size (fun k_ => ((P0_3_ k_ ∨ P0_4_ k_) ∨ w.heap.size ≤ k_) ∧ k_ ≠ gb189) (.slice A0_3 l0_3.length c0_3) l0_3) ∧ Aside0 (Kd.V k60 60 wc w.heap.size (fun k_ => ((P0_3_ k_ ∨ P0_4_ k_) ∨ w.heap.size ≤ k_) ∧ k_ ≠ gb189) (.slice A0_4 l0_4.length c0_4) l0_4) ∧ Aside0 (wc.heap[gb189]? = some (.cells #[.int .i64 a0_0, .int .i64 a0_1, (.slice A0_2 l0_2.length c0_2), (.slice A0_3 l0_3.length c0_3), (.slice A0_4 l0_4.length c0_4)] 35 (0, 0))) ∧ Aside0 (Below w.heap.size w wc))
 case first =>
  have H := HC2.out
  clear HC2
  obtain ⟨t190, A4, H⟩ := bindq H
  try dsimp only at H
  by_cases c5 : t190 = true
  ·subst c5
   rw [if_pos rfl] at H
   try dsimp only at H
   have H' := am H
   clear H
   have ⟨hcz6_0, hcz6_1, hcz6_2, hcz6_3, hcz6_4, hfz6_0, hfz6_1, hfz6_2, hfz6_3, hfz6_4⟩ := bc5 BK189
   go_wp2_with (first | ((with_reducible refine gate_callee (f := 61) rfl ?_); refine goesQ (some 9) Try.func61 #[.agg #[.int .i64 a0_0, .int .i64 a0_1, .slice A0_2 l0_2.length c0_2]] ?_; (with_reducible refine (impl_IsBoard.calls k a0_0 a0_1 _ _ l0_2 true _ ?s1 ?s2 A4.out).mono ?_); (case s1 => exact cq (Kd.C_below HR0_2.out HB.out)); (case s2 => exact HC0_2.out); rintro e w7 ⟨rfl, hb⟩; refine ⟨_, rfl, ?_⟩; replace HO0_3 := am (Kd.V_below (by (with_reducible repeat (first | apply Kd.V_alloc | apply Kd.V_drewN | apply Kd.V_drew)); exact HO0_3.out) hb); replace HO0_4 := am (Kd.V_below (by (with_reducible repeat (first | apply Kd.V_alloc | apply Kd.V_drewN | apply Kd.V_drew)); exact HO0_4.out) hb); replace BK189 := zb BK189 hb; replace HB := sb hb; (try clear hb); have ⟨hcz8_0, hcz8_1, hcz8_2, hcz8_3, hcz8_4, hfz8_0, hfz8_1, hfz8_2, hfz8_3, hfz8_4⟩ := bc5 BK189))
   go_meet
   case rel => exact ⟨_, (decide ((wrap64 ((l0_3.length : Int) + (l0_4.length : Int))) > 40)), sq, H', ⟨by first | omega | exact Nat.le_refl _⟩, ⟨by (with_reducible repeat (first | apply Kd.V_alloc | apply Kd.V_drewN | apply Kd.V_drew)); exact HO0_3.out⟩, ⟨by (with_reducible repeat (first | apply Kd.V_alloc | apply Kd.V_drewN | apply Kd.V_drew)); exact HO0_4.out⟩, ⟨zq BK189⟩, ⟨bq⟩⟩
  ·replace c5 := Bool.eq_false_iff.mpr c5
   subst c5
   rw [if_neg (show ¬ (false = true) by decide)] at H
   try dsimp only at H
   have H' := am H
   clear H
   have ⟨hcz9_0, hcz9_1, hcz9_2, hcz9_3, hcz9_4, hfz9_0, hfz9_1, hfz9_2, hfz9_3, hfz9_4⟩ := bc5 BK189
   go_wp2_with (first | ((with_reducible refine gate_callee (f := 61) rfl ?_); refine goesQ (some 9) Try.func61 #[.agg #[.int .i64 a0_0, .int .i64 a0_1, .slice A0_2 l0_2.length c0_2]] ?_; (with_reducible refine (impl_IsBoard.calls k a0_0 a0_1 _ _ l0_2 false _ ?s1 ?s2 A4.out).mono ?_); (case s1 => exact cq (Kd.C_below HR0_2.out HB.out)); (case s2 => exact HC0_2.out); rintro e w10 ⟨rfl, hb⟩; refine ⟨_, rfl, ?_⟩; replace HO0_3 := am (Kd.V_below (by (with_reducible repeat (first | apply Kd.V_alloc | apply Kd.V_drewN | apply Kd.V_drew)); exact HO0_3.out) hb); replace HO0_4 := am (Kd.V_below (by (with_reducible repeat (first | apply Kd.V_alloc | apply Kd.V_drewN | apply Kd.V_drew)); exact HO0_4.out) hb); replace BK189 := zb BK189 hb; replace HB := sb hb; (try clear hb)))
   go_meet
   case rel => exact ⟨_, (true), sq, H', ⟨by first | omega | exact Nat.le_refl _⟩, ⟨by (with_reducible repeat (first | apply Kd.V_alloc | apply Kd.V_drewN | apply Kd.V_drew)); exact HO0_3.out⟩, ⟨by (with_reducible repeat (first | apply Kd.V_alloc | apply Kd.V_drewN | apply Kd.V_drew)); exact HO0_4.out⟩, ⟨zq BK189⟩, ⟨bq⟩⟩
 case rest =>
  clear HC2
  try clear c5
  try clear hcz6_0 hcz6_1 hcz6_2 hcz6_3 hcz6_4 hfz6_0 hfz6_1 hfz6_2 hfz6_3 hfz6_4
  try clear hcz8_0 hcz8_1 hcz8_2 hcz8_3 hcz8_4 hfz8_0 hfz8_1 hfz8_2 hfz8_3 hfz8_4
  try clear hcz9_0 hcz9_1 hcz9_2 hcz9_3 hcz9_4 hfz9_0 hfz9_1 hfz9_2 hfz9_3 hfz9_4
  obtain ⟨kq, x20_1, rfl, HA, HJ1, HO_190003, HO_190004, BK189, HB⟩ := hcut
  cases kq with
  | zero => exact absurd HA.out (by simp [impl_IsSession.j0])
  | succ kj1 =>
   have H := HA.out
   clear HA
   simp only [impl_IsSession.j0] at H
   by_cases c11 : x20_1 = true
   ·subst c11
    rw [if_pos rfl] at H
    try dsimp only at H
    obtain rfl := Option.some.inj H
    go_wp2
    go_ret
    exact ⟨eq_, bq⟩
   ·replace c11 := Bool.eq_false_iff.mpr c11
    subst c11
    rw [if_neg (show ¬ (false = true) by decide)] at H
    try dsimp only at H
    obtain ⟨y191, hy191⟩ : ∃ y_ : List (List (S60)), y_ = (([l0_3, l0_4] : List (List (S60)))) := ⟨_, rfl⟩
    replace H : (impl_IsSession.l0 kj1 y191 (y191.length : Int) 0 a0_0 a0_1 l0_2 l0_3 l0_4) = some r := by first | (rw [hy191]; with_reducible exact H) | (have H2_ := (Option.bind_some _ _).symm.trans H; rw [hy191]; with_reducible exact H2_) | (have H2_ := (Option.bind_some _ _).symm.trans H; with_reducible exact H2_) | with_reducible exact H | (rw [hy191]; exact H) | exact H
    have Ny191 := am hy191
    clear hy191
    have H' := am H
    clear H
    have ⟨hcz12_0, hcz12_1, hcz12_2, hcz12_3, hcz12_4, hfz12_0, hfz12_1, hfz12_2, hfz12_3, hfz12_4⟩ := bc5 BK189
    go_wp2_with (first | ((with_reducible refine gate_dst (N := 25) rfl ?_); (try (refine gate_guard (by rfl) ?_; dsimp only)); refine Kd.N_lit (Kd.slice 60 k60) _ 33 ?hg (N' := 25) ?hd (xs := ([l0_3, l0_4] : List (List (S60)))) (inner := [.slice A0_3 l0_3.length c0_3, .slice A0_4 l0_4.length c0_4]) (ok := (fun k_ => ((P0_3_ k_ ∨ P0_4_ k_) ∨ w.heap.size ≤ k_) ∧ k_ ≠ gb189)) (okp := (fun k_ => ((P0_3_ k_ ∨ P0_4_ k_) ∨ w.heap.size ≤ k_) ∧ k_ ≠ gb189)) ?hr ?hp (fun _ hk => hk) ((show ∀ k_, wc.heap.size ≤ k_ → (fun k_ => ((P0_3_ k_ ∨ P0_4_ k_) ∨ w.heap.size ≤ k_) ∧ k_ ≠ gb189) k_ from fun k_ hk => ⟨(.inr (Nat.le_trans (below_size bq) hk)), Kd.freshB (g := gb189) (o := .cells #[.int .i64 a0_0, .int .i64 a0_1, .slice A0_2 l0_2.length c0_2, .slice A0_3 l0_3.length c0_3, .slice A0_4 l0_4.length c0_4] 35 (0, 0)) (zq BK189) k_ hk⟩) _ (Nat.le_refl _)) (Below.refl _ _) (Nat.le_refl _) (by simp) ?_; (case hd => rfl); (case hg => rfl); (case hr => first | (go_simp; done) | (go_simp; rfl)); (case hp => exact (Reps.one (show Kd.FK (Kd.slice 60 k60) _ _ l0_3 [.slice A0_3 l0_3.length c0_3] from (Kd.FK_slice_mk (Kd.V_reads' (Kd.V_mono (ok' := (fun k_ => ((P0_3_ k_ ∨ P0_4_ k_) ∨ w.heap.size ≤ k_) ∧ k_ ≠ gb189)) (HO_190003.out) (fun k_ hk => ⟨hk.1, hk.2⟩))).2.1 (Kd.V_F (Kd.V_mono (ok' := (fun k_ => ((P0_3_ k_ ∨ P0_4_ k_) ∨ w.heap.size ≤ k_) ∧ k_ ≠ gb189)) (HO_190003.out) (fun k_ hk => ⟨hk.1, hk.2⟩))))) (Reps.one (show Kd.FK (Kd.slice 60 k60) _ _ l0_4 [.slice A0_4 l0_4.length c0_4] from (Kd.FK_slice_mk (Kd.V_reads' (Kd.V_mono (ok' := (fun k_ => ((P0_3_ k_ ∨ P0_4_ k_) ∨ w.heap.size ≤ k_) ∧ k_ ≠ gb189)) (HO_190004.out) (fun k_ hk => ⟨hk.1, hk.2⟩))).2.1 (Kd.V_F (Kd.V_mono (ok' := (fun k_ => ((P0_3_ k_ ∨ P0_4_ k_) ∨ w.heap.size ≤ k_) ∧ k_ ≠ gb189)) (HO_190004.out) (fun k_ hk => ⟨hk.1, hk.2⟩))))) (Reps.none _ _)))); intro v192 w13 ho14 hb hg_ hnew_; clear hg_ hnew_; (first | rw [← Ny191.out] at ho14 | (simp only [Int.reduceToNat] at ho14; rw [← Ny191.out] at ho14)); replace HO_190003 := am (Kd.V_elder' (by (with_reducible repeat (first | apply Kd.V_alloc | apply Kd.V_drewN | apply Kd.V_drew)); exact HO_190003.out) (Kd.N_base ho14) hb); replace HO_190004 := am (Kd.V_elder' (by (with_reducible repeat (first | apply Kd.V_alloc | apply Kd.V_drewN | apply Kd.V_drew)); exact HO_190004.out) (Kd.N_base ho14) hb); have HO193 := am (Kd.N_lower ho14 (below_size bq)); replace BK189 := zb BK189 hb; replace HB := sb hb; clear hb ho14; obtain ⟨Ao15, co15, eo15⟩ := Kd.N_slice HO193.out; subst eo15))
    go_loopg [27] kj1 (fun kq v27 w' => ∃ (x27_2 : Int), v27 = .int .i64 x27_2 ∧ Aside0 (impl_IsSession.l0 kq y191 (y191.length : Int) x27_2 a0_0 a0_1 l0_2 l0_3 l0_4 = some r) ∧ Aside0 (kq ≤ kj1) ∧ Aside0 (Kd.N (Kd.slice 60 k60) 33 w' w.heap.size (fun k_ => ((P0_3_ k_ ∨ P0_4_ k_) ∨ w.heap.size ≤ k_) ∧ k_ ≠ gb189) (.slice Ao15 y191.length co15) y191) ∧ Aside0 (Kd.V k60 60 w' w.heap.size (fun k_ => ((P0_3_ k_ ∨ P0_4_ k_) ∨ w.heap.size ≤ k_) ∧ some k_ ≠ ((.slice Ao15 y191.length co15) : Value).ownBlock ∧ k_ ≠ gb189) (.slice A0_3 l0_3.length c0_3) l0_3) ∧ Aside0 (Kd.V k60 60 w' w.heap.size (fun k_ => ((P0_3_ k_ ∨ P0_4_ k_) ∨ w.heap.size ≤ k_) ∧ some k_ ≠ ((.slice Ao15 y191.length co15) : Value).ownBlock ∧ k_ ≠ gb189) (.slice A0_4 l0_4.length c0_4) l0_4) ∧ Aside0 (w'.heap[gb189]? = some (.cells #[.int .i64 a0_0, .int .i64 a0_1, (.slice A0_2 l0_2.length c0_2), (.slice A0_3 l0_3.length c0_3), (.slice A0_4 l0_4.length c0_4)] 35 (0, 0))) ∧ Aside0 (Below w.heap.size w w'))
    case atStart => exact ⟨(0), sq, H', ⟨Nat.le_refl _⟩, ⟨by (with_reducible repeat (first | apply Kd.N_alloc | apply Kd.N_drewN | apply Kd.N_drew)); exact HO193.out⟩, ⟨by (with_reducible repeat (first | apply Kd.V_alloc | apply Kd.V_drewN | apply Kd.V_drew)); exact Kd.V_mono HO_190003.out (fun _ hk => ⟨hk.1.1, ⟨hk.2, hk.1.2⟩⟩)⟩, ⟨by (with_reducible repeat (first | apply Kd.V_alloc | apply Kd.V_drewN | apply Kd.V_drew)); exact Kd.V_mono HO_190004.out (fun _ hk => ⟨hk.1.1, ⟨hk.2, hk.1.2⟩⟩)⟩, ⟨zq BK189⟩, ⟨bq⟩⟩
    case round =>
     clear H'
     try clear c5
     try clear c11
     try clear hcz12_0 hcz12_1 hcz12_2 hcz12_3 hcz12_4 hfz12_0 hfz12_1 hfz12_2 hfz12_3 hfz12_4
     try clear hcz6_0 hcz6_1 hcz6_2 hcz6_3 hcz6_4 hfz6_0 hfz6_1 hfz6_2 hfz6_3 hfz6_4
     try clear hcz8_0 hcz8_1 hcz8_2 hcz8_3 hcz8_4 hfz8_0 hfz8_1 hfz8_2 hfz8_3 hfz8_4
     try clear hcz9_0 hcz9_1 hcz9_2 hcz9_3 hcz9_4 hfz9_0 hfz9_1 hfz9_2 hfz9_3 hfz9_4
     obtain ⟨x27_2, rfl, HA, HK2, HO_25, HO_190003, HO_190004, BK189, HB⟩ := hrel
     cases gk with
     | zero => exact absurd HA.out (by simp [impl_IsSession.l0])
     | succ k2 =>
      have H := HA.out
      clear HA
      simp only [impl_IsSession.l0] at H
      by_cases c16 : x27_2 < (y191.length : Int)
      ·rw [if_pos c16] at H
       have c16b0 : decide (x27_2 < (y191.length : Int)) = true := decide_eq_true c16
       clear c16
       by_cases c17 : 0 ≤ x27_2
       ·rw [if_pos c17] at H
        have c17b0 : decide (0 ≤ x27_2) = true := decide_eq_true c17
        clear c17
        by_cases c18 : x27_2 < (y191.length : Int)
        ·rw [if_pos c18] at H
         have c18b0 : decide (x27_2 < (y191.length : Int)) = true := decide_eq_true c18
         clear c18
         have H' := am H
         clear H
         have p194 : 0 ≤ (x27_2 : Int) := of_decide_eq_true aq
         have q194 : x27_2 < (y191.length : Int) := of_decide_eq_true aq
         obtain ⟨ad194, A194_0, c194_0, e194, hx194_0, hl194_0, hi194_0⟩ := at_L5 (Kd.N_reads' HO_25.out).2.2 x27_2 p194 q194
         cases e194
         obtain ⟨ce194, hce194, hMe194, hcc194⟩ := Kd.N_get HO_25.out [] x27_2 p194 (by first | exact q194 | exact of_decide_eq_true aq | (have e_ := (Kd.N_reads' HO_25.out).1; omega))
         obtain ⟨ua194_0, uc194_0, rfl, ul194_0, ge194_0⟩ := Kd.FK_slice_open hMe194
         have hv194_0 := hcc194 0 _ rfl
         rw [Nat.add_zero, show ((Kd.slice 60 k60)).sz = 1 from rfl, Nat.mul_one] at hv194_0
         replace hv194_0 := Option.some.inj (hv194_0.symm.trans hx194_0)
         injection hv194_0 with hva_ hvn_ hvc_
         rw [hva_] at ge194_0
         rw [hvc_] at ul194_0
         have HL194_0 := am (show Kd.V k60 60 _ w.heap.size _ _ (rd_L5 y191 x27_2) from Kd.V_mk ul194_0 ge194_0)
         clear hva_ hvn_ hvc_ ge194_0 ul194_0 hcc194 hce194
         have HR194_0 := am hi194_0
         have HC194_0 := am hl194_0
         clear hi194_0 hl194_0
         replace p194 := eq_true p194
         replace q194 := eq_true q194
         go_wp2
         go_loopg [33] k2 (fun kq v33 w' => ∃ (x33_3 : Int), v33 = .int .i64 x33_3 ∧ Aside0 (impl_IsSession.l1 kq y191 (y191.length : Int) x27_2 (rd_L5 y191 x27_2) ((rd_L5 y191 x27_2).length : Int) x33_3 a0_0 a0_1 l0_2 l0_3 l0_4 = some r) ∧ Aside0 (kq ≤ k2) ∧ Aside0 (Kd.N (Kd.slice 60 k60) 33 w' w.heap.size (fun k_ => ((P0_3_ k_ ∨ P0_4_ k_) ∨ w.heap.size ≤ k_) ∧ k_ ≠ gb189) (.slice (some ad194) y191.length co15) y191) ∧ Aside0 (Kd.V k60 60 w' w.heap.size (fun k_ => ((P0_3_ k_ ∨ P0_4_ k_) ∨ w.heap.size ≤ k_) ∧ some k_ ≠ ((.slice (some ad194) y191.length co15) : Value).ownBlock ∧ k_ ≠ gb189) (.slice A0_3 l0_3.length c0_3) l0_3) ∧ Aside0 (Kd.V k60 60 w' w.heap.size (fun k_ => ((P0_3_ k_ ∨ P0_4_ k_) ∨ w.heap.size ≤ k_) ∧ some k_ ≠ ((.slice (some ad194) y191.length co15) : Value).ownBlock ∧ k_ ≠ gb189) (.slice A0_4 l0_4.length c0_4) l0_4) ∧ Aside0 (w'.heap[gb189]? = some (.cells #[.int .i64 a0_0, .int .i64 a0_1, (.slice A0_2 l0_2.length c0_2), (.slice A0_3 l0_3.length c0_3), (.slice A0_4 l0_4.length c0_4)] 35 (0, 0))) ∧ Aside0 (Kd.C k60 w' A194_0 (rd_L5 y191 x27_2).length (rd_L5 y191 x27_2)) ∧ Aside0 (Below w.heap.size w w'))
         case atStart => exact ⟨(0), sq, H', ⟨Nat.le_refl _⟩, ⟨by (with_reducible repeat (first | apply Kd.N_alloc | apply Kd.N_drewN | apply Kd.N_drew)); exact HO_25.out⟩, ⟨by (with_reducible repeat (first | apply Kd.V_alloc | apply Kd.V_drewN | apply Kd.V_drew)); exact HO_190003.out⟩, ⟨by (with_reducible repeat (first | apply Kd.V_alloc | apply Kd.V_drewN | apply Kd.V_drew)); exact HO_190004.out⟩, ⟨zq BK189⟩, ⟨by repeat (first | (with_reducible exact HR194_0.out) | (with_reducible refine Kd.C_alloc ?_ _) | (with_reducible refine Kd.C_drewN ?_ _) | (with_reducible refine Kd.C_drew ?_) | exact HR194_0.out)⟩, ⟨bq⟩⟩
         case round =>
          clear H'
          try clear c5
          try clear c11
          try clear c16b0
          try clear c17b0
          try clear c18b0
          try clear hcz12_0 hcz12_1 hcz12_2 hcz12_3 hcz12_4 hfz12_0 hfz12_1 hfz12_2 hfz12_3 hfz12_4
          try clear hcz6_0 hcz6_1 hcz6_2 hcz6_3 hcz6_4 hfz6_0 hfz6_1 hfz6_2 hfz6_3 hfz6_4
          try clear hcz8_0 hcz8_1 hcz8_2 hcz8_3 hcz8_4 hfz8_0 hfz8_1 hfz8_2 hfz8_3 hfz8_4
          try clear hcz9_0 hcz9_1 hcz9_2 hcz9_3 hcz9_4 hfz9_0 hfz9_1 hfz9_2 hfz9_3 hfz9_4
          try clear hx194_0
          try clear p194
          try clear q194
          obtain ⟨x33_3, rfl, HA, HK3, HO_25, HO_190003, HO_190004, BK189, HR194_0, HB⟩ := hrel
          have HBR := am (Below.refl wr.heap.size wr)
          cases gk with
          | zero => exact absurd HA.out (by simp [impl_IsSession.l1])
          | succ k3 =>
           have H := HA.out
           clear HA
           simp only [impl_IsSession.l1] at H
           by_cases c19 : x33_3 < ((rd_L5 y191 x27_2).length : Int)
           ·rw [if_pos c19] at H
            have c19b0 : decide (x33_3 < ((rd_L5 y191 x27_2).length : Int)) = true := decide_eq_true c19
            clear c19
            by_cases c20 : 0 ≤ x33_3
            ·rw [if_pos c20] at H
             have c20b0 : decide (0 ≤ x33_3) = true := decide_eq_true c20
             clear c20
             by_cases c21 : x33_3 < ((rd_L5 y191 x27_2).length : Int)
             ·rw [if_pos c21] at H
              have c21b0 : decide (x33_3 < ((rd_L5 y191 x27_2).length : Int)) = true := decide_eq_true c21
              clear c21
              obtain ⟨t197, A22, H⟩ := bindq H
              try dsimp only at H
              by_cases c23 : t197 = true
              ·subst c23
               rw [if_pos rfl] at H
               try dsimp only at H
               have H' := am H
               clear H
               have p195 : 0 ≤ (x33_3 : Int) := of_decide_eq_true aq
               have q195 : x33_3 < ((rd_L5 y191 x27_2).length : Int) := of_decide_eq_true aq
               obtain ⟨ad195, e195, hx195_0, hx195_1, hx195_2, hx195_3, hx195_4⟩ := at_T60 HR194_0.out x33_3 p195 q195
               cases e195
               replace p195 := eq_true p195
               replace q195 := eq_true q195
               go_wp2_with (first | ((with_reducible refine gate_dst (N := 6) rfl ?_); (try (refine gate_guard (by rfl) ?_; dsimp only)); refine box_event ?hg (N := 6) ?hd (cs := #[.int .i64 0, .int .i64 0, .int .i64 0, .int .i64 0, .int .i64 0]) (t := 60) ?hr ?_; (case hd => rfl); (case hg => rfl); (case hr => first | (go_simp; done) | (go_simp; rfl)); intro gb196 hg w24 hbox hb; have n0_ := am (Kd.N_below (Kd.N_elderB (by (with_reducible repeat (first | apply Kd.N_alloc | apply Kd.N_drewN | apply Kd.N_drew)); exact HO_25.out) gb196 (Nat.le_of_eq hg.symm)) hb); have n1_ := am (Kd.V_below (Kd.V_elderB (by (with_reducible repeat (first | apply Kd.V_alloc | apply Kd.V_drewN | apply Kd.V_drew)); exact HO_190003.out) gb196 (Nat.le_of_eq hg.symm)) hb); have n2_ := am (Kd.V_below (Kd.V_elderB (by (with_reducible repeat (first | apply Kd.V_alloc | apply Kd.V_drewN | apply Kd.V_drew)); exact HO_190004.out) gb196 (Nat.le_of_eq hg.symm)) hb); have n3_ := zb BK189 hb; have n4_ := am (below_step (by repeat (first | (with_reducible first | exact HBR.out | apply below_alloc | apply pw_below_drewN | apply below_drew1 | refine below_set ?_ GRb.out) | exact HBR.out)) hb); have n5_ := sb hb; have GRb := am ((by rw [hg]; exact (below_size (by repeat (first | (with_reducible first | exact HBR.out | apply below_alloc | apply pw_below_drewN | apply below_drew1 | refine below_set ?_ GRb.out) | exact HBR.out)))) : wr.heap.size ≤ gb196); have n6_ := am (hbox); have n7_ := am (gq hg); have n8_ := am (gq hg); have n9_ := nl hg BK189; have n10_ := ng hg BK189; clear HO_25; clear HO_190003; clear HO_190004; clear BK189; clear HBR; clear HB; have HO_25 := n0_; have HO_190003 := n1_; have HO_190004 := n2_; have BK189 := n3_; have HBR := n4_; have HB := n5_; have BK196 := n6_; have GW196 := n7_; have GE196 := n8_; have NB189_196 := n9_; have NB196_189 := n10_; clear n0_ n1_ n2_ n3_ n4_ n5_ n6_ n7_ n8_ n9_ n10_; clear hb hbox hg; have hnb25 := NB196_189.out; have hnc25 := NB189_196.out; have ⟨hcz26_0, hcz26_1, hcz26_2, hcz26_3, hcz26_4, hfz26_0, hfz26_1, hfz26_2, hfz26_3, hfz26_4⟩ := bc5 BK196; have ⟨hcz27_0, hcz27_1, hcz27_2, hcz27_3, hcz27_4, hfz27_0, hfz27_1, hfz27_2, hfz27_3, hfz27_4⟩ := bc5 BK189) | ((with_reducible refine gate_callee (f := 62) rfl ?_); refine goesQ (some 40) Try.func62 #[.agg #[.int .i64 a0_0, .int .i64 a0_1, .slice A0_2 l0_2.length c0_2], .agg #[.int .i64 ((rd_T60 (rd_L5 y191 x27_2) x33_3).f0), .int .i64 ((rd_T60 (rd_L5 y191 x27_2) x33_3).f1), .int .i64 ((rd_T60 (rd_L5 y191 x27_2) x33_3).f2), .int .i64 ((rd_T60 (rd_L5 y191 x27_2) x33_3).f3.f0), .int .i64 ((rd_T60 (rd_L5 y191 x27_2) x33_3).f3.f1)]] ?_; (with_reducible refine (impl_isAct.calls k3 a0_0 a0_1 _ _ l0_2 ((rd_T60 (rd_L5 y191 x27_2) x33_3).f0) ((rd_T60 (rd_L5 y191 x27_2) x33_3).f1) ((rd_T60 (rd_L5 y191 x27_2) x33_3).f2) ((rd_T60 (rd_L5 y191 x27_2) x33_3).f3.f0) ((rd_T60 (rd_L5 y191 x27_2) x33_3).f3.f1) true _ ?s1 ?s2 A22.out).mono ?_); (case s1 => exact Kd.C_below HR0_2.out bq); (case s2 => exact HC0_2.out); rintro e w28 ⟨rfl, hb⟩; refine ⟨_, rfl, ?_⟩; replace HO_25 := am (Kd.N_below (by (with_reducible repeat (first | apply Kd.N_alloc | apply Kd.N_drewN | apply Kd.N_drew)); exact (Kd.N_mono (Kd.N_far (p := ⟨gb196, 4, none⟩) (Kd.N_far (p := ⟨gb196, 3, none⟩) (Kd.N_far (p := ⟨gb196, 2, none⟩) (Kd.N_far (p := ⟨gb196, 1, none⟩) (Kd.N_far (p := ⟨gb196, 0, none⟩) (Kd.N_mono HO_25.out (fun k_ hk => (⟨hk, hk.2⟩ : _ ∧ k_ ≠ gb196))) (fun _ hk => hk.2) (.int .i64 ((rd_T60 (rd_L5 y191 x27_2) x33_3).f0))) (fun _ hk => hk.2) (.int .i64 ((rd_T60 (rd_L5 y191 x27_2) x33_3).f1))) (fun _ hk => hk.2) (.int .i64 ((rd_T60 (rd_L5 y191 x27_2) x33_3).f2))) (fun _ hk => hk.2) (.int .i64 ((rd_T60 (rd_L5 y191 x27_2) x33_3).f3.f0))) (fun _ hk => hk.2) (.int .i64 ((rd_T60 (rd_L5 y191 x27_2) x33_3).f3.f1))) (fun _ h_ => h_.1))) hb); replace HO_190003 := am (Kd.V_below (by (with_reducible repeat (first | apply Kd.V_alloc | apply Kd.V_drewN | apply Kd.V_drew)); exact (Kd.V_mono (Kd.V_far (p := ⟨gb196, 4, none⟩) (Kd.V_far (p := ⟨gb196, 3, none⟩) (Kd.V_far (p := ⟨gb196, 2, none⟩) (Kd.V_far (p := ⟨gb196, 1, none⟩) (Kd.V_far (p := ⟨gb196, 0, none⟩) (Kd.V_mono HO_190003.out (fun k_ hk => (⟨hk, hk.2⟩ : _ ∧ k_ ≠ gb196))) (fun _ hk => hk.2) (.int .i64 ((rd_T60 (rd_L5 y191 x27_2) x33_3).f0))) (fun _ hk => hk.2) (.int .i64 ((rd_T60 (rd_L5 y191 x27_2) x33_3).f1))) (fun _ hk => hk.2) (.int .i64 ((rd_T60 (rd_L5 y191 x27_2) x33_3).f2))) (fun _ hk => hk.2) (.int .i64 ((rd_T60 (rd_L5 y191 x27_2) x33_3).f3.f0))) (fun _ hk => hk.2) (.int .i64 ((rd_T60 (rd_L5 y191 x27_2) x33_3).f3.f1))) (fun _ h_ => h_.1))) hb); replace HO_190004 := am (Kd.V_below (by (with_reducible repeat (first | apply Kd.V_alloc | apply Kd.V_drewN | apply Kd.V_drew)); exact (Kd.V_mono (Kd.V_far (p := ⟨gb196, 4, none⟩) (Kd.V_far (p := ⟨gb196, 3, none⟩) (Kd.V_far (p := ⟨gb196, 2, none⟩) (Kd.V_far (p := ⟨gb196, 1, none⟩) (Kd.V_far (p := ⟨gb196, 0, none⟩) (Kd.V_mono HO_190004.out (fun k_ hk => (⟨hk, hk.2⟩ : _ ∧ k_ ≠ gb196))) (fun _ hk => hk.2) (.int .i64 ((rd_T60 (rd_L5 y191 x27_2) x33_3).f0))) (fun _ hk => hk.2) (.int .i64 ((rd_T60 (rd_L5 y191 x27_2) x33_3).f1))) (fun _ hk => hk.2) (.int .i64 ((rd_T60 (rd_L5 y191 x27_2) x33_3).f2))) (fun _ hk => hk.2) (.int .i64 ((rd_T60 (rd_L5 y191 x27_2) x33_3).f3.f0))) (fun _ hk => hk.2) (.int .i64 ((rd_T60 (rd_L5 y191 x27_2) x33_3).f3.f1))) (fun _ h_ => h_.1))) hb); replace BK189 := am (blk_below (g := gb189) (o := .cells #[.int .i64 a0_0, .int .i64 a0_1, .slice A0_2 l0_2.length c0_2, .slice A0_3 l0_3.length c0_3, .slice A0_4 l0_4.length c0_4] 35 (0, 0)) (zp BK189) hb); replace HBR := am (below_step (by repeat (first | (with_reducible first | exact HBR.out | apply below_alloc | apply pw_below_drewN | apply below_drew1 | refine below_set ?_ GRb.out) | exact HBR.out)) hb); replace BK196 := am (blk_below (g := gb196) (o := .cells #[.int .i64 ((rd_T60 (rd_L5 y191 x27_2) x33_3).f0), .int .i64 ((rd_T60 (rd_L5 y191 x27_2) x33_3).f1), .int .i64 ((rd_T60 (rd_L5 y191 x27_2) x33_3).f2), .int .i64 ((rd_T60 (rd_L5 y191 x27_2) x33_3).f3.f0), .int .i64 ((rd_T60 (rd_L5 y191 x27_2) x33_3).f3.f1)] 60 (0, 0)) (zp BK196) hb); replace HB := sb hb; (try clear hb)))
               go_roundg k3
               case measure => have := HJ1.out; have := HK2.out; have := HK3.out; omega
               case rel => exact ⟨(wrap64 (x33_3 + 1)), sq, H', ⟨by have := HJ1.out; have := HK2.out; have := HK3.out; omega⟩, ⟨by (with_reducible repeat (first | apply Kd.N_alloc | apply Kd.N_drewN | apply Kd.N_drew)); exact Kd.N_mono HO_25.out (fun _ hk => ⟨hk.1.1, hk.1.2⟩)⟩, ⟨by (with_reducible repeat (first | apply Kd.V_alloc | apply Kd.V_drewN | apply Kd.V_drew)); exact Kd.V_mono HO_190003.out (fun _ hk => ⟨hk.1.1, ⟨hk.1.2.1, hk.1.2.2⟩⟩)⟩, ⟨by (with_reducible repeat (first | apply Kd.V_alloc | apply Kd.V_drewN | apply Kd.V_drew)); exact Kd.V_mono HO_190004.out (fun _ hk => ⟨hk.1.1, ⟨hk.1.2.1, hk.1.2.2⟩⟩)⟩, ⟨zq BK189⟩, ⟨Kd.C_below HR194_0.out (by repeat (first | (with_reducible first | exact HBR.out | apply below_alloc | apply pw_below_drewN | apply below_drew1 | refine below_set ?_ GRb.out) | exact HBR.out))⟩, ⟨bq⟩⟩
              ·replace c23 := Bool.eq_false_iff.mpr c23
               subst c23
               rw [if_neg (show ¬ (false = true) by decide)] at H
               try dsimp only at H
               obtain rfl := Option.some.inj H
               have p195 : 0 ≤ (x33_3 : Int) := of_decide_eq_true aq
               have q195 : x33_3 < ((rd_L5 y191 x27_2).length : Int) := of_decide_eq_true aq
               obtain ⟨ad195, e195, hx195_0, hx195_1, hx195_2, hx195_3, hx195_4⟩ := at_T60 HR194_0.out x33_3 p195 q195
               cases e195
               replace p195 := eq_true p195
               replace q195 := eq_true q195
               go_wp2_with (first | ((with_reducible refine gate_dst (N := 6) rfl ?_); (try (refine gate_guard (by rfl) ?_; dsimp only)); refine box_event ?hg (N := 6) ?hd (cs := #[.int .i64 0, .int .i64 0, .int .i64 0, .int .i64 0, .int .i64 0]) (t := 60) ?hr ?_; (case hd => rfl); (case hg => rfl); (case hr => first | (go_simp; done) | (go_simp; rfl)); intro gb196 hg w29 hbox hb; have n0_ := am (Kd.N_below (Kd.N_elderB (by (with_reducible repeat (first | apply Kd.N_alloc | apply Kd.N_drewN | apply Kd.N_drew)); exact HO_25.out) gb196 (Nat.le_of_eq hg.symm)) hb); have n1_ := am (Kd.V_below (Kd.V_elderB (by (with_reducible repeat (first | apply Kd.V_alloc | apply Kd.V_drewN | apply Kd.V_drew)); exact HO_190003.out) gb196 (Nat.le_of_eq hg.symm)) hb); have n2_ := am (Kd.V_below (Kd.V_elderB (by (with_reducible repeat (first | apply Kd.V_alloc | apply Kd.V_drewN | apply Kd.V_drew)); exact HO_190004.out) gb196 (Nat.le_of_eq hg.symm)) hb); have n3_ := zb BK189 hb; have n4_ := am (below_step (by repeat (first | (with_reducible first | exact HBR.out | apply below_alloc | apply pw_below_drewN | apply below_drew1 | refine below_set ?_ GRb.out) | exact HBR.out)) hb); have n5_ := sb hb; have GRb := am ((by rw [hg]; exact (below_size (by repeat (first | (with_reducible first | exact HBR.out | apply below_alloc | apply pw_below_drewN | apply below_drew1 | refine below_set ?_ GRb.out) | exact HBR.out)))) : wr.heap.size ≤ gb196); have n6_ := am (hbox); have n7_ := am (gq hg); have n8_ := am (gq hg); have n9_ := nl hg BK189; have n10_ := ng hg BK189; clear HO_25; clear HO_190003; clear HO_190004; clear BK189; clear HBR; clear HB; have HO_25 := n0_; have HO_190003 := n1_; have HO_190004 := n2_; have BK189 := n3_; have HBR := n4_; have HB := n5_; have BK196 := n6_; have GW196 := n7_; have GE196 := n8_; have NB189_196 := n9_; have NB196_189 := n10_; clear n0_ n1_ n2_ n3_ n4_ n5_ n6_ n7_ n8_ n9_ n10_; clear hb hbox hg; have hnb30 := NB196_189.out; have hnc30 := NB189_196.out; have ⟨hcz31_0, hcz31_1, hcz31_2, hcz31_3, hcz31_4, hfz31_0, hfz31_1, hfz31_2, hfz31_3, hfz31_4⟩ := bc5 BK196; have ⟨hcz32_0, hcz32_1, hcz32_2, hcz32_3, hcz32_4, hfz32_0, hfz32_1, hfz32_2, hfz32_3, hfz32_4⟩ := bc5 BK189) | ((with_reducible refine gate_callee (f := 62) rfl ?_); refine goesQ (some 40) Try.func62 #[.agg #[.int .i64 a0_0, .int .i64 a0_1, .slice A0_2 l0_2.length c0_2], .agg #[.int .i64 ((rd_T60 (rd_L5 y191 x27_2) x33_3).f0), .int .i64 ((rd_T60 (rd_L5 y191 x27_2) x33_3).f1), .int .i64 ((rd_T60 (rd_L5 y191 x27_2) x33_3).f2), .int .i64 ((rd_T60 (rd_L5 y191 x27_2) x33_3).f3.f0), .int .i64 ((rd_T60 (rd_L5 y191 x27_2) x33_3).f3.f1)]] ?_; (with_reducible refine (impl_isAct.calls k3 a0_0 a0_1 _ _ l0_2 ((rd_T60 (rd_L5 y191 x27_2) x33_3).f0) ((rd_T60 (rd_L5 y191 x27_2) x33_3).f1) ((rd_T60 (rd_L5 y191 x27_2) x33_3).f2) ((rd_T60 (rd_L5 y191 x27_2) x33_3).f3.f0) ((rd_T60 (rd_L5 y191 x27_2) x33_3).f3.f1) false _ ?s1 ?s2 A22.out).mono ?_); (case s1 => exact Kd.C_below HR0_2.out bq); (case s2 => exact HC0_2.out); rintro e w33 ⟨rfl, hb⟩; refine ⟨_, rfl, ?_⟩; replace HO_25 := am (Kd.N_below (by (with_reducible repeat (first | apply Kd.N_alloc | apply Kd.N_drewN | apply Kd.N_drew)); exact (Kd.N_mono (Kd.N_far (p := ⟨gb196, 4, none⟩) (Kd.N_far (p := ⟨gb196, 3, none⟩) (Kd.N_far (p := ⟨gb196, 2, none⟩) (Kd.N_far (p := ⟨gb196, 1, none⟩) (Kd.N_far (p := ⟨gb196, 0, none⟩) (Kd.N_mono HO_25.out (fun k_ hk => (⟨hk, hk.2⟩ : _ ∧ k_ ≠ gb196))) (fun _ hk => hk.2) (.int .i64 ((rd_T60 (rd_L5 y191 x27_2) x33_3).f0))) (fun _ hk => hk.2) (.int .i64 ((rd_T60 (rd_L5 y191 x27_2) x33_3).f1))) (fun _ hk => hk.2) (.int .i64 ((rd_T60 (rd_L5 y191 x27_2) x33_3).f2))) (fun _ hk => hk.2) (.int .i64 ((rd_T60 (rd_L5 y191 x27_2) x33_3).f3.f0))) (fun _ hk => hk.2) (.int .i64 ((rd_T60 (rd_L5 y191 x27_2) x33_3).f3.f1))) (fun _ h_ => h_.1))) hb); replace HO_190003 := am (Kd.V_below (by (with_reducible repeat (first | apply Kd.V_alloc | apply Kd.V_drewN | apply Kd.V_drew)); exact (Kd.V_mono (Kd.V_far (p := ⟨gb196, 4, none⟩) (Kd.V_far (p := ⟨gb196, 3, none⟩) (Kd.V_far (p := ⟨gb196, 2, none⟩) (Kd.V_far (p := ⟨gb196, 1, none⟩) (Kd.V_far (p := ⟨gb196, 0, none⟩) (Kd.V_mono HO_190003.out (fun k_ hk => (⟨hk, hk.2⟩ : _ ∧ k_ ≠ gb196))) (fun _ hk => hk.2) (.int .i64 ((rd_T60 (rd_L5 y191 x27_2) x33_3).f0))) (fun _ hk => hk.2) (.int .i64 ((rd_T60 (rd_L5 y191 x27_2) x33_3).f1))) (fun _ hk => hk.2) (.int .i64 ((rd_T60 (rd_L5 y191 x27_2) x33_3).f2))) (fun _ hk => hk.2) (.int .i64 ((rd_T60 (rd_L5 y191 x27_2) x33_3).f3.f0))) (fun _ hk => hk.2) (.int .i64 ((rd_T60 (rd_L5 y191 x27_2) x33_3).f3.f1))) (fun _ h_ => h_.1))) hb); replace HO_190004 := am (Kd.V_below (by (with_reducible repeat (first | apply Kd.V_alloc | apply Kd.V_drewN | apply Kd.V_drew)); exact (Kd.V_mono (Kd.V_far (p := ⟨gb196, 4, none⟩) (Kd.V_far (p := ⟨gb196, 3, none⟩) (Kd.V_far (p := ⟨gb196, 2, none⟩) (Kd.V_far (p := ⟨gb196, 1, none⟩) (Kd.V_far (p := ⟨gb196, 0, none⟩) (Kd.V_mono HO_190004.out (fun k_ hk => (⟨hk, hk.2⟩ : _ ∧ k_ ≠ gb196))) (fun _ hk => hk.2) (.int .i64 ((rd_T60 (rd_L5 y191 x27_2) x33_3).f0))) (fun _ hk => hk.2) (.int .i64 ((rd_T60 (rd_L5 y191 x27_2) x33_3).f1))) (fun _ hk => hk.2) (.int .i64 ((rd_T60 (rd_L5 y191 x27_2) x33_3).f2))) (fun _ hk => hk.2) (.int .i64 ((rd_T60 (rd_L5 y191 x27_2) x33_3).f3.f0))) (fun _ hk => hk.2) (.int .i64 ((rd_T60 (rd_L5 y191 x27_2) x33_3).f3.f1))) (fun _ h_ => h_.1))) hb); replace BK189 := am (blk_below (g := gb189) (o := .cells #[.int .i64 a0_0, .int .i64 a0_1, .slice A0_2 l0_2.length c0_2, .slice A0_3 l0_3.length c0_3, .slice A0_4 l0_4.length c0_4] 35 (0, 0)) (zp BK189) hb); replace HBR := am (below_step (by repeat (first | (with_reducible first | exact HBR.out | apply below_alloc | apply pw_below_drewN | apply below_drew1 | refine below_set ?_ GRb.out) | exact HBR.out)) hb); replace BK196 := am (blk_below (g := gb196) (o := .cells #[.int .i64 ((rd_T60 (rd_L5 y191 x27_2) x33_3).f0), .int .i64 ((rd_T60 (rd_L5 y191 x27_2) x33_3).f1), .int .i64 ((rd_T60 (rd_L5 y191 x27_2) x33_3).f2), .int .i64 ((rd_T60 (rd_L5 y191 x27_2) x33_3).f3.f0), .int .i64 ((rd_T60 (rd_L5 y191 x27_2) x33_3).f3.f1)] 60 (0, 0)) (zp BK196) hb); replace HB := sb hb; (try clear hb)))
               go_ret
               exact ⟨eq_, bq⟩
             ·rw [if_neg c21] at H
              exact absurd H (by simp)
            ·rw [if_neg c20] at H
             exact absurd H (by simp)
           ·rw [if_neg c19] at H
            have c19b0 : decide (x33_3 < ((rd_L5 y191 x27_2).length : Int)) = false := decide_eq_false c19
            clear c19
            have H' := am H
            clear H
            go_wp2
            go_roundg k3
            case measure => have := HJ1.out; have := HK2.out; have := HK3.out; omega
            case rel => exact ⟨(wrap64 (x27_2 + 1)), sq, H', ⟨by have := HJ1.out; have := HK2.out; have := HK3.out; omega⟩, ⟨by (with_reducible repeat (first | apply Kd.N_alloc | apply Kd.N_drewN | apply Kd.N_drew)); exact HO_25.out⟩, ⟨by (with_reducible repeat (first | apply Kd.V_alloc | apply Kd.V_drewN | apply Kd.V_drew)); exact HO_190003.out⟩, ⟨by (with_reducible repeat (first | apply Kd.V_alloc | apply Kd.V_drewN | apply Kd.V_drew)); exact HO_190004.out⟩, ⟨zq BK189⟩, ⟨bq⟩⟩
        ·rw [if_neg c18] at H
         exact absurd H (by simp)
       ·rw [if_neg c17] at H
        exact absurd H (by simp)
      ·rw [if_neg c16] at H
       have c16b0 : decide (x27_2 < (y191.length : Int)) = false := decide_eq_false c16
       clear c16
       obtain rfl := Option.some.inj H
       go_wp2
       go_ret
       exact ⟨eq_, bq⟩


/-! ### impl_copyBoard: function 67 -/
def impl_copyBoard.f (a0_0 : Int) (a0_1 : Int) (l0_2 : List (S58)) : Option (Int × Int × (List (S58))) := (some (([] : List (S58)) : List (S58))).bind fun y274 => (if y274.length + l0_2.length < 8796093022208 then (some (a0_0, a0_1, (y274 ++ l0_2))) else (none))
def impl_copyBoard.T1 : Bool × List (List Nat × List Nat) := (true, [([], []), ([0], [0]), ([], []), ([2], [2]), ([], []), ([], []), ([5], [5]), ([4, 6], [4, 6]), ([1, 3, 7], [1, 3, 7]), ([8, 7, 0, 1, 2, 3, 4, 5, 6, 7, 8], [8])])
def impl_copyBoard.B1 : List Nat := [0, 1, 0, 4, 0, 0, 32, 112, 255, 511]
theorem impl_copyBoard.tab1 : rtab .any (opsOf Try.f67 1) = impl_copyBoard.T1 := by kernel_rfl
theorem impl_copyBoard.bits1 : waitsOk impl_copyBoard.T1.2 impl_copyBoard.B1 = true := by kernel_rfl
set_option maxHeartbeats 8000000 in
set_option maxRecDepth 100000 in
theorem impl_copyBoard.calls (a0_0 : Int) (a0_1 : Int) (A0_2 : Option Addr) (c0_2 : Nat) (l0_2 : List (S58)) (r1 : Int) (r2 : Int) (r3 : List (S58)) (w : World) (hr0_2 : Kd.C k58 w A0_2 l0_2.length l0_2) (hc0_2 : l0_2.length ≤ c0_2) (h : impl_copyBoard.f a0_0 a0_1 l0_2 = some (r1, r2, r3)) :
  Calls Try.prog 67 #[.agg #[.int .i64 a0_0, .int .i64 a0_1, .slice A0_2 l0_2.length c0_2]] w fun e w' => ∃ v2_ : Value, e = .returned (.agg #[.int .i64 r1, .int .i64 r2, v2_]) ∧ Kd.R k58 58 w' w.heap.size (fun _ => True) v2_ r3 ∧ Below w.heap.size w w' := by
 have hu32 := Try.underlying32
 have HR0_2 := am hr0_2
 have HC0_2 := am hc0_2
 clear hr0_2 hc0_2
 have HB := am (Below.refl w.heap.size w)
 have H : ((some (([] : List (S58)) : List (S58))).bind fun y274 => (if y274.length + l0_2.length < 8796093022208 then (some (a0_0, a0_1, (y274 ++ l0_2))) else (none))) = some (r1, r2, r3) := h
 clear h
 obtain ⟨y274, hy274⟩ : ∃ y_ : List (S58), y_ = (([] : List (S58))) := ⟨_, rfl⟩
 replace H : (if y274.length + l0_2.length < 8796093022208 then (some (a0_0, a0_1, (y274 ++ l0_2))) else (none)) = some (r1, r2, r3) := by first | (rw [hy274]; with_reducible exact H) | (have H2_ := (Option.bind_some _ _).symm.trans H; rw [hy274]; with_reducible exact H2_) | (have H2_ := (Option.bind_some _ _).symm.trans H; with_reducible exact H2_) | with_reducible exact H | (rw [hy274]; exact H) | exact H
 have Ny274 := am hy274
 clear hy274
 by_cases c2 : y274.length + l0_2.length < 8796093022208
 ·rw [if_pos c2] at H
  have LMc2 := am c2
  clear c2
  obtain ⟨y277, hy277⟩ : ∃ y_ : List (S58), y_ = (y274 ++ l0_2) := ⟨_, rfl⟩
  replace H : (some (a0_0, a0_1, y277)) = some (r1, r2, r3) := by first | (rw [hy277]; with_reducible exact H) | (have H2_ := (Option.bind_some _ _).symm.trans H; rw [hy277]; with_reducible exact H2_) | (have H2_ := (Option.bind_some _ _).symm.trans H; with_reducible exact H2_) | with_reducible exact H | (rw [hy277]; exact H) | exact H
  have Ny277 := am hy277
  clear hy277
  simp only [Option.some.injEq, Prod.mk.injEq] at H
  obtain ⟨rfl, rfl, rfl⟩ := H
  go_enter Try.func67, Try.ntmps67
  try go_wp2_with (first | ((with_reducible refine gate_dst (N := 1) rfl ?_); refine box_event ?hg (N := 1) ?hd (cs := #[.int .i64 a0_0, .int .i64 a0_1, .slice A0_2 l0_2.length c0_2]) (t := 32) ?hr ?_; (case hd => rfl); (case hg => rfl); (case hr => first | (go_simp; done) | (go_simp; rfl)); intro gb272 hg w3 hbox hb; have BK272 := am (hbox); have GW272 := am (gq hg); have GE272 := am (gq hg); replace HB := sb hb; clear hb hbox hg) | ((with_reducible refine gate_dst (N := 2) rfl ?_); refine box_event ?hg (N := 2) ?hd (cs := #[.int .i64 0, .int .i64 0, .slice none 0 0]) (t := 32) ?hr ?_; (case hd => rfl); (case hg => rfl); (case hr => first | (go_simp; done) | (go_simp; rfl)); intro gb273 hg w4 hbox hb; have BK273 := am (hbox); have GW273 := am (gq hg); have GE273 := am (gq hg); replace HB := sb hb; have NB272_273 := nl hg BK272; have NB273_272 := ng hg BK272; replace BK272 := zb BK272 hb; clear hb hbox hg))
  replace BK272 := am (blk_drew BK272.out)
  replace BK273 := am (blk_drew BK273.out)
  replace HB := am (below_drew1 HB.out)
  refine start_ (n := 10) (S := fun w' => w'.cell? ⟨gb272, 0, none⟩ = some (.int .i64 a0_0) ∧ w'.cell? ⟨gb272, 1, none⟩ = some (.int .i64 a0_1) ∧ w'.cell? ⟨gb272, 2, none⟩ = some (.slice A0_2 l0_2.length c0_2)) (ds := []) #[false, false, false, false, false, false, false, false, false, false] (by kernel_rfl) rfl rfl cl (fun hHeld => ?_); refine with_tabW impl_copyBoard.tab1 impl_copyBoard.bits1 (fun HT_ HW_ => ?_)
  generalize w4.drew = w5 at BK272 BK273 HB hHeld ⊢
  refine pure_ (i := 0) (N := some 3) (v := ?_) (a' := ?_) #[true, false, false, false, false, false, false, false, false, false] rfl rfl (any_of HT_.out (by kernel_rfl)) (fun _ _ _ h => h) (Or.inl ⟨by rfl, ?_⟩) ?_ ?_
  rotate_left
  ·intro w'
   go_simp
   with_reducible rfl
  rotate_left
  ·simp only [Act.put, List.setIfInBounds_toArray, List.set_cons_zero, List.set_cons_succ, i64_w, i32_w]
   rfl
  refine pure_ (i := 2) (N := some 5) (v := ?_) (a' := ?_) #[true, false, true, false, false, false, false, false, false, false] rfl rfl (any_of HT_.out (by kernel_rfl)) (fun _ _ _ h => h) (Or.inl ⟨by rfl, ?_⟩) ?_ ?_
  rotate_left
  ·intro w'
   go_simp
   with_reducible rfl
  rotate_left
  ·simp only [Act.put, List.setIfInBounds_toArray, List.set_cons_zero, List.set_cons_succ, i64_w, i32_w]
   rfl
  refine pure_ (i := 5) (N := some 8) (v := ?_) (a' := ?_) #[true, false, true, false, false, true, false, false, false, false] rfl rfl (any_of HT_.out (by kernel_rfl)) (fun _ _ _ h => h) (Or.inl ⟨by rfl, ?_⟩) ?_ ?_
  rotate_left
  ·intro w'
   go_simp
   with_reducible rfl
  rotate_left
  ·simp only [Act.put, List.setIfInBounds_toArray, List.set_cons_zero, List.set_cons_succ, i64_w, i32_w]
   rfl
  refine take_ (i := 1) (N := some 4) (v := ?_) (a' := ?_) #[true, true, true, false, false, true, false, false, false, false] rfl rfl (take_ofW HT_.out HW_.out (by kernel_rfl)) (fun _ _ _ h => h) (Or.inl ⟨by rfl, ?_⟩) hHeld ?_ ?_
  rotate_left
  ·rintro w' ⟨s0, s1, s2⟩
   go_simp
   with_reducible rfl
  rotate_left
  ·simp only [Act.put, List.setIfInBounds_toArray, List.set_cons_zero, List.set_cons_succ, i64_w, i32_w]
   rfl
  refine take_ (i := 3) (N := some 6) (v := ?_) (a' := ?_) #[true, true, true, true, false, true, false, false, false, false] rfl rfl (take_ofW HT_.out HW_.out (by kernel_rfl)) (fun _ _ _ h => h) (Or.inl ⟨by rfl, ?_⟩) hHeld ?_ ?_
  rotate_left
  ·rintro w' ⟨s0, s1, s2⟩
   go_simp
   with_reducible rfl
  rotate_left
  ·simp only [Act.put, List.setIfInBounds_toArray, List.set_cons_zero, List.set_cons_succ, i64_w, i32_w]
   rfl
  refine take_ (i := 6) (N := some 9) (v := ?_) (a' := ?_) #[true, true, true, true, false, true, true, false, false, false] rfl rfl (take_ofW HT_.out HW_.out (by kernel_rfl)) (fun _ _ _ h => h) (Or.inl ⟨by rfl, ?_⟩) hHeld ?_ ?_
  rotate_left
  ·rintro w' ⟨s0, s1, s2⟩
   go_simp
   with_reducible rfl
  rotate_left
  ·simp only [Act.put, List.setIfInBounds_toArray, List.set_cons_zero, List.set_cons_succ, i64_w, i32_w]
   rfl
  refine one_ (i := 4) (N := some 7) #[true, true, true, true, true, true, true, false, false, false] rfl rfl (one_of HT_.out (by kernel_rfl)) (by decide) (fun K hK => ?_)
  refine Kd.R_lit_step k58 _ 58 ?hg (N := 7) ?hd (xs := ([] : List (S58))) (inner := []) (ok := fun _ => True) (okp := fun _ => True) ?hr ?hp (fun _ hk => hk) trivial (Below.refl _ _) (Nat.le_refl _) (by simp) ?_; (case hd => rfl); (case hg => rfl); (case hr => first | (go_simp; done) | (go_simp; rfl)); (case hp => exact (Reps.none _ _))
  intro v275 w6 ho7 hb hg_ hnew_
  clear hg_ hnew_
  (first | rw [← Ny274.out] at ho7 | (simp only [Int.reduceToNat] at ho7; rw [← Ny274.out] at ho7))
  have HO276 := rl ho7
  replace BK272 := zb BK272 hb
  replace BK273 := zb BK273 hb
  replace HB := sb hb
  clear hb ho7
  refine hK.out _ _ cl (fun hHeld => ?_)
  clear hK K
  refine norm_ (a' := ?_) ?_ ?_
  rotate_left
  ·show Act.put _ (some 7) _ = _
   simp only [Act.put, List.setIfInBounds_toArray, List.set_cons_zero, List.set_cons_succ, i64_w, i32_w]
   rfl
  refine one_ (i := 7) (N := some 10) #[true, true, true, true, true, true, true, true, false, false] rfl rfl (one_of HT_.out (by kernel_rfl)) (by decide) (fun K hK => ?_)
  refine Kd.R_append_rows_step k58 (w0 := w) w.heap.size (by rfl) (.tmp 7) (.tmp 9) 30 58 (.agg #[(.int .i64 0), (.int .i64 0)]) 16 rfl Try.underlying30 info58 rfl (by decide) (by omega) v275 y274 l0_2 _ _ _ (fun _ => True) (fun _ => False) rfl rfl ?aO ?aR (fun _ _ h => h) (fun _ h => h.elim) ?aF ?aB ?aS ?aL ?_
  (case aR => repeat (first | exact (Kd.C_below HR0_2.out HB.out) | (with_reducible refine Kd.C_alloc ?_ _) | (with_reducible refine Kd.C_drewN ?_ _) | (with_reducible refine Kd.C_drew ?_)))
  (case aB => exact bq)
  (case aF => exact (fun _ _ => trivial))
  (case aO => exact (rq HO276))
  (case aS => exact (below_size bq))
  (case aL => have := LMc2.out; omega)
  intro v278 w8 ho hb hg hat
  rw [← Ny277.out] at ho
  have n0_ := am (blk_grown (g := gb272) (o := .cells #[.int .i64 a0_0, .int .i64 a0_1, .slice A0_2 l0_2.length c0_2] 32 (0, 0)) (zq BK272) hg (Kd.R_ne HO276.out BK272.out (by decide)))
  have n1_ := am (blk_grown (g := gb273) (o := .cells #[.int .i64 0, .int .i64 0, .slice none 0 0] 32 (0, 0)) (zq BK273) hg (Kd.R_ne HO276.out BK273.out (by decide)))
  have n2_ := am (hb)
  have n3_ := am (ho)
  clear BK272 BK273 HB HO276
  have BK272 := n0_
  have BK273 := n1_
  have HB := n2_
  have HO279 := n3_
  clear n0_ n1_ n2_ n3_ ho hb hg hat
  obtain ⟨Ao9, co9, eo9⟩ := Kd.R_slice HO279.out
  (first | subst eo9 | (injection eo9 with f1_ f2_ f3_; have f4_ := f1_.symm; have f5_ := f3_.symm; clear f1_ f2_ f3_; subst f4_; subst f5_))
  refine hK.out _ _ cl (fun hHeld => ?_)
  clear hK K
  refine norm_ (a' := ?_) ?_ ?_
  rotate_left
  ·show Act.put _ (some 10) _ = _
   simp only [Act.put, List.setIfInBounds_toArray, List.set_cons_zero, List.set_cons_succ, i64_w, i32_w]
   rfl
  refine pure_ (i := 8) (N := some 11) (v := ?_) (a' := ?_) #[true, true, true, true, true, true, true, true, true, false] rfl rfl (any_of HT_.out (by kernel_rfl)) (fun _ _ _ h => h) (Or.inl ⟨by rfl, ?_⟩) ?_ ?_
  rotate_left
  ·intro w'
   go_simp
   with_reducible rfl
  rotate_left
  ·simp only [Act.put, List.setIfInBounds_toArray, List.set_cons_zero, List.set_cons_succ, i64_w, i32_w]
   rfl
  refine one_ (i := 9) (N := none) #[true, true, true, true, true, true, true, true, true, true] rfl rfl (one_of HT_.out (by kernel_rfl)) (by decide) (fun K hK => ?_)
  have hs10 : w8.cell? ⟨gb273, 0, none⟩ = some (.int .i64 0) := (blk_cell BK273.out 0).trans rfl
  have hfs10 := blk_frozen BK273.out 0
  have hns10_0 := NB272_273.out
  have hms10_0 := NB273_272.out
  have hs11 : w8.cell? ⟨gb273, 1, none⟩ = some (.int .i64 0) := (blk_cell BK273.out 1).trans rfl
  have hfs11 := blk_frozen BK273.out 1
  have hns11_0 := NB272_273.out
  have hms11_0 := NB273_272.out
  have hs12 : w8.cell? ⟨gb273, 2, none⟩ = some (.slice none 0 0) := (blk_cell BK273.out 2).trans rfl
  have hfs12 := blk_frozen BK273.out 2
  have hns12_0 := NB272_273.out
  have hms12_0 := NB273_272.out
  refine skip_ (w1 := ?_) (by rfl) rfl ?_ ?_
  rotate_left
  ·go_simp
   rfl
  refine hK.out _ _ (chf hHeld) (fun hHeld => ?_)
  clear hK K
  refine done_ (done_of HT_.out (by kernel_rfl)) ?_
  try go_wp2
  refine bodyPost_ret (results_cell_row rfl _ _ gb273 32 #[.int .i64 a0_0, .int .i64 a0_1, .slice Ao9 y277.length co9] (0, 0) _ rfl (zp BK273) Try.underlying32 rfl (by kernel_rfl)) rfl ?_
  exact ⟨_, eq_, Kd.R_mono (ff HO279 BK273) (fun _ hk => trivial), bq⟩
 ·rw [if_neg c2] at H
  exact absurd H (by simp)



end Go.Proofs.Ytkkgjljcgnegpaa.Pall
