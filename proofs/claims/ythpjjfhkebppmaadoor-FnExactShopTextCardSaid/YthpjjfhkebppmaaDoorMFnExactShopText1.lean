import Derived.Test.YthpjjfhkebppmaaDoorMFnExactShopText0
namespace Go.Proofs.YthpjjfhkebppmaaDoor.Pall
open Go.RowKit Go.Proofs.YthpjjfhkebppmaaDoorW.PrintWords Go.Proofs.YthpjjfhkebppmaaDoorW.PrintLast Go.Proofs.YthpjjfhkebppmaaDoorW.PrintMore
attribute [local go_sem] max2_int min2_int max_two min_two max_three min_three max_four min_four   -- for this text's walks alone
set_option linter.unusedVariables false
set_option linter.unusedSimpArgs false
set_option maxHeartbeats 8000000
set_option maxRecDepth 100000
def laws_eqIntS.l0 : Nat → List Int → List Int → Int → Option (Bool)
 | 0, _, _, _ => none
 | k + 1, x0, x1, x5 => if x5 < (x0.length : Int) then (if 0 ≤ x5 then (if x5 < (x1.length : Int) then (if (rd x0 x5) = (rd x1 x5) then (laws_eqIntS.l0 k x0 x1 (wrap64 (x5 + 1))) else (some false)) else (none)) else (none)) else (some true)
def laws_eqIntS.f (k : Nat) (l0 : List Int) (l1 : List Int) : Option (Bool) := if (l0.length : Int) = (l1.length : Int) then (laws_eqIntS.l0 k l0 l1 0) else (some false)
theorem laws_eqIntS.calls (k : Nat) (A0 : Option Addr) (c0 : Nat) (l0 : List Int) (A1 : Option Addr) (c1 : Nat) (l1 : List Int) (r : Bool) (w : World) (hr0 : Kd.C (Kd.int .i64) w A0 l0.length l0) (hc0 : l0.length ≤ c0) (hr1 : Kd.C (Kd.int .i64) w A1 l1.length l1) (hc1 : l1.length ≤ c1) (h : laws_eqIntS.f k l0 l1 = some r) :
  Calls Tryd.prog 17 #[.slice A0 l0.length c0, .slice A1 l1.length c1] w fun e w' => e = .returned (.bool r) ∧ Drawn0 w w' := by
 have HR0 := am hr0; have HC0 := am hc0; clear hr0 hc0; have HR1 := am hr1; have HC1 := am hc1; clear hr1 hc1; have H := h; clear h
 unfold laws_eqIntS.f at H
 by_cases c3 : (l0.length : Int) = (l1.length : Int)
 ·rw [if_pos c3] at H; have c3b0 : ((l0.length : Int) == (l1.length : Int)) = true := beq_iff_eq.mpr c3; have c3b1 : ((l0.length : Int) != (l1.length : Int)) = false := bne_eq_false_iff_eq.mpr c3; have c3b2 : (l0.length == l1.length) = true := by first | simpa using c3 | (simp at c3 ⊢; omega)
  clear c3; have H' := am H; clear H
  go_enter Tryd.func17, Tryd.ntmps17
  go_wp2
  repeat (go_quiet (fail); try go_wp2)
  go_loopg [5] k (fun kq v5 w' => ∃ (x5_1 : Int), v5 = .int .i64 x5_1 ∧ Aside0 (laws_eqIntS.l0 kq l0 l1 x5_1 = some r) ∧ Aside0 (kq ≤ k) ∧ Drawn0 w w')
  case atStart => exact ⟨(0), sq, H', ⟨Nat.le_refl _⟩, by repeat (first | exact Drawn0.refl _ | apply Drawn0.step)⟩
  case round =>
   clear H'; try clear c3b0
   try clear c3b1
   try clear c3b2
   obtain ⟨x5_1, rfl, HA, HK1, ⟨m1, rfl⟩⟩ := hrel
   cases gk with
   | zero => exact absurd HA.out (by simp [laws_eqIntS.l0])
   | succ k1 =>
    have H := HA.out; clear HA; simp only [laws_eqIntS.l0] at H; by_cases c4 : x5_1 < (l0.length : Int)
    ·rw [if_pos c4] at H; have c4b0 : decide (x5_1 < (l0.length : Int)) = true := decide_eq_true c4; clear c4; by_cases c5 : 0 ≤ x5_1
     ·rw [if_pos c5] at H; have c5b0 : decide (0 ≤ x5_1) = true := decide_eq_true c5; clear c5; by_cases c6 : x5_1 < (l1.length : Int)
      ·rw [if_pos c6] at H; have c6b0 : decide (x5_1 < (l1.length : Int)) = true := decide_eq_true c6; clear c6; by_cases c7 : (rd l0 x5_1) = (rd l1 x5_1)
       ·rw [if_pos c7] at H; have c7b0 : ((rd l0 x5_1) == (rd l1 x5_1)) = true := beq_iff_eq.mpr c7; have c7b1 : ((rd l0 x5_1) != (rd l1 x5_1)) = false := bne_eq_false_iff_eq.mpr c7; clear c7; have H' := am H; clear H; have p227 : 0 ≤ (x5_1 : Int) := of_decide_eq_true aq; have q227 : x5_1 < (l0.length : Int) := of_decide_eq_true aq; obtain ⟨ad227, e227, hx227_0⟩ := Kd.at_int HR0.out x5_1 p227 q227
        cases e227
        replace p227 := eq_true p227; replace q227 := eq_true q227; have p228 : 0 ≤ (x5_1 : Int) := of_decide_eq_true aq; have q228 : x5_1 < (l1.length : Int) := of_decide_eq_true aq; obtain ⟨ad228, e228, hx228_0⟩ := Kd.at_int HR1.out x5_1 p228 q228
        cases e228
        replace p228 := eq_true p228; replace q228 := eq_true q228
        go_wp2
        repeat (go_quiet (fail); try go_wp2)
        go_roundg k1
        case measure => have := HK1.out; omega
        case rel => exact ⟨(wrap64 (x5_1 + 1)), sq, H', ⟨by have := HK1.out; omega⟩, by repeat (first | exact Drawn0.refl _ | apply Drawn0.step)⟩
       rw [if_neg c7] at H; have c7b0 : ((rd l0 x5_1) == (rd l1 x5_1)) = false := beq_eq_false_iff_ne.mpr c7; have c7b1 : ((rd l0 x5_1) != (rd l1 x5_1)) = true := bne_iff_ne.mpr c7; obtain rfl := Option.some.inj H; have p227 : 0 ≤ (x5_1 : Int) := of_decide_eq_true aq; have q227 : x5_1 < (l0.length : Int) := of_decide_eq_true aq; obtain ⟨ad227, e227, hx227_0⟩ := Kd.at_int HR0.out x5_1 p227 q227
       cases e227
       replace p227 := eq_true p227; replace q227 := eq_true q227; have p228 : 0 ≤ (x5_1 : Int) := of_decide_eq_true aq; have q228 : x5_1 < (l1.length : Int) := of_decide_eq_true aq; obtain ⟨ad228, e228, hx228_0⟩ := Kd.at_int HR1.out x5_1 p228 q228
       cases e228
       replace p228 := eq_true p228; replace q228 := eq_true q228
       go_wp2
       repeat (go_quiet (fail); try go_wp2)
       go_ret
       exact ⟨sq, by repeat (first | exact Drawn0.refl _ | apply Drawn0.step)⟩
      rw [if_neg c6] at H; exact absurd H (by simp)
     rw [if_neg c5] at H; exact absurd H (by simp)
    rw [if_neg c4] at H; have c4b0 : decide (x5_1 < (l0.length : Int)) = false := decide_eq_false c4; clear c4; obtain rfl := Option.some.inj H
    go_wp2
    repeat (go_quiet (fail); try go_wp2)
    go_ret
    exact ⟨sq, by repeat (first | exact Drawn0.refl _ | apply Drawn0.step)⟩
 rw [if_neg c3] at H; have c3b0 : ((l0.length : Int) == (l1.length : Int)) = false := beq_eq_false_iff_ne.mpr c3; have c3b1 : ((l0.length : Int) != (l1.length : Int)) = true := bne_iff_ne.mpr c3; have c3b2 : (l0.length == l1.length) = false := by first | simpa using c3 | (simp at c3 ⊢; omega)
 obtain rfl := Option.some.inj H
 go_enter Tryd.func17, Tryd.ntmps17
 go_wp2
 repeat (go_quiet (fail); try go_wp2)
 go_ret
 exact ⟨sq, by repeat (first | exact Drawn0.refl _ | apply Drawn0.step)⟩



def laws_eqLoan.f (a0_0 : Int) (a0_1 : Int) (a0_2 : Int) (a0_3 : Int) (a1_0 : Int) (a1_1 : Int) (a1_2 : Int) (a1_3 : Int) : Option (Bool) := if a0_0 = a1_0 then (if a0_1 = a1_1 then (if a0_2 = a1_2 then (if a0_3 = a1_3 then (some true) else (some false)) else (some false)) else (some false)) else (some false)
theorem laws_eqLoan.calls (a0_0 : Int) (a0_1 : Int) (a0_2 : Int) (a0_3 : Int) (a1_0 : Int) (a1_1 : Int) (a1_2 : Int) (a1_3 : Int) (r : Bool) (w : World) (h : laws_eqLoan.f a0_0 a0_1 a0_2 a0_3 a1_0 a1_1 a1_2 a1_3 = some r) :
  Calls Tryd.prog 27 #[.agg #[.int .i64 a0_0, .int .i64 a0_1, .int .i64 a0_2, .int .i64 a0_3], .agg #[.int .i64 a1_0, .int .i64 a1_1, .int .i64 a1_2, .int .i64 a1_3]] w fun e w' => e = .returned (.bool r) ∧ Below w.heap.size w w' := by
 have hu40 := Tryd.underlying40; have HB := am (Below.refl w.heap.size w); have H := h; clear h
 unfold laws_eqLoan.f at H
 by_cases c3 : a0_0 = a1_0
 ·rw [if_pos c3] at H; have c3b0 : (a0_0 == a1_0) = true := beq_iff_eq.mpr c3; have c3b1 : (a0_0 != a1_0) = false := bne_eq_false_iff_eq.mpr c3; clear c3; by_cases c4 : a0_1 = a1_1
  ·rw [if_pos c4] at H; have c4b0 : (a0_1 == a1_1) = true := beq_iff_eq.mpr c4; have c4b1 : (a0_1 != a1_1) = false := bne_eq_false_iff_eq.mpr c4; clear c4; by_cases c5 : a0_2 = a1_2
   ·rw [if_pos c5] at H; have c5b0 : (a0_2 == a1_2) = true := beq_iff_eq.mpr c5; have c5b1 : (a0_2 != a1_2) = false := bne_eq_false_iff_eq.mpr c5; clear c5; by_cases c6 : a0_3 = a1_3
    ·rw [if_pos c6] at H; have c6b0 : (a0_3 == a1_3) = true := beq_iff_eq.mpr c6; have c6b1 : (a0_3 != a1_3) = false := bne_eq_false_iff_eq.mpr c6; clear c6; obtain rfl := Option.some.inj H
     go_enter Tryd.func27, Tryd.ntmps27
     go_wp2_with (first | ((with_reducible refine gate_dst (N := 2) rfl ?_); refine box_event ?hg (N := 2) ?hd (cs := #[.int .i64 a0_0, .int .i64 a0_1, .int .i64 a0_2, .int .i64 a0_3]) (t := 40) ?hr ?_; (case hd | hg => rfl); (case hr => go_simp; try rfl); intro gb229 hg w7 hbox hb; have BK229 := am (hbox); have GW229 := am (gq hg); have GE229 := am (gq hg); replace HB := sb hb; clear hb hbox hg) | ((with_reducible refine gate_dst (N := 3) rfl ?_); refine box_event ?hg (N := 3) ?hd (cs := #[.int .i64 a1_0, .int .i64 a1_1, .int .i64 a1_2, .int .i64 a1_3]) (t := 40) ?hr ?_; (case hd | hg => rfl); (case hr => go_simp; try rfl); intro gb230 hg w8 hbox hb; have BK230 := am (hbox); have GW230 := am (gq hg); have GE230 := am (gq hg); replace HB := sb hb; have ⟨NB229_230, NB230_229⟩ := nn hg BK229; replace BK229 := zb BK229 hb; clear hb hbox hg; have hnb9 := NB229_230.out; have hnc9 := NB230_229.out; have ⟨b100, b101, b102, b103, d100, d101, d102, d103⟩ := bc4 BK229; have ⟨b110, b111, b112, b113, d110, d111, d112, d113⟩ := bc4 BK230))
     go_ret
     exact ⟨eq_, bq⟩
    rw [if_neg c6] at H; have c6b0 : (a0_3 == a1_3) = false := beq_eq_false_iff_ne.mpr c6; have c6b1 : (a0_3 != a1_3) = true := bne_iff_ne.mpr c6; obtain rfl := Option.some.inj H
    go_enter Tryd.func27, Tryd.ntmps27
    go_wp2_with (first | ((with_reducible refine gate_dst (N := 2) rfl ?_); refine box_event ?hg (N := 2) ?hd (cs := #[.int .i64 a0_0, .int .i64 a0_1, .int .i64 a0_2, .int .i64 a0_3]) (t := 40) ?hr ?_; (case hd | hg => rfl); (case hr => go_simp; try rfl); intro gb229 hg w12 hbox hb; have BK229 := am (hbox); have GW229 := am (gq hg); have GE229 := am (gq hg); replace HB := sb hb; clear hb hbox hg) | ((with_reducible refine gate_dst (N := 3) rfl ?_); refine box_event ?hg (N := 3) ?hd (cs := #[.int .i64 a1_0, .int .i64 a1_1, .int .i64 a1_2, .int .i64 a1_3]) (t := 40) ?hr ?_; (case hd | hg => rfl); (case hr => go_simp; try rfl); intro gb230 hg w13 hbox hb; have BK230 := am (hbox); have GW230 := am (gq hg); have GE230 := am (gq hg); replace HB := sb hb; have ⟨NB229_230, NB230_229⟩ := nn hg BK229; replace BK229 := zb BK229 hb; clear hb hbox hg; have hnb14 := NB229_230.out; have hnc14 := NB230_229.out; have ⟨b150, b151, b152, b153, d150, d151, d152, d153⟩ := bc4 BK229; have ⟨b160, b161, b162, b163, d160, d161, d162, d163⟩ := bc4 BK230))
    go_ret
    exact ⟨eq_, bq⟩
   rw [if_neg c5] at H; have c5b0 : (a0_2 == a1_2) = false := beq_eq_false_iff_ne.mpr c5; have c5b1 : (a0_2 != a1_2) = true := bne_iff_ne.mpr c5; obtain rfl := Option.some.inj H
   go_enter Tryd.func27, Tryd.ntmps27
   go_wp2_with (first | ((with_reducible refine gate_dst (N := 2) rfl ?_); refine box_event ?hg (N := 2) ?hd (cs := #[.int .i64 a0_0, .int .i64 a0_1, .int .i64 a0_2, .int .i64 a0_3]) (t := 40) ?hr ?_; (case hd | hg => rfl); (case hr => go_simp; try rfl); intro gb229 hg w17 hbox hb; have BK229 := am (hbox); have GW229 := am (gq hg); have GE229 := am (gq hg); replace HB := sb hb; clear hb hbox hg) | ((with_reducible refine gate_dst (N := 3) rfl ?_); refine box_event ?hg (N := 3) ?hd (cs := #[.int .i64 a1_0, .int .i64 a1_1, .int .i64 a1_2, .int .i64 a1_3]) (t := 40) ?hr ?_; (case hd | hg => rfl); (case hr => go_simp; try rfl); intro gb230 hg w18 hbox hb; have BK230 := am (hbox); have GW230 := am (gq hg); have GE230 := am (gq hg); replace HB := sb hb; have ⟨NB229_230, NB230_229⟩ := nn hg BK229; replace BK229 := zb BK229 hb; clear hb hbox hg; have hnb19 := NB229_230.out; have hnc19 := NB230_229.out; have ⟨b200, b201, b202, b203, d200, d201, d202, d203⟩ := bc4 BK229; have ⟨b210, b211, b212, b213, d210, d211, d212, d213⟩ := bc4 BK230))
   go_ret
   exact ⟨eq_, bq⟩
  rw [if_neg c4] at H; have c4b0 : (a0_1 == a1_1) = false := beq_eq_false_iff_ne.mpr c4; have c4b1 : (a0_1 != a1_1) = true := bne_iff_ne.mpr c4; obtain rfl := Option.some.inj H
  go_enter Tryd.func27, Tryd.ntmps27
  go_wp2_with (first | ((with_reducible refine gate_dst (N := 2) rfl ?_); refine box_event ?hg (N := 2) ?hd (cs := #[.int .i64 a0_0, .int .i64 a0_1, .int .i64 a0_2, .int .i64 a0_3]) (t := 40) ?hr ?_; (case hd | hg => rfl); (case hr => go_simp; try rfl); intro gb229 hg w22 hbox hb; have BK229 := am (hbox); have GW229 := am (gq hg); have GE229 := am (gq hg); replace HB := sb hb; clear hb hbox hg) | ((with_reducible refine gate_dst (N := 3) rfl ?_); refine box_event ?hg (N := 3) ?hd (cs := #[.int .i64 a1_0, .int .i64 a1_1, .int .i64 a1_2, .int .i64 a1_3]) (t := 40) ?hr ?_; (case hd | hg => rfl); (case hr => go_simp; try rfl); intro gb230 hg w23 hbox hb; have BK230 := am (hbox); have GW230 := am (gq hg); have GE230 := am (gq hg); replace HB := sb hb; have ⟨NB229_230, NB230_229⟩ := nn hg BK229; replace BK229 := zb BK229 hb; clear hb hbox hg; have hnb24 := NB229_230.out; have hnc24 := NB230_229.out; have ⟨b250, b251, b252, b253, d250, d251, d252, d253⟩ := bc4 BK229; have ⟨b260, b261, b262, b263, d260, d261, d262, d263⟩ := bc4 BK230))
  go_ret
  exact ⟨eq_, bq⟩
 rw [if_neg c3] at H; have c3b0 : (a0_0 == a1_0) = false := beq_eq_false_iff_ne.mpr c3; have c3b1 : (a0_0 != a1_0) = true := bne_iff_ne.mpr c3; obtain rfl := Option.some.inj H
 go_enter Tryd.func27, Tryd.ntmps27
 go_wp2_with (first | ((with_reducible refine gate_dst (N := 2) rfl ?_); refine box_event ?hg (N := 2) ?hd (cs := #[.int .i64 a0_0, .int .i64 a0_1, .int .i64 a0_2, .int .i64 a0_3]) (t := 40) ?hr ?_; (case hd | hg => rfl); (case hr => go_simp; try rfl); intro gb229 hg w27 hbox hb; have BK229 := am (hbox); have GW229 := am (gq hg); have GE229 := am (gq hg); replace HB := sb hb; clear hb hbox hg) | ((with_reducible refine gate_dst (N := 3) rfl ?_); refine box_event ?hg (N := 3) ?hd (cs := #[.int .i64 a1_0, .int .i64 a1_1, .int .i64 a1_2, .int .i64 a1_3]) (t := 40) ?hr ?_; (case hd | hg => rfl); (case hr => go_simp; try rfl); intro gb230 hg w28 hbox hb; have BK230 := am (hbox); have GW230 := am (gq hg); have GE230 := am (gq hg); replace HB := sb hb; have ⟨NB229_230, NB230_229⟩ := nn hg BK229; replace BK229 := zb BK229 hb; clear hb hbox hg; have hnb29 := NB229_230.out; have hnc29 := NB230_229.out; have ⟨b300, b301, b302, b303, d300, d301, d302, d303⟩ := bc4 BK229; have ⟨b310, b311, b312, b313, d310, d311, d312, d313⟩ := bc4 BK230))
 go_ret
 exact ⟨eq_, bq⟩


def laws_eqLoanS.l0 : Nat → List (S40) → List (S40) → Int → Option (Bool)
 | 0, _, _, _ => none
 | k + 1, x0, x1, x5 => if x5 < (x0.length : Int) then (if 0 ≤ x5 then (if x5 < (x1.length : Int) then ((laws_eqLoan.f ((rd_T40 x0 x5).f0) ((rd_T40 x0 x5).f1) ((rd_T40 x0 x5).f2) ((rd_T40 x0 x5).f3) ((rd_T40 x1 x5).f0) ((rd_T40 x1 x5).f1) ((rd_T40 x1 x5).f2) ((rd_T40 x1 x5).f3)).bind fun t233 => (if t233 = true then (laws_eqLoanS.l0 k x0 x1 (wrap64 (x5 + 1))) else (some false))) else (none)) else (none)) else (some true)
def laws_eqLoanS.f (k : Nat) (l0 : List (S40)) (l1 : List (S40)) : Option (Bool) := if (l0.length : Int) = (l1.length : Int) then (laws_eqLoanS.l0 k l0 l1 0) else (some false)
def laws_eqLoanS.T6 : Bool × List (List Nat × List Nat) := (true, [([], []), ([], []), ([0, 1], [0, 1]), ([2], [2]), ([], []), ([], []), ([4, 5], [4, 5]), ([6], [6]), ([3, 7], [3, 7]), ([8], [8])])
def laws_eqLoanS.B6 : List Nat := [0, 0, 3, 7, 0, 0, 48, 112, 255, 511]
theorem laws_eqLoanS.tab6 : rtab .any (opsOf Tryd.f18 6) = laws_eqLoanS.T6 := by kernel_rfl
theorem laws_eqLoanS.bits6 : waitsOk laws_eqLoanS.T6.2 laws_eqLoanS.B6 = true := by kernel_rfl
theorem laws_eqLoanS.calls (k : Nat) (A0 : Option Addr) (c0 : Nat) (l0 : List (S40)) (A1 : Option Addr) (c1 : Nat) (l1 : List (S40)) (r : Bool) (w : World) (hr0 : Kd.C k40 w A0 l0.length l0) (hc0 : l0.length ≤ c0) (hr1 : Kd.C k40 w A1 l1.length l1) (hc1 : l1.length ≤ c1) (h : laws_eqLoanS.f k l0 l1 = some r) :
  Calls Tryd.prog 18 #[.slice A0 l0.length c0, .slice A1 l1.length c1] w fun e w' => e = .returned (.bool r) ∧ Below w.heap.size w w' := by
 have hu40 := Tryd.underlying40; have HR0 := am hr0; have HC0 := am hc0; clear hr0 hc0; have HR1 := am hr1; have HC1 := am hc1; clear hr1 hc1; have HB := am (Below.refl w.heap.size w); have H := h; clear h
 unfold laws_eqLoanS.f at H
 by_cases c3 : (l0.length : Int) = (l1.length : Int)
 ·rw [if_pos c3] at H; have c3b0 : ((l0.length : Int) == (l1.length : Int)) = true := beq_iff_eq.mpr c3; have c3b1 : ((l0.length : Int) != (l1.length : Int)) = false := bne_eq_false_iff_eq.mpr c3; have c3b2 : (l0.length == l1.length) = true := by first | simpa using c3 | (simp at c3 ⊢; omega)
  clear c3; have H' := am H; clear H
  go_enter Tryd.func18, Tryd.ntmps18
  go_wp2
  go_loopg [5] k (fun kq v5 w' => ∃ (x5_1 : Int), v5 = .int .i64 x5_1 ∧ Aside0 (laws_eqLoanS.l0 kq l0 l1 x5_1 = some r) ∧ Aside0 (kq ≤ k) ∧ Aside0 (Below w.heap.size w w'))
  case atStart => exact ⟨(0), sq, H', ⟨Nat.le_refl _⟩, ⟨bq⟩⟩
  case round =>
   clear H'; try clear c3b0
   try clear c3b1
   try clear c3b2
   obtain ⟨x5_1, rfl, HA, HK1, HB⟩ := hrel
   cases gk with
   | zero => exact absurd HA.out (by simp [laws_eqLoanS.l0])
   | succ k1 =>
    have H := HA.out; clear HA; simp only [laws_eqLoanS.l0] at H; by_cases c4 : x5_1 < (l0.length : Int)
    ·rw [if_pos c4] at H; have c4b0 : decide (x5_1 < (l0.length : Int)) = true := decide_eq_true c4; clear c4; by_cases c5 : 0 ≤ x5_1
     ·rw [if_pos c5] at H; have c5b0 : decide (0 ≤ x5_1) = true := decide_eq_true c5; clear c5; by_cases c6 : x5_1 < (l1.length : Int)
      ·rw [if_pos c6] at H; have c6b0 : decide (x5_1 < (l1.length : Int)) = true := decide_eq_true c6; clear c6; obtain ⟨t233, A7, H⟩ := bindq H; try dsimp only at H
       by_cases c8 : t233 = true
       ·subst c8; rw [if_pos rfl] at H; try dsimp only at H
        have H' := am H; clear H; try go_wp2
        have n0_ := am (below_drew1 HB.out); clear HB; have HB := n0_; clear n0_; have p231 : 0 ≤ (x5_1 : Int) := of_decide_eq_true aq; have q231 : x5_1 < (l0.length : Int) := of_decide_eq_true aq; obtain ⟨ad231, e231, hx231_0, hx231_1, hx231_2, hx231_3⟩ := at_T40 HR0.out x5_1 p231 q231; have hw231_3 := hx231_3; have hw231_2 := hx231_2; have hw231_1 := hx231_1; have hw231_0 := hx231_0
        cases e231
        replace hx231_0 := (HB.out.cell (World.block_lt_of_cell? w _ hx231_0)).trans hx231_0; replace hx231_1 := (HB.out.cell (World.block_lt_of_cell? w _ hx231_1)).trans hx231_1; replace hx231_2 := (HB.out.cell (World.block_lt_of_cell? w _ hx231_2)).trans hx231_2; replace hx231_3 := (HB.out.cell (World.block_lt_of_cell? w _ hx231_3)).trans hx231_3; replace p231 := eq_true p231; replace q231 := eq_true q231; have p232 : 0 ≤ (x5_1 : Int) := of_decide_eq_true aq; have q232 : x5_1 < (l1.length : Int) := of_decide_eq_true aq; obtain ⟨ad232, e232, hx232_0, hx232_1, hx232_2, hx232_3⟩ := at_T40 HR1.out x5_1 p232 q232; have hw232_3 := hx232_3; have hw232_2 := hx232_2; have hw232_1 := hx232_1; have hw232_0 := hx232_0
        cases e232
        replace hx232_0 := (HB.out.cell (World.block_lt_of_cell? w _ hx232_0)).trans hx232_0; replace hx232_1 := (HB.out.cell (World.block_lt_of_cell? w _ hx232_1)).trans hx232_1; replace hx232_2 := (HB.out.cell (World.block_lt_of_cell? w _ hx232_2)).trans hx232_2; replace hx232_3 := (HB.out.cell (World.block_lt_of_cell? w _ hx232_3)).trans hx232_3; replace p232 := eq_true p232; replace q232 := eq_true q232; refine start_ (n := 10) (S := fun w' => w'.cell? (ad231.add ((x5_1).toNat * 4)) = some (.int .i64 ((rd_T40 l0 x5_1).f0)) ∧ w'.cell? ⟨(ad231.add ((x5_1).toNat * 4)).block, (ad231.add ((x5_1).toNat * 4)).off + 1, none⟩ = some (.int .i64 ((rd_T40 l0 x5_1).f1)) ∧ w'.cell? ⟨(ad231.add ((x5_1).toNat * 4)).block, (ad231.add ((x5_1).toNat * 4)).off + 2, none⟩ = some (.int .i64 ((rd_T40 l0 x5_1).f2)) ∧ w'.cell? ⟨(ad231.add ((x5_1).toNat * 4)).block, (ad231.add ((x5_1).toNat * 4)).off + 3, none⟩ = some (.int .i64 ((rd_T40 l0 x5_1).f3)) ∧ w'.cell? (ad232.add ((x5_1).toNat * 4)) = some (.int .i64 ((rd_T40 l1 x5_1).f0)) ∧ w'.cell? ⟨(ad232.add ((x5_1).toNat * 4)).block, (ad232.add ((x5_1).toNat * 4)).off + 1, none⟩ = some (.int .i64 ((rd_T40 l1 x5_1).f1)) ∧ w'.cell? ⟨(ad232.add ((x5_1).toNat * 4)).block, (ad232.add ((x5_1).toNat * 4)).off + 2, none⟩ = some (.int .i64 ((rd_T40 l1 x5_1).f2)) ∧ w'.cell? ⟨(ad232.add ((x5_1).toNat * 4)).block, (ad232.add ((x5_1).toNat * 4)).off + 3, none⟩ = some (.int .i64 ((rd_T40 l1 x5_1).f3))) (ds := []) #[O, O, O, O, O, O, O, O, O, O] (by kernel_rfl) rfl rfl ⟨((HB.out.cell (World.block_lt_of_cell? w _ hw231_0)).trans hw231_0), ((HB.out.cell (World.block_lt_of_cell? w _ hw231_1)).trans hw231_1), ((HB.out.cell (World.block_lt_of_cell? w _ hw231_2)).trans hw231_2), ((HB.out.cell (World.block_lt_of_cell? w _ hw231_3)).trans hw231_3), ((HB.out.cell (World.block_lt_of_cell? w _ hw232_0)).trans hw232_0), ((HB.out.cell (World.block_lt_of_cell? w _ hw232_1)).trans hw232_1), ((HB.out.cell (World.block_lt_of_cell? w _ hw232_2)).trans hw232_2), ((HB.out.cell (World.block_lt_of_cell? w _ hw232_3)).trans hw232_3)⟩ (fun hHeld => ?_); refine with_tabW laws_eqLoanS.tab6 laws_eqLoanS.bits6 (fun HT_ HW_ => ?_); generalize wr.drew = w9 at HB hx231_0 hx231_1 hx231_2 hx231_3 hx232_0 hx232_1 hx232_2 hx232_3 hHeld ⊢; refine pu_ 0 (some 17) ?_ #[I, O, O, O, O, O, O, O, O, O] rfl rfl (any_of HT_.out (by kernel_rfl)) (.inl ⟨by rfl, ?_⟩) ?_ ?_ ?_; rotate_left; (intro w'; go_simp; with_reducible rfl); rotate_left; (simp only [pw]; rfl); refine pu_ 1 (some 18) ?_ #[I, I, O, O, O, O, O, O, O, O] rfl rfl (any_of HT_.out (by kernel_rfl)) (.inl ⟨by rfl, ?_⟩) ?_ ?_ ?_; rotate_left; (intro w'; go_simp; with_reducible rfl); rotate_left; (simp only [pw]; rfl); refine pu_ 2 (some 19) ?_ #[I, I, I, O, O, O, O, O, O, O] rfl rfl (any_of HT_.out (by kernel_rfl)) (.inl ⟨by rfl, ?_⟩) ?_ ?_ ?_; rotate_left; (intro w'; go_simp; with_reducible rfl); rotate_left; (simp only [pw]; rfl); refine pu_ 4 (some 21) ?_ #[I, I, I, O, I, O, O, O, O, O] rfl rfl (any_of HT_.out (by kernel_rfl)) (.inl ⟨by rfl, ?_⟩) ?_ ?_ ?_; rotate_left; (intro w'; go_simp; with_reducible rfl); rotate_left; (simp only [pw]; rfl); refine pu_ 5 (some 22) ?_ #[I, I, I, O, I, I, O, O, O, O] rfl rfl (any_of HT_.out (by kernel_rfl)) (.inl ⟨by rfl, ?_⟩) ?_ ?_ ?_; rotate_left; (intro w'; go_simp; with_reducible rfl); rotate_left; (simp only [pw]; rfl); refine pu_ 6 (some 23) ?_ #[I, I, I, O, I, I, I, O, O, O] rfl rfl (any_of HT_.out (by kernel_rfl)) (.inl ⟨by rfl, ?_⟩) ?_ ?_ ?_; rotate_left; (intro w'; go_simp; with_reducible rfl); rotate_left; (simp only [pw]; rfl); refine tk_ 3 (some 20) ?_ #[I, I, I, I, I, I, I, O, O, O] rfl rfl (take_ofW HT_.out HW_.out (by kernel_rfl)) (.inl ⟨by rfl, ?_⟩) hHeld ?_ ?_ ?_; rotate_left; (rintro w' ⟨s0, s1, s2, s3, s4, s5, s6, s7⟩; go_simp; with_reducible rfl); rotate_left; (simp only [pw]; rfl); refine tk_ 7 (some 24) ?_ #[I, I, I, I, I, I, I, I, O, O] rfl rfl (take_ofW HT_.out HW_.out (by kernel_rfl)) (.inl ⟨by rfl, ?_⟩) hHeld ?_ ?_ ?_; rotate_left; (rintro w' ⟨s0, s1, s2, s3, s4, s5, s6, s7⟩; go_simp; with_reducible rfl); rotate_left; (simp only [pw]; rfl); refine one_ (i := 8) (N := some 25) #[I, I, I, I, I, I, I, I, I, O] rfl rfl (one_of HT_.out (by kernel_rfl)) (by decide) (fun K hK => ?_); refine goes_ Tryd.func27 (by kernel_rfl) rfl #[.agg #[.int .i64 ((rd_T40 l0 x5_1).f0), .int .i64 ((rd_T40 l0 x5_1).f1), .int .i64 ((rd_T40 l0 x5_1).f2), .int .i64 ((rd_T40 l0 x5_1).f3)], .agg #[.int .i64 ((rd_T40 l1 x5_1).f0), .int .i64 ((rd_T40 l1 x5_1).f1), .int .i64 ((rd_T40 l1 x5_1).f2), .int .i64 ((rd_T40 l1 x5_1).f3)]] (by rfl) rfl rfl mq ?_; with_reducible refine (laws_eqLoan.calls ((rd_T40 l0 x5_1).f0) ((rd_T40 l0 x5_1).f1) ((rd_T40 l0 x5_1).f2) ((rd_T40 l0 x5_1).f3) ((rd_T40 l1 x5_1).f0) ((rd_T40 l1 x5_1).f1) ((rd_T40 l1 x5_1).f2) ((rd_T40 l1 x5_1).f3) true _ A7.out).mono ?_
        rintro e w10 ⟨rfl, hb⟩; refine ⟨_, rfl, ?_⟩; have n0_ := sb hb; clear HB; have HB := n0_; clear n0_; (try clear hb); refine hK.out _ _ ⟨((HB.out.cell (World.block_lt_of_cell? w _ hw231_0)).trans hw231_0), ((HB.out.cell (World.block_lt_of_cell? w _ hw231_1)).trans hw231_1), ((HB.out.cell (World.block_lt_of_cell? w _ hw231_2)).trans hw231_2), ((HB.out.cell (World.block_lt_of_cell? w _ hw231_3)).trans hw231_3), ((HB.out.cell (World.block_lt_of_cell? w _ hw232_0)).trans hw232_0), ((HB.out.cell (World.block_lt_of_cell? w _ hw232_1)).trans hw232_1), ((HB.out.cell (World.block_lt_of_cell? w _ hw232_2)).trans hw232_2), ((HB.out.cell (World.block_lt_of_cell? w _ hw232_3)).trans hw232_3)⟩ (fun hHeld => ?_); clear hK K; refine norm_ (a' := ?_) ?_ ?_; rotate_left
        ·show Act.put _ (some 25) _ = _
         simp only [pw]; rfl
        refine pu_ 9 (some 26) ?_ #[I, I, I, I, I, I, I, I, I, I] rfl rfl (any_of HT_.out (by kernel_rfl)) (.inl ⟨by rfl, ?_⟩) ?_ ?_ ?_; rotate_left; (intro w'; go_simp; with_reducible rfl); rotate_left; (simp only [pw]; rfl); refine done_ (done_of HT_.out (by kernel_rfl)) ?_; try go_wp2
        go_roundg k1
        case measure => have := HK1.out; omega
        case rel => exact ⟨(wrap64 (x5_1 + 1)), sq, H', ⟨by have := HK1.out; omega⟩, ⟨bq⟩⟩
       replace c8 := Bool.eq_false_iff.mpr c8; subst c8; rw [if_neg (show ¬ (false = true) by decide)] at H; try dsimp only at H
       obtain rfl := Option.some.inj H; try go_wp2
       have n0_ := am (below_drew1 HB.out); clear HB; have HB := n0_; clear n0_; have p231 : 0 ≤ (x5_1 : Int) := of_decide_eq_true aq; have q231 : x5_1 < (l0.length : Int) := of_decide_eq_true aq; obtain ⟨ad231, e231, hx231_0, hx231_1, hx231_2, hx231_3⟩ := at_T40 HR0.out x5_1 p231 q231; have hw231_3 := hx231_3; have hw231_2 := hx231_2; have hw231_1 := hx231_1; have hw231_0 := hx231_0
       cases e231
       replace hx231_0 := (HB.out.cell (World.block_lt_of_cell? w _ hx231_0)).trans hx231_0; replace hx231_1 := (HB.out.cell (World.block_lt_of_cell? w _ hx231_1)).trans hx231_1; replace hx231_2 := (HB.out.cell (World.block_lt_of_cell? w _ hx231_2)).trans hx231_2; replace hx231_3 := (HB.out.cell (World.block_lt_of_cell? w _ hx231_3)).trans hx231_3; replace p231 := eq_true p231; replace q231 := eq_true q231; have p232 : 0 ≤ (x5_1 : Int) := of_decide_eq_true aq; have q232 : x5_1 < (l1.length : Int) := of_decide_eq_true aq; obtain ⟨ad232, e232, hx232_0, hx232_1, hx232_2, hx232_3⟩ := at_T40 HR1.out x5_1 p232 q232; have hw232_3 := hx232_3; have hw232_2 := hx232_2; have hw232_1 := hx232_1; have hw232_0 := hx232_0
       cases e232
       replace hx232_0 := (HB.out.cell (World.block_lt_of_cell? w _ hx232_0)).trans hx232_0; replace hx232_1 := (HB.out.cell (World.block_lt_of_cell? w _ hx232_1)).trans hx232_1; replace hx232_2 := (HB.out.cell (World.block_lt_of_cell? w _ hx232_2)).trans hx232_2; replace hx232_3 := (HB.out.cell (World.block_lt_of_cell? w _ hx232_3)).trans hx232_3; replace p232 := eq_true p232; replace q232 := eq_true q232; refine start_ (n := 10) (S := fun w' => w'.cell? (ad231.add ((x5_1).toNat * 4)) = some (.int .i64 ((rd_T40 l0 x5_1).f0)) ∧ w'.cell? ⟨(ad231.add ((x5_1).toNat * 4)).block, (ad231.add ((x5_1).toNat * 4)).off + 1, none⟩ = some (.int .i64 ((rd_T40 l0 x5_1).f1)) ∧ w'.cell? ⟨(ad231.add ((x5_1).toNat * 4)).block, (ad231.add ((x5_1).toNat * 4)).off + 2, none⟩ = some (.int .i64 ((rd_T40 l0 x5_1).f2)) ∧ w'.cell? ⟨(ad231.add ((x5_1).toNat * 4)).block, (ad231.add ((x5_1).toNat * 4)).off + 3, none⟩ = some (.int .i64 ((rd_T40 l0 x5_1).f3)) ∧ w'.cell? (ad232.add ((x5_1).toNat * 4)) = some (.int .i64 ((rd_T40 l1 x5_1).f0)) ∧ w'.cell? ⟨(ad232.add ((x5_1).toNat * 4)).block, (ad232.add ((x5_1).toNat * 4)).off + 1, none⟩ = some (.int .i64 ((rd_T40 l1 x5_1).f1)) ∧ w'.cell? ⟨(ad232.add ((x5_1).toNat * 4)).block, (ad232.add ((x5_1).toNat * 4)).off + 2, none⟩ = some (.int .i64 ((rd_T40 l1 x5_1).f2)) ∧ w'.cell? ⟨(ad232.add ((x5_1).toNat * 4)).block, (ad232.add ((x5_1).toNat * 4)).off + 3, none⟩ = some (.int .i64 ((rd_T40 l1 x5_1).f3))) (ds := []) #[O, O, O, O, O, O, O, O, O, O] (by kernel_rfl) rfl rfl ⟨((HB.out.cell (World.block_lt_of_cell? w _ hw231_0)).trans hw231_0), ((HB.out.cell (World.block_lt_of_cell? w _ hw231_1)).trans hw231_1), ((HB.out.cell (World.block_lt_of_cell? w _ hw231_2)).trans hw231_2), ((HB.out.cell (World.block_lt_of_cell? w _ hw231_3)).trans hw231_3), ((HB.out.cell (World.block_lt_of_cell? w _ hw232_0)).trans hw232_0), ((HB.out.cell (World.block_lt_of_cell? w _ hw232_1)).trans hw232_1), ((HB.out.cell (World.block_lt_of_cell? w _ hw232_2)).trans hw232_2), ((HB.out.cell (World.block_lt_of_cell? w _ hw232_3)).trans hw232_3)⟩ (fun hHeld => ?_); refine with_tabW laws_eqLoanS.tab6 laws_eqLoanS.bits6 (fun HT_ HW_ => ?_); generalize wr.drew = w11 at HB hx231_0 hx231_1 hx231_2 hx231_3 hx232_0 hx232_1 hx232_2 hx232_3 hHeld ⊢; refine pu_ 0 (some 17) ?_ #[I, O, O, O, O, O, O, O, O, O] rfl rfl (any_of HT_.out (by kernel_rfl)) (.inl ⟨by rfl, ?_⟩) ?_ ?_ ?_; rotate_left; (intro w'; go_simp; with_reducible rfl); rotate_left; (simp only [pw]; rfl); refine pu_ 1 (some 18) ?_ #[I, I, O, O, O, O, O, O, O, O] rfl rfl (any_of HT_.out (by kernel_rfl)) (.inl ⟨by rfl, ?_⟩) ?_ ?_ ?_; rotate_left; (intro w'; go_simp; with_reducible rfl); rotate_left; (simp only [pw]; rfl); refine pu_ 2 (some 19) ?_ #[I, I, I, O, O, O, O, O, O, O] rfl rfl (any_of HT_.out (by kernel_rfl)) (.inl ⟨by rfl, ?_⟩) ?_ ?_ ?_; rotate_left; (intro w'; go_simp; with_reducible rfl); rotate_left; (simp only [pw]; rfl); refine pu_ 4 (some 21) ?_ #[I, I, I, O, I, O, O, O, O, O] rfl rfl (any_of HT_.out (by kernel_rfl)) (.inl ⟨by rfl, ?_⟩) ?_ ?_ ?_; rotate_left; (intro w'; go_simp; with_reducible rfl); rotate_left; (simp only [pw]; rfl); refine pu_ 5 (some 22) ?_ #[I, I, I, O, I, I, O, O, O, O] rfl rfl (any_of HT_.out (by kernel_rfl)) (.inl ⟨by rfl, ?_⟩) ?_ ?_ ?_; rotate_left; (intro w'; go_simp; with_reducible rfl); rotate_left; (simp only [pw]; rfl); refine pu_ 6 (some 23) ?_ #[I, I, I, O, I, I, I, O, O, O] rfl rfl (any_of HT_.out (by kernel_rfl)) (.inl ⟨by rfl, ?_⟩) ?_ ?_ ?_; rotate_left; (intro w'; go_simp; with_reducible rfl); rotate_left; (simp only [pw]; rfl); refine tk_ 3 (some 20) ?_ #[I, I, I, I, I, I, I, O, O, O] rfl rfl (take_ofW HT_.out HW_.out (by kernel_rfl)) (.inl ⟨by rfl, ?_⟩) hHeld ?_ ?_ ?_; rotate_left; (rintro w' ⟨s0, s1, s2, s3, s4, s5, s6, s7⟩; go_simp; with_reducible rfl); rotate_left; (simp only [pw]; rfl); refine tk_ 7 (some 24) ?_ #[I, I, I, I, I, I, I, I, O, O] rfl rfl (take_ofW HT_.out HW_.out (by kernel_rfl)) (.inl ⟨by rfl, ?_⟩) hHeld ?_ ?_ ?_; rotate_left; (rintro w' ⟨s0, s1, s2, s3, s4, s5, s6, s7⟩; go_simp; with_reducible rfl); rotate_left; (simp only [pw]; rfl); refine one_ (i := 8) (N := some 25) #[I, I, I, I, I, I, I, I, I, O] rfl rfl (one_of HT_.out (by kernel_rfl)) (by decide) (fun K hK => ?_); refine goes_ Tryd.func27 (by kernel_rfl) rfl #[.agg #[.int .i64 ((rd_T40 l0 x5_1).f0), .int .i64 ((rd_T40 l0 x5_1).f1), .int .i64 ((rd_T40 l0 x5_1).f2), .int .i64 ((rd_T40 l0 x5_1).f3)], .agg #[.int .i64 ((rd_T40 l1 x5_1).f0), .int .i64 ((rd_T40 l1 x5_1).f1), .int .i64 ((rd_T40 l1 x5_1).f2), .int .i64 ((rd_T40 l1 x5_1).f3)]] (by rfl) rfl rfl mq ?_; with_reducible refine (laws_eqLoan.calls ((rd_T40 l0 x5_1).f0) ((rd_T40 l0 x5_1).f1) ((rd_T40 l0 x5_1).f2) ((rd_T40 l0 x5_1).f3) ((rd_T40 l1 x5_1).f0) ((rd_T40 l1 x5_1).f1) ((rd_T40 l1 x5_1).f2) ((rd_T40 l1 x5_1).f3) false _ A7.out).mono ?_
       rintro e w12 ⟨rfl, hb⟩; refine ⟨_, rfl, ?_⟩; have n0_ := sb hb; clear HB; have HB := n0_; clear n0_; (try clear hb); refine hK.out _ _ ⟨((HB.out.cell (World.block_lt_of_cell? w _ hw231_0)).trans hw231_0), ((HB.out.cell (World.block_lt_of_cell? w _ hw231_1)).trans hw231_1), ((HB.out.cell (World.block_lt_of_cell? w _ hw231_2)).trans hw231_2), ((HB.out.cell (World.block_lt_of_cell? w _ hw231_3)).trans hw231_3), ((HB.out.cell (World.block_lt_of_cell? w _ hw232_0)).trans hw232_0), ((HB.out.cell (World.block_lt_of_cell? w _ hw232_1)).trans hw232_1), ((HB.out.cell (World.block_lt_of_cell? w _ hw232_2)).trans hw232_2), ((HB.out.cell (World.block_lt_of_cell? w _ hw232_3)).trans hw232_3)⟩ (fun hHeld => ?_); clear hK K; refine norm_ (a' := ?_) ?_ ?_; rotate_left
       ·show Act.put _ (some 25) _ = _
        simp only [pw]; rfl
       refine pu_ 9 (some 26) ?_ #[I, I, I, I, I, I, I, I, I, I] rfl rfl (any_of HT_.out (by kernel_rfl)) (.inl ⟨by rfl, ?_⟩) ?_ ?_ ?_; rotate_left; (intro w'; go_simp; with_reducible rfl); rotate_left; (simp only [pw]; rfl); refine done_ (done_of HT_.out (by kernel_rfl)) ?_; try go_wp2
       go_ret
       exact ⟨eq_, bq⟩
      rw [if_neg c6] at H; exact absurd H (by simp)
     rw [if_neg c5] at H; exact absurd H (by simp)
    rw [if_neg c4] at H; have c4b0 : decide (x5_1 < (l0.length : Int)) = false := decide_eq_false c4; clear c4; obtain rfl := Option.some.inj H
    go_wp2
    go_ret
    exact ⟨eq_, bq⟩
 rw [if_neg c3] at H; have c3b0 : ((l0.length : Int) == (l1.length : Int)) = false := beq_eq_false_iff_ne.mpr c3; have c3b1 : ((l0.length : Int) != (l1.length : Int)) = true := bne_iff_ne.mpr c3; have c3b2 : (l0.length == l1.length) = false := by first | simpa using c3 | (simp at c3 ⊢; omega)
 obtain rfl := Option.some.inj H
 go_enter Tryd.func18, Tryd.ntmps18
 go_wp2
 go_ret
 exact ⟨eq_, bq⟩


def laws_eqShop.f (k : Nat) (l0_0 : List Int) (l0_1 : List (S40)) (l1_0 : List Int) (l1_1 : List (S40)) : Option (Bool) := (laws_eqIntS.f k l0_0 l1_0).bind fun t236 => (if t236 = true then ((laws_eqLoanS.f k l0_1 l1_1).bind fun t237 => (if t237 = true then (some true) else (some false))) else (some false))
theorem laws_eqShop.calls (k : Nat) (A0_0 : Option Addr) (c0_0 : Nat) (l0_0 : List Int) (A0_1 : Option Addr) (c0_1 : Nat) (l0_1 : List (S40)) (A1_0 : Option Addr) (c1_0 : Nat) (l1_0 : List Int) (A1_1 : Option Addr) (c1_1 : Nat) (l1_1 : List (S40)) (r : Bool) (w : World) (hr0_0 : Kd.C (Kd.int .i64) w A0_0 l0_0.length l0_0) (hc0_0 : l0_0.length ≤ c0_0) (hr0_1 : Kd.C k40 w A0_1 l0_1.length l0_1) (hc0_1 : l0_1.length ≤ c0_1) (hr1_0 : Kd.C (Kd.int .i64) w A1_0 l1_0.length l1_0) (hc1_0 : l1_0.length ≤ c1_0) (hr1_1 : Kd.C k40 w A1_1 l1_1.length l1_1) (hc1_1 : l1_1.length ≤ c1_1) (h : laws_eqShop.f k l0_0 l0_1 l1_0 l1_1 = some r) :
  Calls Tryd.prog 8 #[.agg #[.slice A0_0 l0_0.length c0_0, .slice A0_1 l0_1.length c0_1], .agg #[.slice A1_0 l1_0.length c1_0, .slice A1_1 l1_1.length c1_1]] w fun e w' => e = .returned (.bool r) ∧ Below w.heap.size w w' := by
 have hu31 := Tryd.underlying31; have HR0_0 := am hr0_0; have HC0_0 := am hc0_0; clear hr0_0 hc0_0; have HR0_1 := am hr0_1; have HC0_1 := am hc0_1; clear hr0_1 hc0_1; have HR1_0 := am hr1_0; have HC1_0 := am hc1_0; clear hr1_0 hc1_0; have HR1_1 := am hr1_1; have HC1_1 := am hc1_1; clear hr1_1 hc1_1; have HB := am (Below.refl w.heap.size w); have H := h; clear h
 unfold laws_eqShop.f at H
 obtain ⟨t236, A3, H⟩ := bindq H; try dsimp only at H
 by_cases c4 : t236 = true
 ·subst c4; rw [if_pos rfl] at H; try dsimp only at H
  obtain ⟨t237, A5, H⟩ := bindq H; try dsimp only at H
  by_cases c6 : t237 = true
  ·subst c6; rw [if_pos rfl] at H; try dsimp only at H
   obtain rfl := Option.some.inj H
   go_enter Tryd.func8, Tryd.ntmps8
   go_wp2_with (first | ((with_reducible refine gate_dst (N := 2) rfl ?_); refine box_event ?hg (N := 2) ?hd (cs := #[.slice A0_0 l0_0.length c0_0, .slice A0_1 l0_1.length c0_1]) (t := 31) ?hr ?_; (case hd | hg => rfl); (case hr => go_simp; try rfl); intro gb234 hg w7 hbox hb; have BK234 := am (hbox); have GW234 := am (gq hg); have GE234 := am (gq hg); replace HB := sb hb; clear hb hbox hg) | ((with_reducible refine gate_dst (N := 3) rfl ?_); refine box_event ?hg (N := 3) ?hd (cs := #[.slice A1_0 l1_0.length c1_0, .slice A1_1 l1_1.length c1_1]) (t := 31) ?hr ?_; (case hd | hg => rfl); (case hr => go_simp; try rfl); intro gb235 hg w8 hbox hb; have BK235 := am (hbox); have GW235 := am (gq hg); have GE235 := am (gq hg); replace HB := sb hb; have ⟨NB234_235, NB235_234⟩ := nn hg BK234; replace BK234 := zb BK234 hb; clear hb hbox hg; have hnb9 := NB234_235.out; have hnc9 := NB235_234.out; have ⟨b100, b101, d100, d101⟩ := bc2 BK234; have ⟨b110, b111, d110, d111⟩ := bc2 BK235) | ((with_reducible refine gate_callee (f := 17) rfl ?_); refine goesL_ (some 9) rfl rfl Tryd.func17 (by kernel_rfl) rfl #[.slice A0_0 l0_0.length c0_0, .slice A1_0 l1_0.length c1_0] rfl mq ?_; (with_reducible refine (laws_eqIntS.calls k _ _ l0_0 _ _ l1_0 true _ ?s1 ?s2 ?s3 ?s4 A3.out).mono ?_); (case s1 => exact cq (Kd.C_below HR0_0.out HB.out)); (case s2 => exact HC0_0.out); (case s3 => exact cq (Kd.C_below HR1_0.out HB.out)); (case s4 => exact HC1_0.out); rintro e w' ⟨rfl, ⟨nd, rfl⟩⟩; refine ⟨_, rfl, ?_⟩) | ((with_reducible refine gate_callee (f := 18) rfl ?_); refine goesL_ (some 15) rfl rfl Tryd.func18 (by kernel_rfl) rfl #[.slice A0_1 l0_1.length c0_1, .slice A1_1 l1_1.length c1_1] rfl mq ?_; (with_reducible refine (laws_eqLoanS.calls k _ _ l0_1 _ _ l1_1 true _ ?s1 ?s2 ?s3 ?s4 A5.out).mono ?_); (case s1 => exact cq (Kd.C_below HR0_1.out bq)); (case s2 => exact HC0_1.out); (case s3 => exact cq (Kd.C_below HR1_1.out bq)); (case s4 => exact HC1_1.out); rintro e w12 ⟨rfl, hb⟩; refine ⟨_, rfl, ?_⟩; replace BK234 := zb BK234 hb; replace BK235 := zb BK235 hb; replace HB := sb hb; (try clear hb)))
   go_ret
   exact ⟨eq_, bq⟩
  replace c6 := Bool.eq_false_iff.mpr c6; subst c6; rw [if_neg (show ¬ (false = true) by decide)] at H; try dsimp only at H
  obtain rfl := Option.some.inj H
  go_enter Tryd.func8, Tryd.ntmps8
  go_wp2_with (first | ((with_reducible refine gate_dst (N := 2) rfl ?_); refine box_event ?hg (N := 2) ?hd (cs := #[.slice A0_0 l0_0.length c0_0, .slice A0_1 l0_1.length c0_1]) (t := 31) ?hr ?_; (case hd | hg => rfl); (case hr => go_simp; try rfl); intro gb234 hg w13 hbox hb; have BK234 := am (hbox); have GW234 := am (gq hg); have GE234 := am (gq hg); replace HB := sb hb; clear hb hbox hg) | ((with_reducible refine gate_dst (N := 3) rfl ?_); refine box_event ?hg (N := 3) ?hd (cs := #[.slice A1_0 l1_0.length c1_0, .slice A1_1 l1_1.length c1_1]) (t := 31) ?hr ?_; (case hd | hg => rfl); (case hr => go_simp; try rfl); intro gb235 hg w14 hbox hb; have BK235 := am (hbox); have GW235 := am (gq hg); have GE235 := am (gq hg); replace HB := sb hb; have ⟨NB234_235, NB235_234⟩ := nn hg BK234; replace BK234 := zb BK234 hb; clear hb hbox hg; have hnb15 := NB234_235.out; have hnc15 := NB235_234.out; have ⟨b160, b161, d160, d161⟩ := bc2 BK234; have ⟨b170, b171, d170, d171⟩ := bc2 BK235) | ((with_reducible refine gate_callee (f := 17) rfl ?_); refine goesL_ (some 9) rfl rfl Tryd.func17 (by kernel_rfl) rfl #[.slice A0_0 l0_0.length c0_0, .slice A1_0 l1_0.length c1_0] rfl mq ?_; (with_reducible refine (laws_eqIntS.calls k _ _ l0_0 _ _ l1_0 true _ ?s1 ?s2 ?s3 ?s4 A3.out).mono ?_); (case s1 => exact cq (Kd.C_below HR0_0.out HB.out)); (case s2 => exact HC0_0.out); (case s3 => exact cq (Kd.C_below HR1_0.out HB.out)); (case s4 => exact HC1_0.out); rintro e w' ⟨rfl, ⟨nd, rfl⟩⟩; refine ⟨_, rfl, ?_⟩) | ((with_reducible refine gate_callee (f := 18) rfl ?_); refine goesL_ (some 15) rfl rfl Tryd.func18 (by kernel_rfl) rfl #[.slice A0_1 l0_1.length c0_1, .slice A1_1 l1_1.length c1_1] rfl mq ?_; (with_reducible refine (laws_eqLoanS.calls k _ _ l0_1 _ _ l1_1 false _ ?s1 ?s2 ?s3 ?s4 A5.out).mono ?_); (case s1 => exact cq (Kd.C_below HR0_1.out bq)); (case s2 => exact HC0_1.out); (case s3 => exact cq (Kd.C_below HR1_1.out bq)); (case s4 => exact HC1_1.out); rintro e w18 ⟨rfl, hb⟩; refine ⟨_, rfl, ?_⟩; replace BK234 := zb BK234 hb; replace BK235 := zb BK235 hb; replace HB := sb hb; (try clear hb)))
  go_ret
  exact ⟨eq_, bq⟩
 replace c4 := Bool.eq_false_iff.mpr c4; subst c4; rw [if_neg (show ¬ (false = true) by decide)] at H; try dsimp only at H
 obtain rfl := Option.some.inj H
 go_enter Tryd.func8, Tryd.ntmps8
 go_wp2_with (first | ((with_reducible refine gate_dst (N := 2) rfl ?_); refine box_event ?hg (N := 2) ?hd (cs := #[.slice A0_0 l0_0.length c0_0, .slice A0_1 l0_1.length c0_1]) (t := 31) ?hr ?_; (case hd | hg => rfl); (case hr => go_simp; try rfl); intro gb234 hg w19 hbox hb; have BK234 := am (hbox); have GW234 := am (gq hg); have GE234 := am (gq hg); replace HB := sb hb; clear hb hbox hg) | ((with_reducible refine gate_dst (N := 3) rfl ?_); refine box_event ?hg (N := 3) ?hd (cs := #[.slice A1_0 l1_0.length c1_0, .slice A1_1 l1_1.length c1_1]) (t := 31) ?hr ?_; (case hd | hg => rfl); (case hr => go_simp; try rfl); intro gb235 hg w20 hbox hb; have BK235 := am (hbox); have GW235 := am (gq hg); have GE235 := am (gq hg); replace HB := sb hb; have ⟨NB234_235, NB235_234⟩ := nn hg BK234; replace BK234 := zb BK234 hb; clear hb hbox hg; have hnb21 := NB234_235.out; have hnc21 := NB235_234.out; have ⟨b220, b221, d220, d221⟩ := bc2 BK234; have ⟨b230, b231, d230, d231⟩ := bc2 BK235) | ((with_reducible refine gate_callee (f := 17) rfl ?_); refine goesL_ (some 9) rfl rfl Tryd.func17 (by kernel_rfl) rfl #[.slice A0_0 l0_0.length c0_0, .slice A1_0 l1_0.length c1_0] rfl mq ?_; (with_reducible refine (laws_eqIntS.calls k _ _ l0_0 _ _ l1_0 false _ ?s1 ?s2 ?s3 ?s4 A3.out).mono ?_); (case s1 => exact cq (Kd.C_below HR0_0.out HB.out)); (case s2 => exact HC0_0.out); (case s3 => exact cq (Kd.C_below HR1_0.out HB.out)); (case s4 => exact HC1_0.out); rintro e w' ⟨rfl, ⟨nd, rfl⟩⟩; refine ⟨_, rfl, ?_⟩))
 go_ret
 exact ⟨eq_, bq⟩



def laws_FnExactShopText.j0 : Nat → Bool → List Int → List (S51) → List Int → List (S40) → Option (Bool)
 | 0, _, _, _, _, _ => none
 | k + 1, x34, x1, x2, x3, x4 => if x34 = true then (some false) else ((laws_toShop.f k x1 x2).bind fun bt257 => ((laws_eqShop.f k x3 x4 bt257.1 bt257.2).bind fun t263 => (if t263 = true then (some true) else (some false))))
def laws_FnExactShopText.f (k : Nat) (l0_0 : List Int) (l0_1 : List (S51)) : Option (Bool) := (laws_szShop.f l0_0 l0_1 1048576).bind fun t239 => (if t239 < 0 then (some true) else ((laws_toShop.f k l0_0 l0_1).bind fun bt240 => ((spec_ShopText.f k bt240.1 bt240.2).bind fun bt246 => ((laws_toShop.f k l0_0 l0_1).bind fun bt248 => ((impl_ShopText.f k bt248.1 bt248.2).bind fun bt255 => (if bt255.1.toList = bt246.1.toList then (laws_FnExactShopText.j0 k (bt255.2 != bt246.2) l0_0 l0_1 bt248.1 bt248.2) else (laws_FnExactShopText.j0 k true l0_0 l0_1 bt248.1 bt248.2)))))))
theorem laws_FnExactShopText.calls (k : Nat) (A0_0 : Option Addr) (c0_0 : Nat) (l0_0 : List Int) (A0_1 : Option Addr) (c0_1 : Nat) (l0_1 : List (S51)) (r : Bool) (w : World) (hr0_0 : Kd.C (Kd.int .i64) w A0_0 l0_0.length l0_0) (hc0_0 : l0_0.length ≤ c0_0) (hr0_1 : Kd.C k51 w A0_1 l0_1.length l0_1) (hc0_1 : l0_1.length ≤ c0_1) (hM : PowHeld w) (h : laws_FnExactShopText.f k l0_0 l0_1 = some r) :
  Calls Tryd.prog 3 #[.agg #[.slice A0_0 l0_0.length c0_0, .slice A0_1 l0_1.length c0_1]] w fun e w' => e = .returned (.bool r) ∧ Below w.heap.size w w' := by
 have hu25 := Tryd.underlying25; have hu31 := Tryd.underlying31; have HR0_0 := am hr0_0; have HC0_0 := am hc0_0; clear hr0_0 hc0_0; have HR0_1 := am hr0_1; have HC0_1 := am hc0_1; clear hr0_1 hc0_1; have HM := am hM; have HB := am (Below.refl w.heap.size w); have H := h; clear h
 unfold laws_FnExactShopText.f at H
 obtain ⟨t239, A2, H⟩ := bindq H; try dsimp only at H
 by_cases c3 : t239 < 0
 ·rw [if_pos c3] at H; have c3b0 : decide (t239 < 0) = true := decide_eq_true c3; clear c3; obtain rfl := Option.some.inj H
  go_enter Tryd.func3, Tryd.ntmps3
  go_wp2_with (first | ((with_reducible refine gate_dst (N := 1) rfl ?_); refine box_event ?hg (N := 1) ?hd (cs := #[.slice A0_0 l0_0.length c0_0, .slice A0_1 l0_1.length c0_1]) (t := 25) ?hr ?_; (case hd | hg => rfl); (case hr => go_simp; try rfl); intro gb238 hg w4 hbox hb; have BK238 := am (hbox); have GW238 := am (gq hg); have GE238 := am (gq hg); replace HB := sb hb; clear hb hbox hg; have ⟨b50, b51, d50, d51⟩ := bc2 BK238) | ((with_reducible refine gate_callee (f := 4) rfl ?_); refine goesL_ (some 11) rfl rfl Tryd.func4 (by kernel_rfl) rfl #[.agg #[.slice A0_0 l0_0.length c0_0, .slice A0_1 l0_1.length c0_1], .int .i64 1048576] rfl mq ?_; (with_reducible refine (laws_szShop.calls _ _ l0_0 _ _ l0_1 1048576 t239 _ ?s1 ?s2 ?s3 ?s4 A2.out).mono ?_); (case s1 => exact cq (Kd.C_below HR0_0.out HB.out)); (case s2 => exact HC0_0.out); (case s3 => exact cq (Kd.C_below HR0_1.out HB.out)); (case s4 => exact HC0_1.out); rintro e w6 ⟨rfl, hb⟩; refine ⟨_, rfl, ?_⟩; replace BK238 := zb BK238 hb; replace HB := sb hb; (try clear hb)))
  go_ret
  exact ⟨eq_, bq⟩
 rw [if_neg c3] at H; have c3b0 : decide (t239 < 0) = false := decide_eq_false c3; clear c3; obtain ⟨⟨t240, t243⟩, A7, H⟩ := bindq H; try dsimp only at H
 obtain ⟨⟨t246, t247⟩, A8, H⟩ := bindq H; try dsimp only at H
 obtain ⟨⟨t248, t251⟩, A9, H⟩ := bindq H; try dsimp only at H
 obtain ⟨⟨t255, t256⟩, A10, H⟩ := bindq H; try dsimp only at H
 have HC11 := am H; clear H
 go_enter Tryd.func3, Tryd.ntmps3
 go_upto_region 8 with (first | ((with_reducible refine gate_dst (N := 1) rfl ?_); refine box_event ?hg (N := 1) ?hd (cs := #[.slice A0_0 l0_0.length c0_0, .slice A0_1 l0_1.length c0_1]) (t := 25) ?hr ?_; (case hd | hg => rfl); (case hr => go_simp; try rfl); intro gb238 hg w12 hbox hb; have BK238 := am (hbox); have GW238 := am (gq hg); have GE238 := am (gq hg); replace HB := sb hb; clear hb hbox hg; have ⟨b130, b131, d130, d131⟩ := bc2 BK238) | ((with_reducible refine gate_callee (f := 4) rfl ?_); refine goesL_ (some 11) rfl rfl Tryd.func4 (by kernel_rfl) rfl #[.agg #[.slice A0_0 l0_0.length c0_0, .slice A0_1 l0_1.length c0_1], .int .i64 1048576] rfl mq ?_; (with_reducible refine (laws_szShop.calls _ _ l0_0 _ _ l0_1 1048576 t239 _ ?s1 ?s2 ?s3 ?s4 A2.out).mono ?_); (case s1 => exact cq (Kd.C_below HR0_0.out HB.out)); (case s2 => exact HC0_0.out); (case s3 => exact cq (Kd.C_below HR0_1.out HB.out)); (case s4 => exact HC0_1.out); rintro e w14 ⟨rfl, hb⟩; refine ⟨_, rfl, ?_⟩; replace BK238 := zb BK238 hb; replace HB := sb hb; (try clear hb); have ⟨b150, b151, d150, d151⟩ := bc2 BK238) | ((with_reducible refine gate_callee (f := 6) rfl ?_); refine goesL_ (some 16) rfl rfl Tryd.func6 (by kernel_rfl) rfl #[.agg #[.slice A0_0 l0_0.length c0_0, .slice A0_1 l0_1.length c0_1]] rfl mq ?_; (with_reducible refine (laws_toShop.calls k _ _ l0_0 _ _ l0_1 t240 t243 _ ?s1 ?s2 ?s3 ?s4 A7.out).mono ?_); (case s1 => exact cq (Kd.C_below HR0_0.out HB.out)); (case s2 => exact HC0_0.out); (case s3 => exact cq (Kd.C_below HR0_1.out HB.out)); (case s4 => exact HC0_1.out); rintro e w16 ⟨v241, v244, rfl, ho0, ho1, hb⟩; refine ⟨_, rfl, ?_⟩; have HO242 := rl ho0; have HO245 := rl ho1; replace BK238 := zb BK238 hb; replace HB := sb hb; (try clear hb ho0 ho1); obtain ⟨Ao17, co17, eo17⟩ := Kd.R_slice HO242.out; subst eo17; obtain ⟨Ao18, co18, eo18⟩ := Kd.R_slice HO245.out; subst eo18) | ((with_reducible refine gate_callee (f := 5) rfl ?_); refine goesL_ (some 17) rfl rfl Tryd.func5 (by kernel_rfl) rfl #[.agg #[.slice Ao17 t240.length co17, .slice Ao18 t243.length co18]] rfl mq ?_; (with_reducible refine (spec_ShopText.calls k _ _ t240 _ _ t243 t246 t247 _ ?s1 ?s2 ?s3 ?s4 A8.out).mono ?_); (case s1 => exact cr HO242); (case s2 => exact rq1 HO242); (case s3 => exact cr HO245); (case s4 => exact rq1 HO245); rintro e w19 ⟨rfl, hb⟩; refine ⟨_, rfl, ?_⟩; replace HO242 := rb HO242 hb; replace HO245 := rb HO245 hb; replace BK238 := zb BK238 hb; replace HB := sb hb; (try clear hb); have ⟨b200, b201, d200, d201⟩ := bc2 BK238) | ((with_reducible refine gate_callee (f := 6) rfl ?_); refine goesL_ (some 21) rfl rfl Tryd.func6 (by kernel_rfl) rfl #[.agg #[.slice A0_0 l0_0.length c0_0, .slice A0_1 l0_1.length c0_1]] rfl mq ?_; (with_reducible refine (laws_toShop.calls k _ _ l0_0 _ _ l0_1 t248 t251 _ ?s1 ?s2 ?s3 ?s4 A9.out).mono ?_); (case s1 => exact cq (Kd.C_below HR0_0.out HB.out)); (case s2 => exact HC0_0.out); (case s3 => exact cq (Kd.C_below HR0_1.out HB.out)); (case s4 => exact HC0_1.out); rintro e w21 ⟨v249, v252, rfl, ho0, ho1, hb⟩; refine ⟨_, rfl, ?_⟩; have HO250 := rl (Kd.R_new' ho0 (lw HO242)); have HO253 := rl (Kd.R_new' ho1 (lw HO245)); replace BK238 := zb BK238 hb; replace HB := sb hb; (try clear hb ho0 ho1)) | ((with_reducible refine gate_dst (N := 6) rfl ?_); refine box_event ?hg (N := 6) ?hd (cs := #[.slice none 0 0, .slice none 0 0]) (t := 31) ?hr ?_; (case hd | hg => rfl); (case hr => go_simp; try rfl); intro gb254 hg w22 hbox hb; replace HO250 := rb HO250 hb; replace HO253 := rb HO253 hb; have BK254 := am (hbox); have GW254 := am (gq hg); have GE254 := am (gq hg); replace HB := sb hb; have ⟨NB238_254, NB254_238⟩ := nn hg BK238; replace BK238 := zb BK238 hb; clear hb hbox hg; obtain ⟨Ao23, co23, eo23⟩ := Kd.R_slice HO250.out; subst eo23; have hnb24 := NB254_238.out; have hnc24 := NB238_254.out; have ⟨b250, b251, d250, d251⟩ := bc2 BK254; obtain ⟨Ao26, co26, eo26⟩ := Kd.R_slice HO253.out; subst eo26) | ((with_reducible refine gate_callee (f := 7) rfl ?_); refine goesL_ (some 24) rfl rfl Tryd.func7 (by kernel_rfl) rfl #[.agg #[.slice Ao23 t248.length co23, .slice Ao26 t251.length co26]] rfl mq ?_; (with_reducible refine (impl_ShopText.calls k _ _ t248 _ _ t251 t255 t256 _ ?s1 ?s2 ?s3 ?s4 ?sM A10.out).mono ?_); (case sM => exact mh HM.out bq); (case s1 => exact cf HO250 BK254); (case s2 => exact rq1 HO250); (case s3 => exact cf HO253 BK254); (case s4 => exact rq1 HO253); rintro e w27 ⟨rfl, hb⟩; refine ⟨_, rfl, ?_⟩; replace HO250 := am (Kd.R_below (fq HO250 BK254) hb); replace HO253 := am (Kd.R_below (fq HO253 BK254) hb); replace BK238 := zw (.cells #[.slice A0_0 l0_0.length c0_0, .slice A0_1 l0_1.length c0_1] 25 (0, 0)) BK238 hb; replace BK254 := zw (.cells #[.slice Ao23 t248.length co23, .slice Ao26 t251.length co26] 31 (0, 0)) BK254 hb; replace HB := sb hb; (try clear hb)))
 (try simp only [Act.put, List.setIfInBounds_toArray, List.set_cons_zero, List.set_cons_succ])
 go_cut [34] (fun v34 wc => ∃ (kq : Nat) (x34_10 : Bool), v34 = .bool x34_10 ∧ Aside0 (laws_FnExactShopText.j0 kq x34_10 l0_0 l0_1 t248 t251 = some r) ∧ Aside0 (kq ≤ k) ∧ Aside0 (Kd.R (Kd.int .i64) 3 wc w.heap.size (fun _ => True) (.slice Ao23 t248.length co23) t248) ∧ Aside0 (Kd.R k40 40 wc w.heap.size (fun _ => True) (.slice Ao26 t251.length co26) t251) ∧ Aside0 (wc.heap[gb238]? = some (.cells #[(.slice A0_0 l0_0.length c0_0), (.slice A0_1 l0_1.length c0_1)] 25 (0, 0))) ∧ Aside0 (wc.heap[gb254]? = some (.cells #[(.slice Ao23 t248.length co23), (.slice Ao26 t251.length co26)] 31 (0, 0))) ∧ Aside0 (Below w.heap.size w wc))
 case first =>
  have H := HC11.out; clear HC11; by_cases c28 : t255.toList = t246.toList
  ·rw [if_pos c28] at H; have c28b0 : (t255.toList == t246.toList) = true := beq_iff_eq.mpr c28; have c28b1 : (t255.toList != t246.toList) = false := bne_eq_false_iff_eq.mpr c28; clear c28; (first | rw [c28b0] | (simp only [i64_w, i32_w]; rw [c28b0]) | skip); have H' := am H; clear H
   go_wp2
   go_meet
   case rel => exact ⟨_, ((t256 != t247)), sq, H', ⟨by first | omega | exact Nat.le_refl _⟩, ⟨rm HO250⟩, ⟨rm HO253⟩, ⟨zq BK238⟩, ⟨zq BK254⟩, ⟨bq⟩⟩
  rw [if_neg c28] at H; have c28b0 : (t255.toList == t246.toList) = false := beq_eq_false_iff_ne.mpr c28; have c28b1 : (t255.toList != t246.toList) = true := bne_iff_ne.mpr c28; (first | rw [c28b0] | (simp only [i64_w, i32_w]; rw [c28b0]) | skip); have H' := am H; clear H
  go_wp2
  go_meet
  case rel => exact ⟨_, (true), sq, H', ⟨by first | omega | exact Nat.le_refl _⟩, ⟨rm HO250⟩, ⟨rm HO253⟩, ⟨zq BK238⟩, ⟨zq BK254⟩, ⟨bq⟩⟩
 case rest =>
  clear HC11; try clear c3b0
  try clear c28b0
  try clear c28b1
  try clear b130 b131 d130 d131
  try clear b150 b151 d150 d151
  try clear b200 b201 d200 d201
  try clear b250 b251 d250 d251
  try clear b50 b51 d50 d51
  obtain ⟨kq, x34_10, rfl, HA, HJ10, HO_13, HO_15, BK238, BK254, HB⟩ := hcut
  cases kq with
  | zero => exact absurd HA.out (by simp [laws_FnExactShopText.j0])
  | succ kj10 =>
   have H := HA.out; clear HA; simp only [laws_FnExactShopText.j0] at H; by_cases c29 : x34_10 = true
   ·subst c29; rw [if_pos rfl] at H; try dsimp only at H
    obtain rfl := Option.some.inj H
    go_wp2
    go_ret
    exact ⟨eq_, bq⟩
   replace c29 := Bool.eq_false_iff.mpr c29; subst c29; rw [if_neg (show ¬ (false = true) by decide)] at H; try dsimp only at H
   obtain ⟨⟨t257, t260⟩, A30, H⟩ := bindq H; try dsimp only at H
   obtain ⟨t263, A31, H⟩ := bindq H; try dsimp only at H
   by_cases c32 : t263 = true
   ·subst c32; rw [if_pos rfl] at H; try dsimp only at H
    obtain rfl := Option.some.inj H; try go_wp2
    replace HO_13 := am (Kd.R_drew HO_13.out); replace HO_15 := am (Kd.R_drew HO_15.out); replace BK238 := am (blk_drew BK238.out); replace BK254 := am (blk_drew BK254.out); replace HB := am (below_drew1 HB.out); refine start_ (n := 5) (S := fun w' => w'.cell? ⟨gb254, 0, none⟩ = some (.slice Ao23 t248.length co23) ∧ w'.cell? ⟨gb254, 1, none⟩ = some (.slice Ao26 t251.length co26) ∧ w'.cell? ⟨gb238, 0, none⟩ = some (.slice A0_0 l0_0.length c0_0) ∧ w'.cell? ⟨gb238, 1, none⟩ = some (.slice A0_1 l0_1.length c0_1)) (ds := []) #[O, O, O, O, O] (by kernel_rfl) rfl rfl cl (fun hHeld => ?_); generalize wc.drew = w33 at HO_13 HO_15 BK238 BK254 HB hHeld ⊢; refine tk_ 0 (some 35) ?_ #[I, O, O, O, O] rfl rfl (by kernel_rfl) (.inl ⟨by rfl, ?_⟩) hHeld ?_ ?_ ?_; rotate_left; (rintro w' ⟨s0, s1, s2, s3⟩; go_simp; with_reducible rfl); rotate_left; (simp only [pw]; rfl); refine tk_ 1 (some 36) ?_ #[I, I, O, O, O] rfl rfl (by kernel_rfl) (.inl ⟨by rfl, ?_⟩) hHeld ?_ ?_ ?_; rotate_left; (rintro w' ⟨s0, s1, s2, s3⟩; go_simp; with_reducible rfl); rotate_left; (simp only [pw]; rfl); refine one_ (i := 2) (N := some 37) #[I, I, I, O, O] rfl rfl (by kernel_rfl) (by decide) (fun K hK => ?_); refine goes_ Tryd.func6 (by kernel_rfl) rfl #[.agg #[.slice A0_0 l0_0.length c0_0, .slice A0_1 l0_1.length c0_1]] (by rfl) rfl rfl mq ?_; with_reducible refine (laws_toShop.calls kj10 _ _ l0_0 _ _ l0_1 t257 t260 _ ?s1 ?s2 ?s3 ?s4 A30.out).mono ?_
    (case s1 => exact cq (Kd.C_below HR0_0.out HB.out)); (case s2 => exact HC0_0.out); (case s3 => exact cq (Kd.C_below HR0_1.out HB.out)); (case s4 => exact HC0_1.out); rintro e w34 ⟨v258, v261, rfl, ho0, ho1, hb⟩; refine ⟨_, rfl, ?_⟩; have HO259 := rl (Kd.R_new' ho0 (lw HO_13)); replace HO_13 := am (Kd.R_elder' (rq HO_13) (Kd.R_base ho0) hb); have HO262 := rl (Kd.R_new' ho1 (lw HO_15)); replace HO_15 := am (Kd.R_elder' (rq HO_15) (Kd.R_base ho1) hb); replace BK238 := zb BK238 hb; replace BK254 := zb BK254 hb; replace HB := sb hb; (try clear hb ho0 ho1); obtain ⟨Ao35, co35, eo35⟩ := Kd.R_slice HO259.out; (first | subst eo35 | (injection eo35 with f1_ f2_ f3_; have f4_ := f1_.symm; have f5_ := f3_.symm; clear f1_ f2_ f3_; subst f4_; subst f5_)); obtain ⟨Ao36, co36, eo36⟩ := Kd.R_slice HO262.out; (first | subst eo36 | (injection eo36 with f1_ f2_ f3_; have f4_ := f1_.symm; have f5_ := f3_.symm; clear f1_ f2_ f3_; subst f4_; subst f5_)); refine hK.out _ _ cl (fun hHeld => ?_); clear hK K; refine norm_ (a' := ?_) ?_ ?_; rotate_left
    ·show Act.put _ (some 37) _ = _
     simp only [pw]; rfl
    refine one_ (i := 3) (N := some 38) #[I, I, I, I, O] rfl rfl (by kernel_rfl) (by decide) (fun K hK => ?_); refine goes_ Tryd.func8 (by kernel_rfl) rfl #[.agg #[.slice Ao23 t248.length co23, .slice Ao26 t251.length co26], .agg #[.slice Ao35 t257.length co35, .slice Ao36 t260.length co36]] (by rfl) rfl rfl mq ?_; with_reducible refine (laws_eqShop.calls kj10 _ _ t248 _ _ t251 _ _ t257 _ _ t260 true _ ?s1 ?s2 ?s3 ?s4 ?s5 ?s6 ?s7 ?s8 A31.out).mono ?_
    (case s1 => exact cr HO_13); (case s2 => exact rq1 HO_13); (case s3 => exact cr HO_15); (case s4 => exact rq1 HO_15); (case s5 => exact cr HO259); (case s6 => exact rq1 HO259); (case s7 => exact cr HO262); (case s8 => exact rq1 HO262); rintro e w37 ⟨rfl, hb⟩; refine ⟨_, rfl, ?_⟩; replace HO_13 := rb HO_13 hb; replace HO_15 := rb HO_15 hb; replace HO259 := rb HO259 hb; replace HO262 := rb HO262 hb; replace BK238 := zb BK238 hb; replace BK254 := zb BK254 hb; replace HB := sb hb; (try clear hb); refine hK.out _ _ cl (fun hHeld => ?_); clear hK K; refine norm_ (a' := ?_) ?_ ?_; rotate_left
    ·show Act.put _ (some 38) _ = _
     simp only [pw]; rfl
    refine pu_ 4 (some 39) ?_ #[I, I, I, I, I] rfl rfl (by kernel_rfl) (.inl ⟨by rfl, ?_⟩) ?_ ?_ ?_; rotate_left; (intro w'; go_simp; with_reducible rfl); rotate_left; (simp only [pw]; rfl); refine done_ (by kernel_rfl) ?_; try go_wp2
    go_ret
    exact ⟨eq_, bq⟩
   replace c32 := Bool.eq_false_iff.mpr c32; subst c32; rw [if_neg (show ¬ (false = true) by decide)] at H; try dsimp only at H
   obtain rfl := Option.some.inj H; try go_wp2
   replace HO_13 := am (Kd.R_drew HO_13.out); replace HO_15 := am (Kd.R_drew HO_15.out); replace BK238 := am (blk_drew BK238.out); replace BK254 := am (blk_drew BK254.out); replace HB := am (below_drew1 HB.out); refine start_ (n := 5) (S := fun w' => w'.cell? ⟨gb254, 0, none⟩ = some (.slice Ao23 t248.length co23) ∧ w'.cell? ⟨gb254, 1, none⟩ = some (.slice Ao26 t251.length co26) ∧ w'.cell? ⟨gb238, 0, none⟩ = some (.slice A0_0 l0_0.length c0_0) ∧ w'.cell? ⟨gb238, 1, none⟩ = some (.slice A0_1 l0_1.length c0_1)) (ds := []) #[O, O, O, O, O] (by kernel_rfl) rfl rfl cl (fun hHeld => ?_); generalize wc.drew = w38 at HO_13 HO_15 BK238 BK254 HB hHeld ⊢; refine tk_ 0 (some 35) ?_ #[I, O, O, O, O] rfl rfl (by kernel_rfl) (.inl ⟨by rfl, ?_⟩) hHeld ?_ ?_ ?_; rotate_left; (rintro w' ⟨s0, s1, s2, s3⟩; go_simp; with_reducible rfl); rotate_left; (simp only [pw]; rfl); refine tk_ 1 (some 36) ?_ #[I, I, O, O, O] rfl rfl (by kernel_rfl) (.inl ⟨by rfl, ?_⟩) hHeld ?_ ?_ ?_; rotate_left; (rintro w' ⟨s0, s1, s2, s3⟩; go_simp; with_reducible rfl); rotate_left; (simp only [pw]; rfl); refine one_ (i := 2) (N := some 37) #[I, I, I, O, O] rfl rfl (by kernel_rfl) (by decide) (fun K hK => ?_); refine goes_ Tryd.func6 (by kernel_rfl) rfl #[.agg #[.slice A0_0 l0_0.length c0_0, .slice A0_1 l0_1.length c0_1]] (by rfl) rfl rfl mq ?_; with_reducible refine (laws_toShop.calls kj10 _ _ l0_0 _ _ l0_1 t257 t260 _ ?s1 ?s2 ?s3 ?s4 A30.out).mono ?_
   (case s1 => exact cq (Kd.C_below HR0_0.out HB.out)); (case s2 => exact HC0_0.out); (case s3 => exact cq (Kd.C_below HR0_1.out HB.out)); (case s4 => exact HC0_1.out); rintro e w39 ⟨v258, v261, rfl, ho0, ho1, hb⟩; refine ⟨_, rfl, ?_⟩; have HO259 := rl (Kd.R_new' ho0 (lw HO_13)); replace HO_13 := am (Kd.R_elder' (rq HO_13) (Kd.R_base ho0) hb); have HO262 := rl (Kd.R_new' ho1 (lw HO_15)); replace HO_15 := am (Kd.R_elder' (rq HO_15) (Kd.R_base ho1) hb); replace BK238 := zb BK238 hb; replace BK254 := zb BK254 hb; replace HB := sb hb; (try clear hb ho0 ho1); obtain ⟨Ao40, co40, eo40⟩ := Kd.R_slice HO259.out; (first | subst eo40 | (injection eo40 with f1_ f2_ f3_; have f4_ := f1_.symm; have f5_ := f3_.symm; clear f1_ f2_ f3_; subst f4_; subst f5_)); obtain ⟨Ao41, co41, eo41⟩ := Kd.R_slice HO262.out; (first | subst eo41 | (injection eo41 with f1_ f2_ f3_; have f4_ := f1_.symm; have f5_ := f3_.symm; clear f1_ f2_ f3_; subst f4_; subst f5_)); refine hK.out _ _ cl (fun hHeld => ?_); clear hK K; refine norm_ (a' := ?_) ?_ ?_; rotate_left
   ·show Act.put _ (some 37) _ = _
    simp only [pw]; rfl
   refine one_ (i := 3) (N := some 38) #[I, I, I, I, O] rfl rfl (by kernel_rfl) (by decide) (fun K hK => ?_); refine goes_ Tryd.func8 (by kernel_rfl) rfl #[.agg #[.slice Ao23 t248.length co23, .slice Ao26 t251.length co26], .agg #[.slice Ao40 t257.length co40, .slice Ao41 t260.length co41]] (by rfl) rfl rfl mq ?_; with_reducible refine (laws_eqShop.calls kj10 _ _ t248 _ _ t251 _ _ t257 _ _ t260 false _ ?s1 ?s2 ?s3 ?s4 ?s5 ?s6 ?s7 ?s8 A31.out).mono ?_
   (case s1 => exact cr HO_13); (case s2 => exact rq1 HO_13); (case s3 => exact cr HO_15); (case s4 => exact rq1 HO_15); (case s5 => exact cr HO259); (case s6 => exact rq1 HO259); (case s7 => exact cr HO262); (case s8 => exact rq1 HO262); rintro e w42 ⟨rfl, hb⟩; refine ⟨_, rfl, ?_⟩; replace BK238 := zb BK238 hb; replace BK254 := zb BK254 hb; replace HB := sb hb; (try clear hb); refine hK.out _ _ cl (fun hHeld => ?_); clear hK K; refine norm_ (a' := ?_) ?_ ?_; rotate_left
   ·show Act.put _ (some 38) _ = _
    simp only [pw]; rfl
   refine pu_ 4 (some 39) ?_ #[I, I, I, I, I] rfl rfl (by kernel_rfl) (.inl ⟨by rfl, ?_⟩) ?_ ?_ ?_; rotate_left; (intro w'; go_simp; with_reducible rfl); rotate_left; (simp only [pw]; rfl); refine done_ (by kernel_rfl) ?_; try go_wp2
   go_ret
   exact ⟨eq_, bq⟩



end Go.Proofs.YthpjjfhkebppmaaDoor.Pall
