-- written by the kit's print program, put together by a program
import Derived.Test.YtokigipkoeeddaaMFnExactExtendLoan0
namespace Go.Proofs.Ytokigipkoeeddaa.Pall
open Go.RowKit Go.Proofs.YtokigipkoeeddaaW.PrintWords Go.Proofs.YtokigipkoeeddaaW.PrintLast Go.Proofs.YtokigipkoeeddaaW.PrintMore
attribute [local go_sem] max2_int min2_int max_two min_two max_three min_three max_four min_four   -- for this text's walks alone
set_option linter.unusedVariables false
set_option linter.unusedSimpArgs false
/-! ### impl_isLoan: function 42 -/
def impl_isLoan.f (a0_0 : Int) (a0_1 : Int) (a0_2 : Int) (a0_3 : Int) : Option (Bool) := if a0_0 ≥ 1 then (if a0_0 ≤ 99 then (if a0_1 ≥ 1 then (if a0_1 ≤ 7 then (if a0_2 ≥ 1 then (if a0_2 ≤ 99 then ((impl_isDay.f a0_3).bind fun t187 => (some t187)) else (some false)) else (some false)) else (some false)) else (some false)) else (some false)) else (some false)
set_option maxHeartbeats 8000000 in
set_option maxRecDepth 100000 in
theorem impl_isLoan.calls (a0_0 : Int) (a0_1 : Int) (a0_2 : Int) (a0_3 : Int) (r : Bool) (w : World) (h : impl_isLoan.f a0_0 a0_1 a0_2 a0_3 = some r) :
  Calls Try.prog 42 #[.agg #[.int .i64 a0_0, .int .i64 a0_1, .int .i64 a0_2, .int .i64 a0_3]] w fun e w' => e = .returned (.bool r) ∧ Below w.heap.size w w' := by
 have hu41 := Try.underlying41
 have HB := am (Below.refl w.heap.size w)
 have H : (if a0_0 ≥ 1 then (if a0_0 ≤ 99 then (if a0_1 ≥ 1 then (if a0_1 ≤ 7 then (if a0_2 ≥ 1 then (if a0_2 ≤ 99 then ((impl_isDay.f a0_3).bind fun t187 => (some t187)) else (some false)) else (some false)) else (some false)) else (some false)) else (some false)) else (some false)) = some r := h
 clear h
 by_cases c2 : a0_0 ≥ 1
 ·rw [if_pos c2] at H
  have c2b0 : decide (1 ≤ a0_0) = true := decide_eq_true c2
  clear c2
  by_cases c3 : a0_0 ≤ 99
  ·rw [if_pos c3] at H
   have c3b0 : decide (a0_0 ≤ 99) = true := decide_eq_true c3
   clear c3
   by_cases c4 : a0_1 ≥ 1
   ·rw [if_pos c4] at H
    have c4b0 : decide (1 ≤ a0_1) = true := decide_eq_true c4
    clear c4
    by_cases c5 : a0_1 ≤ 7
    ·rw [if_pos c5] at H
     have c5b0 : decide (a0_1 ≤ 7) = true := decide_eq_true c5
     clear c5
     by_cases c6 : a0_2 ≥ 1
     ·rw [if_pos c6] at H
      have c6b0 : decide (1 ≤ a0_2) = true := decide_eq_true c6
      clear c6
      by_cases c7 : a0_2 ≤ 99
      ·rw [if_pos c7] at H
       have c7b0 : decide (a0_2 ≤ 99) = true := decide_eq_true c7
       clear c7
       obtain ⟨t187, A8, H⟩ := bindq H
       try dsimp only at H
       obtain rfl := Option.some.inj H
       go_enter Try.func42, Try.ntmps42
       go_wp2_with (first | ((with_reducible refine gate_dst (N := 1) rfl ?_); refine box_event ?hg (N := 1) ?hd (cs := #[.int .i64 a0_0, .int .i64 a0_1, .int .i64 a0_2, .int .i64 a0_3]) (t := 41) ?hr ?_; (case hd => rfl); (case hg => rfl); (case hr => first | (go_simp; done) | (go_simp; rfl)); intro gb186 hg w9 hbox hb; have BK186 := am (hbox); have GW186 := am (gq hg); have GE186 := am (gq hg); replace HB := sb hb; clear hb hbox hg; have ⟨hcz10_0, hcz10_1, hcz10_2, hcz10_3, hfz10_0, hfz10_1, hfz10_2, hfz10_3⟩ := bc4 BK186) | (go_at_call 37; (with_reducible refine (impl_isDay.calls a0_3 t187 _ A8.out).mono ?_); rintro e w' ⟨rfl, ⟨nd, rfl⟩⟩))
       go_ret
       exact ⟨eq_, bq⟩
      ·rw [if_neg c7] at H
       have c7b0 : decide (a0_2 ≤ 99) = false := decide_eq_false c7
       clear c7
       obtain rfl := Option.some.inj H
       go_enter Try.func42, Try.ntmps42
       go_wp2_with (first | ((with_reducible refine gate_dst (N := 1) rfl ?_); refine box_event ?hg (N := 1) ?hd (cs := #[.int .i64 a0_0, .int .i64 a0_1, .int .i64 a0_2, .int .i64 a0_3]) (t := 41) ?hr ?_; (case hd => rfl); (case hg => rfl); (case hr => first | (go_simp; done) | (go_simp; rfl)); intro gb186 hg w11 hbox hb; have BK186 := am (hbox); have GW186 := am (gq hg); have GE186 := am (gq hg); replace HB := sb hb; clear hb hbox hg; have ⟨hcz12_0, hcz12_1, hcz12_2, hcz12_3, hfz12_0, hfz12_1, hfz12_2, hfz12_3⟩ := bc4 BK186))
       go_ret
       exact ⟨eq_, bq⟩
     ·rw [if_neg c6] at H
      have c6b0 : decide (1 ≤ a0_2) = false := decide_eq_false c6
      clear c6
      obtain rfl := Option.some.inj H
      go_enter Try.func42, Try.ntmps42
      go_wp2_with (first | ((with_reducible refine gate_dst (N := 1) rfl ?_); refine box_event ?hg (N := 1) ?hd (cs := #[.int .i64 a0_0, .int .i64 a0_1, .int .i64 a0_2, .int .i64 a0_3]) (t := 41) ?hr ?_; (case hd => rfl); (case hg => rfl); (case hr => first | (go_simp; done) | (go_simp; rfl)); intro gb186 hg w13 hbox hb; have BK186 := am (hbox); have GW186 := am (gq hg); have GE186 := am (gq hg); replace HB := sb hb; clear hb hbox hg; have ⟨hcz14_0, hcz14_1, hcz14_2, hcz14_3, hfz14_0, hfz14_1, hfz14_2, hfz14_3⟩ := bc4 BK186))
      go_ret
      exact ⟨eq_, bq⟩
    ·rw [if_neg c5] at H
     have c5b0 : decide (a0_1 ≤ 7) = false := decide_eq_false c5
     clear c5
     obtain rfl := Option.some.inj H
     go_enter Try.func42, Try.ntmps42
     go_wp2_with (first | ((with_reducible refine gate_dst (N := 1) rfl ?_); refine box_event ?hg (N := 1) ?hd (cs := #[.int .i64 a0_0, .int .i64 a0_1, .int .i64 a0_2, .int .i64 a0_3]) (t := 41) ?hr ?_; (case hd => rfl); (case hg => rfl); (case hr => first | (go_simp; done) | (go_simp; rfl)); intro gb186 hg w15 hbox hb; have BK186 := am (hbox); have GW186 := am (gq hg); have GE186 := am (gq hg); replace HB := sb hb; clear hb hbox hg; have ⟨hcz16_0, hcz16_1, hcz16_2, hcz16_3, hfz16_0, hfz16_1, hfz16_2, hfz16_3⟩ := bc4 BK186))
     go_ret
     exact ⟨eq_, bq⟩
   ·rw [if_neg c4] at H
    have c4b0 : decide (1 ≤ a0_1) = false := decide_eq_false c4
    clear c4
    obtain rfl := Option.some.inj H
    go_enter Try.func42, Try.ntmps42
    go_wp2_with (first | ((with_reducible refine gate_dst (N := 1) rfl ?_); refine box_event ?hg (N := 1) ?hd (cs := #[.int .i64 a0_0, .int .i64 a0_1, .int .i64 a0_2, .int .i64 a0_3]) (t := 41) ?hr ?_; (case hd => rfl); (case hg => rfl); (case hr => first | (go_simp; done) | (go_simp; rfl)); intro gb186 hg w17 hbox hb; have BK186 := am (hbox); have GW186 := am (gq hg); have GE186 := am (gq hg); replace HB := sb hb; clear hb hbox hg; have ⟨hcz18_0, hcz18_1, hcz18_2, hcz18_3, hfz18_0, hfz18_1, hfz18_2, hfz18_3⟩ := bc4 BK186))
    go_ret
    exact ⟨eq_, bq⟩
  ·rw [if_neg c3] at H
   have c3b0 : decide (a0_0 ≤ 99) = false := decide_eq_false c3
   clear c3
   obtain rfl := Option.some.inj H
   go_enter Try.func42, Try.ntmps42
   go_wp2_with (first | ((with_reducible refine gate_dst (N := 1) rfl ?_); refine box_event ?hg (N := 1) ?hd (cs := #[.int .i64 a0_0, .int .i64 a0_1, .int .i64 a0_2, .int .i64 a0_3]) (t := 41) ?hr ?_; (case hd => rfl); (case hg => rfl); (case hr => first | (go_simp; done) | (go_simp; rfl)); intro gb186 hg w19 hbox hb; have BK186 := am (hbox); have GW186 := am (gq hg); have GE186 := am (gq hg); replace HB := sb hb; clear hb hbox hg; have ⟨hcz20_0, hcz20_1, hcz20_2, hcz20_3, hfz20_0, hfz20_1, hfz20_2, hfz20_3⟩ := bc4 BK186))
   go_ret
   exact ⟨eq_, bq⟩
 ·rw [if_neg c2] at H
  have c2b0 : decide (1 ≤ a0_0) = false := decide_eq_false c2
  clear c2
  obtain rfl := Option.some.inj H
  go_enter Try.func42, Try.ntmps42
  go_wp2_with (first | ((with_reducible refine gate_dst (N := 1) rfl ?_); refine box_event ?hg (N := 1) ?hd (cs := #[.int .i64 a0_0, .int .i64 a0_1, .int .i64 a0_2, .int .i64 a0_3]) (t := 41) ?hr ?_; (case hd => rfl); (case hg => rfl); (case hr => first | (go_simp; done) | (go_simp; rfl)); intro gb186 hg w21 hbox hb; have BK186 := am (hbox); have GW186 := am (gq hg); have GE186 := am (gq hg); replace HB := sb hb; clear hb hbox hg; have ⟨hcz22_0, hcz22_1, hcz22_2, hcz22_3, hfz22_0, hfz22_1, hfz22_2, hfz22_3⟩ := bc4 BK186))
  go_ret
  exact ⟨eq_, bq⟩



/-! ### impl_sameLoan: function 43 -/
def impl_sameLoan.l0 : Nat → List (S41) → Int → Int → Int → Int → Int → Int → Option (Int)
 | 0, _, _, _, _, _, _, _ => none
 | k + 1, x7, x8, x9, x189000, x189001, x189002, x189003 => if x9 < x8 then (if 0 ≤ x9 then (if x9 < (x7.length : Int) then (if x189000 = ((rd_T41 x7 x9).f0) then (if x189001 = ((rd_T41 x7 x9).f1) then (if x189003 = ((rd_T41 x7 x9).f3) then (some x9) else (impl_sameLoan.l0 k x7 x8 (wrap64 (x9 + 1)) x189000 x189001 x189002 x189003)) else (impl_sameLoan.l0 k x7 x8 (wrap64 (x9 + 1)) x189000 x189001 x189002 x189003)) else (impl_sameLoan.l0 k x7 x8 (wrap64 (x9 + 1)) x189000 x189001 x189002 x189003)) else (none)) else (none)) else (some (-1))
def impl_sameLoan.f (k : Nat) (l0 : List (S41)) (a1_0 : Int) (a1_1 : Int) (a1_2 : Int) (a1_3 : Int) : Option (Int) := impl_sameLoan.l0 k l0 (l0.length : Int) 0 a1_0 a1_1 a1_2 a1_3
theorem impl_sameLoan.mono_l : ∀ k, (∀ y0 y1 y2 y3 y4 y5 y6, LeO (impl_sameLoan.l0 k y0 y1 y2 y3 y4 y5 y6) (impl_sameLoan.l0 (k + 1) y0 y1 y2 y3 y4 y5 y6))
 | 0 => fun _ _ _ _ _ _ _ r h => by simp [impl_sameLoan.l0] at h
 | k + 1 => by
  have ih0 := impl_sameLoan.mono_l k
  ·intro y0 y1 y2 y3 y4 y5 y6
   unfold impl_sameLoan.l0
   repeat' first
   | (with_reducible exact ih0 _ _ _ _ _ _ _)
   | (with_reducible exact LeO.refl _)
   | (with_reducible exact LeO.none _)
   | (with_reducible refine LeO.ite ?_ ?_)
   | (with_reducible refine LeO.bind ?_ (fun _ => ?_))
   | exact ih0 _ _ _ _ _ _ _
   | exact LeO.none _
   | refine LeO.ite ?_ ?_
   | refine LeO.bind ?_ (fun _ => ?_)
theorem impl_sameLoan.mono : ∀ a0 a1 a2 a3 a4 k, LeO (impl_sameLoan.f k a0 a1 a2 a3 a4) (impl_sameLoan.f (k + 1) a0 a1 a2 a3 a4) := by
 intro a0 a1 a2 a3 a4 k
 have ih0 := impl_sameLoan.mono_l k
 unfold impl_sameLoan.f
 repeat' first
   | (with_reducible exact ih0 _ _ _ _ _ _ _)
   | (with_reducible exact LeO.refl _)
   | (with_reducible exact LeO.none _)
   | (with_reducible refine LeO.ite ?_ ?_)
   | (with_reducible refine LeO.bind ?_ (fun _ => ?_))
   | exact ih0 _ _ _ _ _ _ _
   | exact LeO.none _
   | refine LeO.ite ?_ ?_
   | refine LeO.bind ?_ (fun _ => ?_)
set_option maxHeartbeats 8000000 in
set_option maxRecDepth 100000 in
theorem impl_sameLoan.calls (k : Nat) (A0 : Option Addr) (c0 : Nat) (l0 : List (S41)) (a1_0 : Int) (a1_1 : Int) (a1_2 : Int) (a1_3 : Int) (r : Int) (w : World) (hr0 : Kd.C k41 w A0 l0.length l0) (hc0 : l0.length ≤ c0) (h : impl_sameLoan.f k l0 a1_0 a1_1 a1_2 a1_3 = some r) :
  Calls Try.prog 43 #[.slice A0 l0.length c0, .agg #[.int .i64 a1_0, .int .i64 a1_1, .int .i64 a1_2, .int .i64 a1_3]] w fun e w' => e = .returned (.int .i64 r) ∧ Below w.heap.size w w' := by
 have hu41 := Try.underlying41
 have HR0 := am hr0
 have HC0 := am hc0
 clear hr0 hc0
 have HB := am (Below.refl w.heap.size w)
 have H : (impl_sameLoan.l0 k l0 (l0.length : Int) 0 a1_0 a1_1 a1_2 a1_3) = some r := h
 clear h
 have H' := am H
 clear H
 go_enter Try.func43, Try.ntmps43
 go_wp2_with (first | ((with_reducible refine gate_dst (N := 3) rfl ?_); refine box_event ?hg (N := 3) ?hd (cs := #[.int .i64 a1_0, .int .i64 a1_1, .int .i64 a1_2, .int .i64 a1_3]) (t := 41) ?hr ?_; (case hd => rfl); (case hg => rfl); (case hr => first | (go_simp; done) | (go_simp; rfl)); intro gb188 hg w3 hbox hb; have BK188 := am (hbox); have GW188 := am (gq hg); have GE188 := am (gq hg); replace HB := sb hb; clear hb hbox hg))
 go_loopg [9] k (fun kq v9 w' => ∃ (x9_1 : Int), v9 = .int .i64 x9_1 ∧ Aside0 (impl_sameLoan.l0 kq l0 (l0.length : Int) x9_1 a1_0 a1_1 a1_2 a1_3 = some r) ∧ Aside0 (kq ≤ k) ∧ Aside0 (w'.heap[gb188]? = some (.cells #[.int .i64 a1_0, .int .i64 a1_1, .int .i64 a1_2, .int .i64 a1_3] 41 (0, 0))) ∧ Aside0 (Below w.heap.size w w'))
 case atStart => exact ⟨(0), sq, H', ⟨Nat.le_refl _⟩, ⟨zq BK188⟩, ⟨bq⟩⟩
 case round =>
  clear H'
  obtain ⟨x9_1, rfl, HA, HK1, BK188, HB⟩ := hrel
  cases gk with
  | zero => exact absurd HA.out (by simp [impl_sameLoan.l0])
  | succ k1 =>
   have H := HA.out
   clear HA
   simp only [impl_sameLoan.l0] at H
   by_cases c4 : x9_1 < (l0.length : Int)
   ·rw [if_pos c4] at H
    have c4b0 : decide (x9_1 < (l0.length : Int)) = true := decide_eq_true c4
    clear c4
    by_cases c5 : 0 ≤ x9_1
    ·rw [if_pos c5] at H
     have c5b0 : decide (0 ≤ x9_1) = true := decide_eq_true c5
     clear c5
     by_cases c6 : x9_1 < (l0.length : Int)
     ·rw [if_pos c6] at H
      have c6b0 : decide (x9_1 < (l0.length : Int)) = true := decide_eq_true c6
      clear c6
      by_cases c7 : a1_0 = ((rd_T41 l0 x9_1).f0)
      ·rw [if_pos c7] at H
       have c7b0 : (a1_0 == ((rd_T41 l0 x9_1).f0)) = true := beq_iff_eq.mpr c7
       have c7b1 : (a1_0 != ((rd_T41 l0 x9_1).f0)) = false := bne_eq_false_iff_eq.mpr c7
       clear c7
       by_cases c8 : a1_1 = ((rd_T41 l0 x9_1).f1)
       ·rw [if_pos c8] at H
        have c8b0 : (a1_1 == ((rd_T41 l0 x9_1).f1)) = true := beq_iff_eq.mpr c8
        have c8b1 : (a1_1 != ((rd_T41 l0 x9_1).f1)) = false := bne_eq_false_iff_eq.mpr c8
        clear c8
        by_cases c9 : a1_3 = ((rd_T41 l0 x9_1).f3)
        ·rw [if_pos c9] at H
         have c9b0 : (a1_3 == ((rd_T41 l0 x9_1).f3)) = true := beq_iff_eq.mpr c9
         have c9b1 : (a1_3 != ((rd_T41 l0 x9_1).f3)) = false := bne_eq_false_iff_eq.mpr c9
         clear c9
         obtain rfl := Option.some.inj H
         have p189 : 0 ≤ (x9_1 : Int) := of_decide_eq_true aq
         have q189 : x9_1 < (l0.length : Int) := of_decide_eq_true aq
         obtain ⟨ad189, e189, hx189_0, hx189_1, hx189_2, hx189_3⟩ := at_T41 HR0.out x9_1 p189 q189
         cases e189
         replace hx189_0 := (HB.out.cell (World.block_lt_of_cell? w _ hx189_0)).trans hx189_0
         replace hx189_1 := (HB.out.cell (World.block_lt_of_cell? w _ hx189_1)).trans hx189_1
         replace hx189_2 := (HB.out.cell (World.block_lt_of_cell? w _ hx189_2)).trans hx189_2
         replace hx189_3 := (HB.out.cell (World.block_lt_of_cell? w _ hx189_3)).trans hx189_3
         replace p189 := eq_true p189
         replace q189 := eq_true q189
         go_wp2_with (first | ((with_reducible refine gate_dst (N := 6) rfl ?_); refine box_event ?hg (N := 6) ?hd (cs := #[.int .i64 0, .int .i64 0, .int .i64 0, .int .i64 0]) (t := 41) ?hr ?_; (case hd => rfl); (case hg => rfl); (case hr => first | (go_simp; done) | (go_simp; rfl)); intro gb190 hg w10 hbox hb; have BK190 := am (hbox); have GW190 := am (gq hg); have GE190 := am (gq hg); replace HB := sb hb; have NB188_190 := nl hg BK188; have NB190_188 := ng hg BK188; replace BK188 := zb BK188 hb; clear hb hbox hg; have hnb11 := NB190_188.out; have hnc11 := NB188_190.out; have ⟨hcz12_0, hcz12_1, hcz12_2, hcz12_3, hfz12_0, hfz12_1, hfz12_2, hfz12_3⟩ := bc4 BK190; have ⟨hcz13_0, hcz13_1, hcz13_2, hcz13_3, hfz13_0, hfz13_1, hfz13_2, hfz13_3⟩ := bc4 BK188))
         go_ret
         exact ⟨eq_, bq⟩
        ·rw [if_neg c9] at H
         have c9b0 : (a1_3 == ((rd_T41 l0 x9_1).f3)) = false := beq_eq_false_iff_ne.mpr c9
         have c9b1 : (a1_3 != ((rd_T41 l0 x9_1).f3)) = true := bne_iff_ne.mpr c9
         have H' := am H
         clear H
         have p189 : 0 ≤ (x9_1 : Int) := of_decide_eq_true aq
         have q189 : x9_1 < (l0.length : Int) := of_decide_eq_true aq
         obtain ⟨ad189, e189, hx189_0, hx189_1, hx189_2, hx189_3⟩ := at_T41 HR0.out x9_1 p189 q189
         cases e189
         replace hx189_0 := (HB.out.cell (World.block_lt_of_cell? w _ hx189_0)).trans hx189_0
         replace hx189_1 := (HB.out.cell (World.block_lt_of_cell? w _ hx189_1)).trans hx189_1
         replace hx189_2 := (HB.out.cell (World.block_lt_of_cell? w _ hx189_2)).trans hx189_2
         replace hx189_3 := (HB.out.cell (World.block_lt_of_cell? w _ hx189_3)).trans hx189_3
         replace p189 := eq_true p189
         replace q189 := eq_true q189
         go_wp2_with (first | ((with_reducible refine gate_dst (N := 6) rfl ?_); refine box_event ?hg (N := 6) ?hd (cs := #[.int .i64 0, .int .i64 0, .int .i64 0, .int .i64 0]) (t := 41) ?hr ?_; (case hd => rfl); (case hg => rfl); (case hr => first | (go_simp; done) | (go_simp; rfl)); intro gb190 hg w14 hbox hb; have BK190 := am (hbox); have GW190 := am (gq hg); have GE190 := am (gq hg); replace HB := sb hb; have NB188_190 := nl hg BK188; have NB190_188 := ng hg BK188; replace BK188 := zb BK188 hb; clear hb hbox hg; have hnb15 := NB190_188.out; have hnc15 := NB188_190.out; have ⟨hcz16_0, hcz16_1, hcz16_2, hcz16_3, hfz16_0, hfz16_1, hfz16_2, hfz16_3⟩ := bc4 BK190; have ⟨hcz17_0, hcz17_1, hcz17_2, hcz17_3, hfz17_0, hfz17_1, hfz17_2, hfz17_3⟩ := bc4 BK188))
         go_roundg k1
         case measure => have := HK1.out; omega
         case rel => exact ⟨(wrap64 (x9_1 + 1)), sq, H', ⟨by have := HK1.out; omega⟩, ⟨zp BK188⟩, ⟨bq⟩⟩
       ·rw [if_neg c8] at H
        have c8b0 : (a1_1 == ((rd_T41 l0 x9_1).f1)) = false := beq_eq_false_iff_ne.mpr c8
        have c8b1 : (a1_1 != ((rd_T41 l0 x9_1).f1)) = true := bne_iff_ne.mpr c8
        have H' := am H
        clear H
        have p189 : 0 ≤ (x9_1 : Int) := of_decide_eq_true aq
        have q189 : x9_1 < (l0.length : Int) := of_decide_eq_true aq
        obtain ⟨ad189, e189, hx189_0, hx189_1, hx189_2, hx189_3⟩ := at_T41 HR0.out x9_1 p189 q189
        cases e189
        replace hx189_0 := (HB.out.cell (World.block_lt_of_cell? w _ hx189_0)).trans hx189_0
        replace hx189_1 := (HB.out.cell (World.block_lt_of_cell? w _ hx189_1)).trans hx189_1
        replace hx189_2 := (HB.out.cell (World.block_lt_of_cell? w _ hx189_2)).trans hx189_2
        replace hx189_3 := (HB.out.cell (World.block_lt_of_cell? w _ hx189_3)).trans hx189_3
        replace p189 := eq_true p189
        replace q189 := eq_true q189
        go_wp2_with (first | ((with_reducible refine gate_dst (N := 6) rfl ?_); refine box_event ?hg (N := 6) ?hd (cs := #[.int .i64 0, .int .i64 0, .int .i64 0, .int .i64 0]) (t := 41) ?hr ?_; (case hd => rfl); (case hg => rfl); (case hr => first | (go_simp; done) | (go_simp; rfl)); intro gb190 hg w18 hbox hb; have BK190 := am (hbox); have GW190 := am (gq hg); have GE190 := am (gq hg); replace HB := sb hb; have NB188_190 := nl hg BK188; have NB190_188 := ng hg BK188; replace BK188 := zb BK188 hb; clear hb hbox hg; have hnb19 := NB190_188.out; have hnc19 := NB188_190.out; have ⟨hcz20_0, hcz20_1, hcz20_2, hcz20_3, hfz20_0, hfz20_1, hfz20_2, hfz20_3⟩ := bc4 BK190; have ⟨hcz21_0, hcz21_1, hcz21_2, hcz21_3, hfz21_0, hfz21_1, hfz21_2, hfz21_3⟩ := bc4 BK188))
        go_roundg k1
        case measure => have := HK1.out; omega
        case rel => exact ⟨(wrap64 (x9_1 + 1)), sq, H', ⟨by have := HK1.out; omega⟩, ⟨zp BK188⟩, ⟨bq⟩⟩
      ·rw [if_neg c7] at H
       have c7b0 : (a1_0 == ((rd_T41 l0 x9_1).f0)) = false := beq_eq_false_iff_ne.mpr c7
       have c7b1 : (a1_0 != ((rd_T41 l0 x9_1).f0)) = true := bne_iff_ne.mpr c7
       have H' := am H
       clear H
       have p189 : 0 ≤ (x9_1 : Int) := of_decide_eq_true aq
       have q189 : x9_1 < (l0.length : Int) := of_decide_eq_true aq
       obtain ⟨ad189, e189, hx189_0, hx189_1, hx189_2, hx189_3⟩ := at_T41 HR0.out x9_1 p189 q189
       cases e189
       replace hx189_0 := (HB.out.cell (World.block_lt_of_cell? w _ hx189_0)).trans hx189_0
       replace hx189_1 := (HB.out.cell (World.block_lt_of_cell? w _ hx189_1)).trans hx189_1
       replace hx189_2 := (HB.out.cell (World.block_lt_of_cell? w _ hx189_2)).trans hx189_2
       replace hx189_3 := (HB.out.cell (World.block_lt_of_cell? w _ hx189_3)).trans hx189_3
       replace p189 := eq_true p189
       replace q189 := eq_true q189
       go_wp2_with (first | ((with_reducible refine gate_dst (N := 6) rfl ?_); refine box_event ?hg (N := 6) ?hd (cs := #[.int .i64 0, .int .i64 0, .int .i64 0, .int .i64 0]) (t := 41) ?hr ?_; (case hd => rfl); (case hg => rfl); (case hr => first | (go_simp; done) | (go_simp; rfl)); intro gb190 hg w22 hbox hb; have BK190 := am (hbox); have GW190 := am (gq hg); have GE190 := am (gq hg); replace HB := sb hb; have NB188_190 := nl hg BK188; have NB190_188 := ng hg BK188; replace BK188 := zb BK188 hb; clear hb hbox hg; have hnb23 := NB190_188.out; have hnc23 := NB188_190.out; have ⟨hcz24_0, hcz24_1, hcz24_2, hcz24_3, hfz24_0, hfz24_1, hfz24_2, hfz24_3⟩ := bc4 BK190; have ⟨hcz25_0, hcz25_1, hcz25_2, hcz25_3, hfz25_0, hfz25_1, hfz25_2, hfz25_3⟩ := bc4 BK188))
       go_roundg k1
       case measure => have := HK1.out; omega
       case rel => exact ⟨(wrap64 (x9_1 + 1)), sq, H', ⟨by have := HK1.out; omega⟩, ⟨zp BK188⟩, ⟨bq⟩⟩
     ·rw [if_neg c6] at H
      exact absurd H (by simp)
    ·rw [if_neg c5] at H
     exact absurd H (by simp)
   ·rw [if_neg c4] at H
    have c4b0 : decide (x9_1 < (l0.length : Int)) = false := decide_eq_false c4
    clear c4
    obtain rfl := Option.some.inj H
    go_wp2
    go_ret
    exact ⟨eq_, bq⟩



/-! ### impl_IsShop: function 27 -/
mutual
def impl_IsShop.j0 : Nat → Bool → List Int → List (S41) → Option (Bool)
 | 0, _, _, _ => none
 | k + 1, x23, x192000, x192001 => if x23 = true then (some false) else (impl_IsShop.l0 k x192000 (x192000.length : Int) 0 x192000 x192001)
def impl_IsShop.l0 : Nat → List Int → Int → Int → List Int → List (S41) → Option (Bool)
 | 0, _, _, _, _, _ => none
 | k + 1, x25, x26, x27, x192000, x192001 => if x27 < x26 then (if 0 ≤ x27 then (if x27 < (x25.length : Int) then (if (rd x25 x27) < 0 then (some false) else (if (rd x25 x27) > 999 then (some false) else (impl_IsShop.l0 k x25 x26 (wrap64 (x27 + 1)) x192000 x192001))) else (none)) else (none)) else (impl_IsShop.l1 k x192001 (x192001.length : Int) 0 x192000 x192001)
def impl_IsShop.l1 : Nat → List (S41) → Int → Int → List Int → List (S41) → Option (Bool)
 | 0, _, _, _, _, _ => none
 | k + 1, x39, x40, x41, x192000, x192001 => if x41 < x40 then (if 0 ≤ x41 then (if x41 < (x39.length : Int) then ((impl_isLoan.f ((rd_T41 x39 x41).f0) ((rd_T41 x39 x41).f1) ((rd_T41 x39 x41).f2) ((rd_T41 x39 x41).f3)).bind fun t196 => (if t196 = true then (if x41 ≤ (x192001.length : Int) then ((impl_sameLoan.f k (x192001.take (x41 : Int).toNat) ((rd_T41 x39 x41).f0) ((rd_T41 x39 x41).f1) ((rd_T41 x39 x41).f2) ((rd_T41 x39 x41).f3)).bind fun t201 => (if t201 ≥ 0 then (some false) else (impl_IsShop.l1 k x39 x40 (wrap64 (x41 + 1)) x192000 x192001))) else (none)) else (some false))) else (none)) else (none)) else (some true)
end
def impl_IsShop.f (k : Nat) (l0_0 : List Int) (l0_1 : List (S41)) : Option (Bool) := if (l0_0.length : Int) = 8 then (if 0 < (l0_0.length : Int) then (if (rd l0_0 0) = 0 then (impl_IsShop.j0 k (decide ((l0_1.length : Int) > 20)) l0_0 l0_1) else (impl_IsShop.j0 k true l0_0 l0_1)) else (none)) else (impl_IsShop.j0 k true l0_0 l0_1)
theorem impl_IsShop.mono_l : ∀ k, (∀ y0 y1 y2, LeO (impl_IsShop.j0 k y0 y1 y2) (impl_IsShop.j0 (k + 1) y0 y1 y2)) ∧ (∀ y0 y1 y2 y3 y4, LeO (impl_IsShop.l0 k y0 y1 y2 y3 y4) (impl_IsShop.l0 (k + 1) y0 y1 y2 y3 y4)) ∧ (∀ y0 y1 y2 y3 y4, LeO (impl_IsShop.l1 k y0 y1 y2 y3 y4) (impl_IsShop.l1 (k + 1) y0 y1 y2 y3 y4))
 | 0 => ⟨fun _ _ _ r h => by simp [impl_IsShop.j0] at h, fun _ _ _ _ _ r h => by simp [impl_IsShop.l0] at h, fun _ _ _ _ _ r h => by simp [impl_IsShop.l1] at h⟩
 | k + 1 => by
  obtain ⟨ih0, ih1, ih2⟩ := impl_IsShop.mono_l k
  refine ⟨?_, ?_, ?_⟩
  ·intro y0 y1 y2
   unfold impl_IsShop.j0
   repeat' first
   | (with_reducible exact ih0 _ _ _)
   | (with_reducible exact ih1 _ _ _ _ _)
   | (with_reducible exact ih2 _ _ _ _ _)
   | (with_reducible exact impl_sameLoan.mono _ _ _ _ _ _)
   | (with_reducible exact LeO.refl _)
   | (with_reducible exact LeO.none _)
   | (with_reducible refine LeO.ite ?_ ?_)
   | (with_reducible refine LeO.bind ?_ (fun _ => ?_))
   | exact ih0 _ _ _
   | exact ih1 _ _ _ _ _
   | exact ih2 _ _ _ _ _
   | exact impl_sameLoan.mono _ _ _ _ _ _
   | exact LeO.none _
   | refine LeO.ite ?_ ?_
   | refine LeO.bind ?_ (fun _ => ?_)
  ·intro y0 y1 y2 y3 y4
   unfold impl_IsShop.l0
   repeat' first
   | (with_reducible exact ih0 _ _ _)
   | (with_reducible exact ih1 _ _ _ _ _)
   | (with_reducible exact ih2 _ _ _ _ _)
   | (with_reducible exact impl_sameLoan.mono _ _ _ _ _ _)
   | (with_reducible exact LeO.refl _)
   | (with_reducible exact LeO.none _)
   | (with_reducible refine LeO.ite ?_ ?_)
   | (with_reducible refine LeO.bind ?_ (fun _ => ?_))
   | exact ih0 _ _ _
   | exact ih1 _ _ _ _ _
   | exact ih2 _ _ _ _ _
   | exact impl_sameLoan.mono _ _ _ _ _ _
   | exact LeO.none _
   | refine LeO.ite ?_ ?_
   | refine LeO.bind ?_ (fun _ => ?_)
  ·intro y0 y1 y2 y3 y4
   unfold impl_IsShop.l1
   repeat' first
   | (with_reducible exact ih0 _ _ _)
   | (with_reducible exact ih1 _ _ _ _ _)
   | (with_reducible exact ih2 _ _ _ _ _)
   | (with_reducible exact impl_sameLoan.mono _ _ _ _ _ _)
   | (with_reducible exact LeO.refl _)
   | (with_reducible exact LeO.none _)
   | (with_reducible refine LeO.ite ?_ ?_)
   | (with_reducible refine LeO.bind ?_ (fun _ => ?_))
   | exact ih0 _ _ _
   | exact ih1 _ _ _ _ _
   | exact ih2 _ _ _ _ _
   | exact impl_sameLoan.mono _ _ _ _ _ _
   | exact LeO.none _
   | refine LeO.ite ?_ ?_
   | refine LeO.bind ?_ (fun _ => ?_)
theorem impl_IsShop.mono : ∀ a0 a1 k, LeO (impl_IsShop.f k a0 a1) (impl_IsShop.f (k + 1) a0 a1) := by
 intro a0 a1 k
 obtain ⟨ih0, ih1, ih2⟩ := impl_IsShop.mono_l k
 unfold impl_IsShop.f
 repeat' first
   | (with_reducible exact ih0 _ _ _)
   | (with_reducible exact ih1 _ _ _ _ _)
   | (with_reducible exact ih2 _ _ _ _ _)
   | (with_reducible exact impl_sameLoan.mono _ _ _ _ _ _)
   | (with_reducible exact LeO.refl _)
   | (with_reducible exact LeO.none _)
   | (with_reducible refine LeO.ite ?_ ?_)
   | (with_reducible refine LeO.bind ?_ (fun _ => ?_))
   | exact ih0 _ _ _
   | exact ih1 _ _ _ _ _
   | exact ih2 _ _ _ _ _
   | exact impl_sameLoan.mono _ _ _ _ _ _
   | exact LeO.none _
   | refine LeO.ite ?_ ?_
   | refine LeO.bind ?_ (fun _ => ?_)
def impl_IsShop.T12 : Bool × List (List Nat × List Nat) := (true, [([], []), ([0], [0]), ([1], [1]), ([2, 1], [2]), ([3], [3]), ([4, 3], [3, 4]), ([3], [3]), ([5, 6, 3], [3, 5, 6]), ([3], [3]), ([7, 8, 3, 3], [3, 7, 8]), ([9, 3], [3, 9]), ([3, 10], [3, 10])])
def impl_IsShop.B12 : List Nat := [0, 1, 3, 7, 15, 31, 15, 127, 15, 511, 1023, 2047]
theorem impl_IsShop.tab12 : rtab .any (opsOf Try.f27 12) = impl_IsShop.T12 := by kernel_rfl
theorem impl_IsShop.bits12 : waitsOk impl_IsShop.T12.2 impl_IsShop.B12 = true := by kernel_rfl
set_option maxHeartbeats 8000000 in
set_option maxRecDepth 100000 in
theorem impl_IsShop.calls (k : Nat) (A0_0 : Option Addr) (c0_0 : Nat) (l0_0 : List Int) (A0_1 : Option Addr) (c0_1 : Nat) (l0_1 : List (S41)) (r : Bool) (w : World) (hr0_0 : Kd.C (Kd.int .i64) w A0_0 l0_0.length l0_0) (hc0_0 : l0_0.length ≤ c0_0) (hr0_1 : Kd.C k41 w A0_1 l0_1.length l0_1) (hc0_1 : l0_1.length ≤ c0_1) (h : impl_IsShop.f k l0_0 l0_1 = some r) :
  Calls Try.prog 27 #[.agg #[.slice A0_0 l0_0.length c0_0, .slice A0_1 l0_1.length c0_1]] w fun e w' => e = .returned (.bool r) ∧ Below w.heap.size w w' := by
 have hu29 := Try.underlying29
 have hu41 := Try.underlying41
 have HR0_0 := am hr0_0
 have HC0_0 := am hc0_0
 clear hr0_0 hc0_0
 have HR0_1 := am hr0_1
 have HC0_1 := am hc0_1
 clear hr0_1 hc0_1
 have HB := am (Below.refl w.heap.size w)
 have H : (if (l0_0.length : Int) = 8 then (if 0 < (l0_0.length : Int) then (if (rd l0_0 0) = 0 then (impl_IsShop.j0 k (decide ((l0_1.length : Int) > 20)) l0_0 l0_1) else (impl_IsShop.j0 k true l0_0 l0_1)) else (none)) else (impl_IsShop.j0 k true l0_0 l0_1)) = some r := h
 clear h
 have HC2 := am H
 clear H
 go_enter Try.func27, Try.ntmps27
 go_upto_region 1 with (first | ((with_reducible refine gate_dst (N := 1) rfl ?_); (try (refine gate_guard (by rfl) ?_; dsimp only)); refine box_event ?hg (N := 1) ?hd (cs := #[.slice A0_0 l0_0.length c0_0, .slice A0_1 l0_1.length c0_1]) (t := 29) ?hr ?_; (case hd => rfl); (case hg => rfl); (case hr => first | (go_simp; done) | (go_simp; rfl)); intro gb191 hg w3 hbox hb; have BK191 := am (hbox); have GW191 := am (gq hg); have GE191 := am (gq hg); replace HB := sb hb; clear hb hbox hg))
 (try simp only [Act.put, List.setIfInBounds_toArray, List.set_cons_zero, List.set_cons_succ])
 go_cut [23] (fun v23 wc => ∃ (kq : Nat) (x23_1 : Bool), v23 = .bool x23_1 ∧ Aside0 (impl_IsShop.j0 kq x23_1 l0_0 l0_1 = some r) ∧ Aside0 (kq ≤ k) ∧ Aside0 (wc.heap[gb191]? = some (.cells #[(.slice A0_0 l0_0.length c0_0), (.slice A0_1 l0_1.length c0_1)] 29 (0, 0))) ∧ Aside0 (Below w.heap.size w wc))
 case first =>
  have H := HC2.out
  clear HC2
  by_cases c4 : (l0_0.length : Int) = 8
  ·rw [if_pos c4] at H
   have c4b0 : ((l0_0.length : Int) == 8) = true := beq_iff_eq.mpr c4
   have c4b1 : ((l0_0.length : Int) != 8) = false := bne_eq_false_iff_eq.mpr c4
   clear c4
   (first | rw [c4b0] | (simp only [i64_w, i32_w]; rw [c4b0]) | skip)
   by_cases c5 : 0 < (l0_0.length : Int)
   ·rw [if_pos c5] at H
    have c5b0 : decide (0 < (l0_0.length : Int)) = true := decide_eq_true c5
    have c5b1 : decide (0 < l0_0.length) = true := decide_eq_true (by omega)
    clear c5
    by_cases c6 : (rd l0_0 0) = 0
    ·rw [if_pos c6] at H
     have c6b0 : ((rd l0_0 0) == 0) = true := beq_iff_eq.mpr c6
     have c6b1 : ((rd l0_0 0) != 0) = false := bne_eq_false_iff_eq.mpr c6
     clear c6
     have H' := am H
     clear H
     have ⟨hcz7_0, hcz7_1, hfz7_0, hfz7_1⟩ := bc2 BK191
     have p192 : 0 ≤ (0 : Int) := (by omega)
     have q192 : 0 < (l0_0.length : Int) := of_decide_eq_true aq
     obtain ⟨ad192, e192, hx192_0⟩ := Kd.at_int HR0_0.out 0 p192 q192
     cases e192
     have qi192 : (0 < l0_0.length) = True := eq_true (by omega)
     (try rw [show ((0 : Int)).toNat = 0 from rfl] at hx192_0)
     (try rw [Addr.add_zero'] at hx192_0)
     replace hx192_0 := (HB.out.cell (World.block_lt_of_cell? w _ hx192_0)).trans hx192_0
     replace p192 := eq_true p192
     replace q192 := eq_true q192
     go_wp2
     go_meet
     case rel => exact ⟨_, (decide ((l0_1.length : Int) > 20)), sq, H', ⟨by first | omega | exact Nat.le_refl _⟩, ⟨zq BK191⟩, ⟨bq⟩⟩
    ·rw [if_neg c6] at H
     have c6b0 : ((rd l0_0 0) == 0) = false := beq_eq_false_iff_ne.mpr c6
     have c6b1 : ((rd l0_0 0) != 0) = true := bne_iff_ne.mpr c6
     have H' := am H
     clear H
     have ⟨hcz8_0, hcz8_1, hfz8_0, hfz8_1⟩ := bc2 BK191
     have p192 : 0 ≤ (0 : Int) := (by omega)
     have q192 : 0 < (l0_0.length : Int) := of_decide_eq_true aq
     obtain ⟨ad192, e192, hx192_0⟩ := Kd.at_int HR0_0.out 0 p192 q192
     cases e192
     have qi192 : (0 < l0_0.length) = True := eq_true (by omega)
     (try rw [show ((0 : Int)).toNat = 0 from rfl] at hx192_0)
     (try rw [Addr.add_zero'] at hx192_0)
     replace hx192_0 := (HB.out.cell (World.block_lt_of_cell? w _ hx192_0)).trans hx192_0
     replace p192 := eq_true p192
     replace q192 := eq_true q192
     go_wp2
     go_meet
     case rel => exact ⟨_, (true), sq, H', ⟨by first | omega | exact Nat.le_refl _⟩, ⟨zq BK191⟩, ⟨bq⟩⟩
   ·rw [if_neg c5] at H
    exact absurd H (by simp)
  ·rw [if_neg c4] at H
   have c4b0 : ((l0_0.length : Int) == 8) = false := beq_eq_false_iff_ne.mpr c4
   have c4b1 : ((l0_0.length : Int) != 8) = true := bne_iff_ne.mpr c4
   (first | rw [c4b0] | (simp only [i64_w, i32_w]; rw [c4b0]) | skip)
   have H' := am H
   clear H
   have ⟨hcz9_0, hcz9_1, hfz9_0, hfz9_1⟩ := bc2 BK191
   go_wp2
   go_meet
   case rel => exact ⟨_, (true), sq, H', ⟨by first | omega | exact Nat.le_refl _⟩, ⟨zq BK191⟩, ⟨bq⟩⟩
 case rest =>
  clear HC2
  try clear c4b0
  try clear c4b1
  try clear c5b0
  try clear c5b1
  try clear c6b0
  try clear c6b1
  try clear hcz7_0 hcz7_1 hfz7_0 hfz7_1
  try clear hcz8_0 hcz8_1 hfz8_0 hfz8_1
  try clear hcz9_0 hcz9_1 hfz9_0 hfz9_1
  try clear hx192_0
  try clear p192
  try clear q192
  obtain ⟨kq, x23_1, rfl, HA, HJ1, BK191, HB⟩ := hcut
  cases kq with
  | zero => exact absurd HA.out (by simp [impl_IsShop.j0])
  | succ kj1 =>
   have H := HA.out
   clear HA
   simp only [impl_IsShop.j0] at H
   by_cases c10 : x23_1 = true
   ·subst c10
    rw [if_pos rfl] at H
    try dsimp only at H
    obtain rfl := Option.some.inj H
    go_wp2
    go_ret
    exact ⟨eq_, bq⟩
   ·replace c10 := Bool.eq_false_iff.mpr c10
    subst c10
    rw [if_neg (show ¬ (false = true) by decide)] at H
    try dsimp only at H
    have H' := am H
    clear H
    have ⟨hcz11_0, hcz11_1, hfz11_0, hfz11_1⟩ := bc2 BK191
    go_wp2
    go_loopg [27] kj1 (fun kq v27 w' => ∃ (x27_2 : Int), v27 = .int .i64 x27_2 ∧ Aside0 (impl_IsShop.l0 kq l0_0 (l0_0.length : Int) x27_2 l0_0 l0_1 = some r) ∧ Aside0 (kq ≤ kj1) ∧ Aside0 (w'.heap[gb191]? = some (.cells #[(.slice A0_0 l0_0.length c0_0), (.slice A0_1 l0_1.length c0_1)] 29 (0, 0))) ∧ Aside0 (Below w.heap.size w w'))
    case atStart => exact ⟨(0), sq, H', ⟨Nat.le_refl _⟩, ⟨zq BK191⟩, ⟨bq⟩⟩
    case round =>
     clear H'
     try clear c4b0
     try clear c4b1
     try clear c5b0
     try clear c5b1
     try clear c6b0
     try clear c6b1
     try clear c10
     try clear hcz11_0 hcz11_1 hfz11_0 hfz11_1
     try clear hcz7_0 hcz7_1 hfz7_0 hfz7_1
     try clear hcz8_0 hcz8_1 hfz8_0 hfz8_1
     try clear hcz9_0 hcz9_1 hfz9_0 hfz9_1
     try clear hx192_0
     try clear p192
     try clear q192
     obtain ⟨x27_2, rfl, HA, HK2, BK191, HB⟩ := hrel
     cases gk with
     | zero => exact absurd HA.out (by simp [impl_IsShop.l0])
     | succ k2 =>
      have H := HA.out
      clear HA
      simp only [impl_IsShop.l0] at H
      by_cases c12 : x27_2 < (l0_0.length : Int)
      ·rw [if_pos c12] at H
       have c12b0 : decide (x27_2 < (l0_0.length : Int)) = true := decide_eq_true c12
       clear c12
       by_cases c13 : 0 ≤ x27_2
       ·rw [if_pos c13] at H
        have c13b0 : decide (0 ≤ x27_2) = true := decide_eq_true c13
        clear c13
        by_cases c14 : x27_2 < (l0_0.length : Int)
        ·rw [if_pos c14] at H
         have c14b0 : decide (x27_2 < (l0_0.length : Int)) = true := decide_eq_true c14
         clear c14
         by_cases c15 : (rd l0_0 x27_2) < 0
         ·rw [if_pos c15] at H
          have c15b0 : decide ((rd l0_0 x27_2) < 0) = true := decide_eq_true c15
          clear c15
          obtain rfl := Option.some.inj H
          have p193 : 0 ≤ (x27_2 : Int) := of_decide_eq_true aq
          have q193 : x27_2 < (l0_0.length : Int) := of_decide_eq_true aq
          obtain ⟨ad193, e193, hx193_0⟩ := Kd.at_int HR0_0.out x27_2 p193 q193
          cases e193
          replace hx193_0 := (HB.out.cell (World.block_lt_of_cell? w _ hx193_0)).trans hx193_0
          replace p193 := eq_true p193
          replace q193 := eq_true q193
          go_wp2
          go_ret
          exact ⟨eq_, bq⟩
         ·rw [if_neg c15] at H
          have c15b0 : decide ((rd l0_0 x27_2) < 0) = false := decide_eq_false c15
          clear c15
          by_cases c16 : (rd l0_0 x27_2) > 999
          ·rw [if_pos c16] at H
           have c16b0 : decide (999 < (rd l0_0 x27_2)) = true := decide_eq_true c16
           clear c16
           obtain rfl := Option.some.inj H
           have p193 : 0 ≤ (x27_2 : Int) := of_decide_eq_true aq
           have q193 : x27_2 < (l0_0.length : Int) := of_decide_eq_true aq
           obtain ⟨ad193, e193, hx193_0⟩ := Kd.at_int HR0_0.out x27_2 p193 q193
           cases e193
           replace hx193_0 := (HB.out.cell (World.block_lt_of_cell? w _ hx193_0)).trans hx193_0
           replace p193 := eq_true p193
           replace q193 := eq_true q193
           go_wp2
           go_ret
           exact ⟨eq_, bq⟩
          ·rw [if_neg c16] at H
           have c16b0 : decide (999 < (rd l0_0 x27_2)) = false := decide_eq_false c16
           clear c16
           have H' := am H
           clear H
           have p193 : 0 ≤ (x27_2 : Int) := of_decide_eq_true aq
           have q193 : x27_2 < (l0_0.length : Int) := of_decide_eq_true aq
           obtain ⟨ad193, e193, hx193_0⟩ := Kd.at_int HR0_0.out x27_2 p193 q193
           cases e193
           replace hx193_0 := (HB.out.cell (World.block_lt_of_cell? w _ hx193_0)).trans hx193_0
           replace p193 := eq_true p193
           replace q193 := eq_true q193
           go_wp2
           go_roundg k2
           case measure => have := HJ1.out; have := HK2.out; omega
           case rel => exact ⟨(wrap64 (x27_2 + 1)), sq, H', ⟨by have := HJ1.out; have := HK2.out; omega⟩, ⟨zq BK191⟩, ⟨bq⟩⟩
        ·rw [if_neg c14] at H
         exact absurd H (by simp)
       ·rw [if_neg c13] at H
        exact absurd H (by simp)
      ·rw [if_neg c12] at H
       have c12b0 : decide (x27_2 < (l0_0.length : Int)) = false := decide_eq_false c12
       clear c12
       have H' := am H
       clear H
       have ⟨hcz17_0, hcz17_1, hfz17_0, hfz17_1⟩ := bc2 BK191
       go_wp2
       go_loopg [41] k2 (fun kq v41 w' => ∃ (x41_3 : Int), v41 = .int .i64 x41_3 ∧ Aside0 (impl_IsShop.l1 kq l0_1 (l0_1.length : Int) x41_3 l0_0 l0_1 = some r) ∧ Aside0 (kq ≤ k2) ∧ Aside0 (w'.heap[gb191]? = some (.cells #[(.slice A0_0 l0_0.length c0_0), (.slice A0_1 l0_1.length c0_1)] 29 (0, 0))) ∧ Aside0 (Below w.heap.size w w'))
       case atStart => exact ⟨(0), sq, H', ⟨Nat.le_refl _⟩, ⟨zq BK191⟩, ⟨bq⟩⟩
       case round =>
        clear H'
        try clear c4b0
        try clear c4b1
        try clear c5b0
        try clear c5b1
        try clear c6b0
        try clear c6b1
        try clear c10
        try clear c12b0
        try clear c13b0
        try clear c14b0
        try clear c15b0
        try clear c16b0
        try clear hcz11_0 hcz11_1 hfz11_0 hfz11_1
        try clear hcz17_0 hcz17_1 hfz17_0 hfz17_1
        try clear hcz7_0 hcz7_1 hfz7_0 hfz7_1
        try clear hcz8_0 hcz8_1 hfz8_0 hfz8_1
        try clear hcz9_0 hcz9_1 hfz9_0 hfz9_1
        try clear hx192_0
        try clear hx193_0
        try clear p192
        try clear p193
        try clear q192
        try clear q193
        obtain ⟨x41_3, rfl, HA, HK3, BK191, HB⟩ := hrel
        cases gk with
        | zero => exact absurd HA.out (by simp [impl_IsShop.l1])
        | succ k3 =>
         have H := HA.out
         clear HA
         simp only [impl_IsShop.l1] at H
         by_cases c18 : x41_3 < (l0_1.length : Int)
         ·rw [if_pos c18] at H
          have c18b0 : decide (x41_3 < (l0_1.length : Int)) = true := decide_eq_true c18
          clear c18
          by_cases c19 : 0 ≤ x41_3
          ·rw [if_pos c19] at H
           have c19b0 : decide (0 ≤ x41_3) = true := decide_eq_true c19
           clear c19
           by_cases c20 : x41_3 < (l0_1.length : Int)
           ·rw [if_pos c20] at H
            have c20b0 : decide (x41_3 < (l0_1.length : Int)) = true := decide_eq_true c20
            clear c20
            obtain ⟨t196, A21, H⟩ := bindq H
            try dsimp only at H
            by_cases c22 : t196 = true
            ·subst c22
             rw [if_pos rfl] at H
             try dsimp only at H
             have c23b0 := eq_true (of_decide_eq_true aq : 0 ≤ x41_3)
             by_cases c24 : x41_3 ≤ (l0_1.length : Int)
             ·rw [if_pos c24] at H
              have c24b0 := eq_true c24
              have c24b1 : decide (x41_3 ≤ (l0_1.length : Int)) = true := decide_eq_true c24
              clear c24
              obtain ⟨y197, hy197⟩ : ∃ y_ : List (S41), y_ = (l0_1.take (x41_3 : Int).toNat) := ⟨_, rfl⟩
              replace H : ((impl_sameLoan.f k3 y197 ((rd_T41 l0_1 x41_3).f0) ((rd_T41 l0_1 x41_3).f1) ((rd_T41 l0_1 x41_3).f2) ((rd_T41 l0_1 x41_3).f3)).bind fun t201 => (if t201 ≥ 0 then (some false) else (impl_IsShop.l1 k3 l0_1 (l0_1.length : Int) (wrap64 (x41_3 + 1)) l0_0 l0_1))) = some r := by first | (rw [hy197]; with_reducible exact H) | (have H2_ := (Option.bind_some _ _).symm.trans H; rw [hy197]; with_reducible exact H2_) | (have H2_ := (Option.bind_some _ _).symm.trans H; with_reducible exact H2_) | with_reducible exact H | (rw [hy197]; exact H) | exact H
              have Ny197 := am hy197
              clear hy197
              obtain ⟨t201, A25, H⟩ := bindq H
              try dsimp only at H
              by_cases c26 : t201 ≥ 0
              ·rw [if_pos c26] at H
               have c26b0 : decide (0 ≤ t201) = true := decide_eq_true c26
               clear c26
               obtain rfl := Option.some.inj H
               have p194 : 0 ≤ (x41_3 : Int) := of_decide_eq_true aq
               have q194 : x41_3 < (l0_1.length : Int) := of_decide_eq_true aq
               obtain ⟨ad194, e194, hx194_0, hx194_1, hx194_2, hx194_3⟩ := at_T41 HR0_1.out x41_3 p194 q194
               cases e194
               replace hx194_0 := (HB.out.cell (World.block_lt_of_cell? w _ hx194_0)).trans hx194_0
               replace hx194_1 := (HB.out.cell (World.block_lt_of_cell? w _ hx194_1)).trans hx194_1
               replace hx194_2 := (HB.out.cell (World.block_lt_of_cell? w _ hx194_2)).trans hx194_2
               replace hx194_3 := (HB.out.cell (World.block_lt_of_cell? w _ hx194_3)).trans hx194_3
               replace p194 := eq_true p194
               replace q194 := eq_true q194
               try go_wp2_with (first | ((with_reducible refine gate_dst (N := 6) rfl ?_); (try (refine gate_guard (by rfl) ?_; dsimp only)); refine box_event ?hg (N := 6) ?hd (cs := #[.int .i64 0, .int .i64 0, .int .i64 0, .int .i64 0]) (t := 41) ?hr ?_; (case hd => rfl); (case hg => rfl); (case hr => first | (go_simp; done) | (go_simp; rfl)); intro gb195 hg w27 hbox hb; have BK195 := am (hbox); have GW195 := am (gq hg); have GE195 := am (gq hg); replace HB := sb hb; have NB191_195 := nl hg BK191; have NB195_191 := ng hg BK191; replace BK191 := zb BK191 hb; clear hb hbox hg; have hnb28 := NB195_191.out; have hnc28 := NB191_195.out; have ⟨hcz29_0, hcz29_1, hcz29_2, hcz29_3, hfz29_0, hfz29_1, hfz29_2, hfz29_3⟩ := bc4 BK195))
               have n0_ : Aside0 (((((w27.setCell ⟨gb195, 0, none⟩ (.int .i64 ((rd_T41 l0_1 x41_3).f0))).setCell ⟨gb195, 1, none⟩ (.int .i64 ((rd_T41 l0_1 x41_3).f1))).setCell ⟨gb195, 2, none⟩ (.int .i64 ((rd_T41 l0_1 x41_3).f2))).setCell ⟨gb195, 3, none⟩ (.int .i64 ((rd_T41 l0_1 x41_3).f3))).heap[gb191]? = some (.cells #[.slice A0_0 l0_0.length c0_0, .slice (some ad194) l0_1.length c0_1] 29 (0, 0))) := ⟨zp BK191⟩
               have n1_ : Aside0 (((((w27.setCell ⟨gb195, 0, none⟩ (.int .i64 ((rd_T41 l0_1 x41_3).f0))).setCell ⟨gb195, 1, none⟩ (.int .i64 ((rd_T41 l0_1 x41_3).f1))).setCell ⟨gb195, 2, none⟩ (.int .i64 ((rd_T41 l0_1 x41_3).f2))).setCell ⟨gb195, 3, none⟩ (.int .i64 ((rd_T41 l0_1 x41_3).f3))).heap[gb195]? = some (.cells #[.int .i64 ((rd_T41 l0_1 x41_3).f0), .int .i64 ((rd_T41 l0_1 x41_3).f1), .int .i64 ((rd_T41 l0_1 x41_3).f2), .int .i64 ((rd_T41 l0_1 x41_3).f3)] 41 (0, 0))) := ⟨zp BK195⟩
               have n2_ : Aside0 (Below w.heap.size w ((((w27.setCell ⟨gb195, 0, none⟩ (.int .i64 ((rd_T41 l0_1 x41_3).f0))).setCell ⟨gb195, 1, none⟩ (.int .i64 ((rd_T41 l0_1 x41_3).f1))).setCell ⟨gb195, 2, none⟩ (.int .i64 ((rd_T41 l0_1 x41_3).f2))).setCell ⟨gb195, 3, none⟩ (.int .i64 ((rd_T41 l0_1 x41_3).f3)))) := ⟨bq⟩
               (try clear BK191)
               (try clear BK195)
               (try clear HB)
               generalize ((((w27.setCell ⟨gb195, 0, none⟩ (.int .i64 ((rd_T41 l0_1 x41_3).f0))).setCell ⟨gb195, 1, none⟩ (.int .i64 ((rd_T41 l0_1 x41_3).f1))).setCell ⟨gb195, 2, none⟩ (.int .i64 ((rd_T41 l0_1 x41_3).f2))).setCell ⟨gb195, 3, none⟩ (.int .i64 ((rd_T41 l0_1 x41_3).f3))) = w30 at n0_ n1_ n2_ ⊢
               have BK191 := n0_
               have BK195 := n1_
               have HB := n2_
               clear n0_ n1_ n2_
               replace BK191 := am (blk_drew BK191.out)
               replace BK195 := am (blk_drew BK195.out)
               replace HB := am (below_drew1 HB.out)
               refine start_ (n := 12) (S := fun w' => w'.cell? ⟨gb195, 0, none⟩ = some (.int .i64 ((rd_T41 l0_1 x41_3).f0)) ∧ w'.cell? ⟨gb195, 1, none⟩ = some (.int .i64 ((rd_T41 l0_1 x41_3).f1)) ∧ w'.cell? ⟨gb195, 2, none⟩ = some (.int .i64 ((rd_T41 l0_1 x41_3).f2)) ∧ w'.cell? ⟨gb195, 3, none⟩ = some (.int .i64 ((rd_T41 l0_1 x41_3).f3)) ∧ w'.cell? ⟨gb191, 0, none⟩ = some (.slice A0_0 l0_0.length c0_0) ∧ w'.cell? ⟨gb191, 1, none⟩ = some (.slice (some ad194) l0_1.length c0_1)) (ds := []) #[false, false, false, false, false, false, false, false, false, false, false, false] (by kernel_rfl) rfl rfl cl (fun hHeld => ?_); refine with_tabW impl_IsShop.tab12 impl_IsShop.bits12 (fun HT_ HW_ => ?_)
               generalize w30.drew = w31 at BK191 BK195 HB hHeld ⊢
               refine take_ (i := 0) (N := some 46) (v := ?_) (a' := ?_) #[true, false, false, false, false, false, false, false, false, false, false, false] rfl rfl (take_ofW HT_.out HW_.out (by kernel_rfl)) (fun _ _ _ h => h) (Or.inl ⟨by rfl, ?_⟩) hHeld ?_ ?_
               rotate_left
               ·rintro w' ⟨s0, s1, s2, s3, s4, s5⟩
                go_simp
                with_reducible rfl
               rotate_left
               ·simp only [Act.put, List.setIfInBounds_toArray, List.set_cons_zero, List.set_cons_succ, i64_w, i32_w]
                rfl
               refine one_ (i := 1) (N := some 47) #[true, true, false, false, false, false, false, false, false, false, false, false] rfl rfl (one_of HT_.out (by kernel_rfl)) (by decide) (fun K hK => ?_)
               refine goes_ Try.func42 (by kernel_rfl) rfl #[.agg #[.int .i64 ((rd_T41 l0_1 x41_3).f0), .int .i64 ((rd_T41 l0_1 x41_3).f1), .int .i64 ((rd_T41 l0_1 x41_3).f2), .int .i64 ((rd_T41 l0_1 x41_3).f3)]] (by rfl) rfl rfl mq ?_
               with_reducible refine (impl_isLoan.calls ((rd_T41 l0_1 x41_3).f0) ((rd_T41 l0_1 x41_3).f1) ((rd_T41 l0_1 x41_3).f2) ((rd_T41 l0_1 x41_3).f3) true _ A21.out).mono ?_
               rintro e w32 ⟨rfl, hb⟩
               refine ⟨_, rfl, ?_⟩
               replace BK191 := zb BK191 hb
               replace BK195 := zb BK195 hb
               replace HB := sb hb
               (try clear hb)
               have q33 : (x41_3 : Int) ≤ ((l0_1.length : Int) : Int) := of_decide_eq_true aq
               obtain ⟨i033, hi033, _, hsz33, _⟩ := info_parts info41
               have hroom33 : l0_1.length ≤ c0_1 := HC0_1.out
               have hC33 : Kd.C k41 _ (some ad194) l0_1.length l0_1 := HR0_1.out
               have hcut33 := cut_to (P := Try.prog) 27 41 .i64 Try.underlying27 hi033 (some ad194) l0_1.length c0_1 x41_3 (of_decide_eq_true aq) q33 hroom33
               have hr33 := Kd.C_take (m := (x41_3 : Int).toNat) hC33 (by omega)
               have hy33 : y197.length = (x41_3 : Int).toNat := (by rw [Ny197.out, List.length_take]; omega)
               rw [← Ny197.out] at hr33
               rw [← hy33] at hcut33
               have HR200 := am hr33
               have HC200 := am (show y197.length ≤ c0_1 from by omega)
               clear hr33 hC33 hroom33 hi033 hsz33
               have KY33 := am hy33
               clear hy33
               replace q33 := eq_true q33
               refine hK.out _ _ cl (fun hHeld => ?_)
               clear hK K
               refine norm_ (a' := ?_) ?_ ?_
               rotate_left
               ·show Act.put _ (some 47) _ = _
                simp only [Act.put, List.setIfInBounds_toArray, List.set_cons_zero, List.set_cons_succ, i64_w, i32_w]
                rfl
               refine pure_ (i := 2) (N := some 48) (v := ?_) (a' := ?_) #[true, true, true, false, false, false, false, false, false, false, false, false] rfl rfl (any_of HT_.out (by kernel_rfl)) (fun _ _ _ h => h) (Or.inl ⟨by rfl, ?_⟩) ?_ ?_
               rotate_left
               ·intro w'
                go_simp
                with_reducible rfl
               rotate_left
               ·simp only [Act.put, List.setIfInBounds_toArray, List.set_cons_zero, List.set_cons_succ, i64_w, i32_w]
                rfl
               refine pure_ (i := 3) (N := some 49) (v := ?_) (a' := ?_) #[true, true, true, true, false, false, false, false, false, false, false, false] rfl rfl (any_of HT_.out (by kernel_rfl)) (fun _ _ _ h => h) (Or.inl ⟨by rfl, ?_⟩) ?_ ?_
               rotate_left
               ·intro w'
                go_simp
                with_reducible rfl
               rotate_left
               ·simp only [Act.put, List.setIfInBounds_toArray, List.set_cons_zero, List.set_cons_succ, i64_w, i32_w]
                rfl
               refine pure_ (i := 4) (N := some 50) (v := ?_) (a' := ?_) #[true, true, true, true, true, false, false, false, false, false, false, false] rfl rfl (any_of HT_.out (by kernel_rfl)) (fun _ _ _ h => h) (Or.inl ⟨by rfl, ?_⟩) ?_ ?_
               rotate_left
               ·intro w'
                go_simp
                with_reducible rfl
               rotate_left
               ·simp only [Act.put, List.setIfInBounds_toArray, List.set_cons_zero, List.set_cons_succ, i64_w, i32_w]
                rfl
               refine pure_ (i := 6) (N := some 52) (v := ?_) (a' := ?_) #[true, true, true, true, true, false, true, false, false, false, false, false] rfl rfl (any_of HT_.out (by kernel_rfl)) (fun _ _ _ h => h) (Or.inl ⟨by rfl, ?_⟩) ?_ ?_
               rotate_left
               ·intro w'
                go_simp
                with_reducible rfl
               rotate_left
               ·simp only [Act.put, List.setIfInBounds_toArray, List.set_cons_zero, List.set_cons_succ, i64_w, i32_w]
                rfl
               refine take_ (i := 5) (N := some 51) (v := ?_) (a' := ?_) #[true, true, true, true, true, true, true, false, false, false, false, false] rfl rfl (take_ofW HT_.out HW_.out (by kernel_rfl)) (fun _ _ _ h => h) (Or.inl ⟨by rfl, ?_⟩) hHeld ?_ ?_
               rotate_left
               ·rintro w' ⟨s0, s1, s2, s3, s4, s5⟩
                go_simp
                with_reducible rfl
               rotate_left
               ·simp only [Act.put, List.setIfInBounds_toArray, List.set_cons_zero, List.set_cons_succ, i64_w, i32_w]
                rfl
               refine pure_ (i := 7) (N := some 53) (v := ?_) (a' := ?_) #[true, true, true, true, true, true, true, true, false, false, false, false] rfl rfl (any_of HT_.out (by kernel_rfl)) (fun _ _ _ h => h) (Or.inl ⟨by rfl, ?_⟩) ?_ ?_
               rotate_left
               ·intro w'
                go_simp
                with_reducible rfl
               rotate_left
               ·simp only [Act.put, List.setIfInBounds_toArray, List.set_cons_zero, List.set_cons_succ, i64_w, i32_w]
                rfl
               refine take_ (i := 8) (N := some 54) (v := ?_) (a' := ?_) #[true, true, true, true, true, true, true, true, true, false, false, false] rfl rfl (take_ofW HT_.out HW_.out (by kernel_rfl)) (fun _ _ _ h => h) (Or.inl ⟨by rfl, ?_⟩) hHeld ?_ ?_
               rotate_left
               ·rintro w' ⟨s0, s1, s2, s3, s4, s5⟩
                go_simp
                with_reducible rfl
               rotate_left
               ·simp only [Act.put, List.setIfInBounds_toArray, List.set_cons_zero, List.set_cons_succ, i64_w, i32_w]
                rfl
               refine one_ (i := 9) (N := some 55) #[true, true, true, true, true, true, true, true, true, true, false, false] rfl rfl (one_of HT_.out (by kernel_rfl)) (by decide) (fun K hK => ?_)
               refine goes_ Try.func43 (by kernel_rfl) rfl #[.slice (some ad194) y197.length c0_1, .agg #[.int .i64 ((rd_T41 l0_1 x41_3).f0), .int .i64 ((rd_T41 l0_1 x41_3).f1), .int .i64 ((rd_T41 l0_1 x41_3).f2), .int .i64 ((rd_T41 l0_1 x41_3).f3)]] (by rfl) rfl rfl mq ?_
               with_reducible refine (impl_sameLoan.calls k3 _ _ y197 ((rd_T41 l0_1 x41_3).f0) ((rd_T41 l0_1 x41_3).f1) ((rd_T41 l0_1 x41_3).f2) ((rd_T41 l0_1 x41_3).f3) t201 _ ?s1 ?s2 A25.out).mono ?_
               (case s1 => exact cq (Kd.C_below HR200.out HB.out))
               (case s2 => exact HC200.out)
               rintro e w34 ⟨rfl, hb⟩
               refine ⟨_, rfl, ?_⟩
               replace BK191 := zb BK191 hb
               replace BK195 := zb BK195 hb
               replace HB := sb hb
               (try clear hb)
               refine hK.out _ _ cl (fun hHeld => ?_)
               clear hK K
               refine norm_ (a' := ?_) ?_ ?_
               rotate_left
               ·show Act.put _ (some 55) _ = _
                simp only [Act.put, List.setIfInBounds_toArray, List.set_cons_zero, List.set_cons_succ, i64_w, i32_w]
                rfl
               refine pure_ (i := 10) (N := some 56) (v := ?_) (a' := ?_) #[true, true, true, true, true, true, true, true, true, true, true, false] rfl rfl (any_of HT_.out (by kernel_rfl)) (fun _ _ _ h => h) (Or.inl ⟨by rfl, ?_⟩) ?_ ?_
               rotate_left
               ·intro w'
                go_simp
                with_reducible rfl
               rotate_left
               ·simp only [Act.put, List.setIfInBounds_toArray, List.set_cons_zero, List.set_cons_succ, i64_w, i32_w]
                rfl
               refine pure_ (i := 11) (N := some 57) (v := ?_) (a' := ?_) #[true, true, true, true, true, true, true, true, true, true, true, true] rfl rfl (any_of HT_.out (by kernel_rfl)) (fun _ _ _ h => h) (Or.inl ⟨by rfl, ?_⟩) ?_ ?_
               rotate_left
               ·intro w'
                go_simp
                with_reducible rfl
               rotate_left
               ·simp only [Act.put, List.setIfInBounds_toArray, List.set_cons_zero, List.set_cons_succ, i64_w, i32_w]
                rfl
               refine done_ (done_of HT_.out (by kernel_rfl)) ?_
               try go_wp2
               go_ret
               exact ⟨eq_, bq⟩
              ·rw [if_neg c26] at H
               have c26b0 : decide (0 ≤ t201) = false := decide_eq_false c26
               clear c26
               have H' := am H
               clear H
               have p194 : 0 ≤ (x41_3 : Int) := of_decide_eq_true aq
               have q194 : x41_3 < (l0_1.length : Int) := of_decide_eq_true aq
               obtain ⟨ad194, e194, hx194_0, hx194_1, hx194_2, hx194_3⟩ := at_T41 HR0_1.out x41_3 p194 q194
               cases e194
               replace hx194_0 := (HB.out.cell (World.block_lt_of_cell? w _ hx194_0)).trans hx194_0
               replace hx194_1 := (HB.out.cell (World.block_lt_of_cell? w _ hx194_1)).trans hx194_1
               replace hx194_2 := (HB.out.cell (World.block_lt_of_cell? w _ hx194_2)).trans hx194_2
               replace hx194_3 := (HB.out.cell (World.block_lt_of_cell? w _ hx194_3)).trans hx194_3
               replace p194 := eq_true p194
               replace q194 := eq_true q194
               try go_wp2_with (first | ((with_reducible refine gate_dst (N := 6) rfl ?_); (try (refine gate_guard (by rfl) ?_; dsimp only)); refine box_event ?hg (N := 6) ?hd (cs := #[.int .i64 0, .int .i64 0, .int .i64 0, .int .i64 0]) (t := 41) ?hr ?_; (case hd => rfl); (case hg => rfl); (case hr => first | (go_simp; done) | (go_simp; rfl)); intro gb195 hg w35 hbox hb; have BK195 := am (hbox); have GW195 := am (gq hg); have GE195 := am (gq hg); replace HB := sb hb; have NB191_195 := nl hg BK191; have NB195_191 := ng hg BK191; replace BK191 := zb BK191 hb; clear hb hbox hg; have hnb36 := NB195_191.out; have hnc36 := NB191_195.out; have ⟨hcz37_0, hcz37_1, hcz37_2, hcz37_3, hfz37_0, hfz37_1, hfz37_2, hfz37_3⟩ := bc4 BK195))
               have n0_ : Aside0 (((((w35.setCell ⟨gb195, 0, none⟩ (.int .i64 ((rd_T41 l0_1 x41_3).f0))).setCell ⟨gb195, 1, none⟩ (.int .i64 ((rd_T41 l0_1 x41_3).f1))).setCell ⟨gb195, 2, none⟩ (.int .i64 ((rd_T41 l0_1 x41_3).f2))).setCell ⟨gb195, 3, none⟩ (.int .i64 ((rd_T41 l0_1 x41_3).f3))).heap[gb191]? = some (.cells #[.slice A0_0 l0_0.length c0_0, .slice (some ad194) l0_1.length c0_1] 29 (0, 0))) := ⟨zp BK191⟩
               have n1_ : Aside0 (((((w35.setCell ⟨gb195, 0, none⟩ (.int .i64 ((rd_T41 l0_1 x41_3).f0))).setCell ⟨gb195, 1, none⟩ (.int .i64 ((rd_T41 l0_1 x41_3).f1))).setCell ⟨gb195, 2, none⟩ (.int .i64 ((rd_T41 l0_1 x41_3).f2))).setCell ⟨gb195, 3, none⟩ (.int .i64 ((rd_T41 l0_1 x41_3).f3))).heap[gb195]? = some (.cells #[.int .i64 ((rd_T41 l0_1 x41_3).f0), .int .i64 ((rd_T41 l0_1 x41_3).f1), .int .i64 ((rd_T41 l0_1 x41_3).f2), .int .i64 ((rd_T41 l0_1 x41_3).f3)] 41 (0, 0))) := ⟨zp BK195⟩
               have n2_ : Aside0 (Below w.heap.size w ((((w35.setCell ⟨gb195, 0, none⟩ (.int .i64 ((rd_T41 l0_1 x41_3).f0))).setCell ⟨gb195, 1, none⟩ (.int .i64 ((rd_T41 l0_1 x41_3).f1))).setCell ⟨gb195, 2, none⟩ (.int .i64 ((rd_T41 l0_1 x41_3).f2))).setCell ⟨gb195, 3, none⟩ (.int .i64 ((rd_T41 l0_1 x41_3).f3)))) := ⟨bq⟩
               (try clear BK191)
               (try clear BK195)
               (try clear HB)
               generalize ((((w35.setCell ⟨gb195, 0, none⟩ (.int .i64 ((rd_T41 l0_1 x41_3).f0))).setCell ⟨gb195, 1, none⟩ (.int .i64 ((rd_T41 l0_1 x41_3).f1))).setCell ⟨gb195, 2, none⟩ (.int .i64 ((rd_T41 l0_1 x41_3).f2))).setCell ⟨gb195, 3, none⟩ (.int .i64 ((rd_T41 l0_1 x41_3).f3))) = w38 at n0_ n1_ n2_ ⊢
               have BK191 := n0_
               have BK195 := n1_
               have HB := n2_
               clear n0_ n1_ n2_
               replace BK191 := am (blk_drew BK191.out)
               replace BK195 := am (blk_drew BK195.out)
               replace HB := am (below_drew1 HB.out)
               refine start_ (n := 12) (S := fun w' => w'.cell? ⟨gb195, 0, none⟩ = some (.int .i64 ((rd_T41 l0_1 x41_3).f0)) ∧ w'.cell? ⟨gb195, 1, none⟩ = some (.int .i64 ((rd_T41 l0_1 x41_3).f1)) ∧ w'.cell? ⟨gb195, 2, none⟩ = some (.int .i64 ((rd_T41 l0_1 x41_3).f2)) ∧ w'.cell? ⟨gb195, 3, none⟩ = some (.int .i64 ((rd_T41 l0_1 x41_3).f3)) ∧ w'.cell? ⟨gb191, 0, none⟩ = some (.slice A0_0 l0_0.length c0_0) ∧ w'.cell? ⟨gb191, 1, none⟩ = some (.slice (some ad194) l0_1.length c0_1)) (ds := []) #[false, false, false, false, false, false, false, false, false, false, false, false] (by kernel_rfl) rfl rfl cl (fun hHeld => ?_); refine with_tabW impl_IsShop.tab12 impl_IsShop.bits12 (fun HT_ HW_ => ?_)
               generalize w38.drew = w39 at BK191 BK195 HB hHeld ⊢
               refine take_ (i := 0) (N := some 46) (v := ?_) (a' := ?_) #[true, false, false, false, false, false, false, false, false, false, false, false] rfl rfl (take_ofW HT_.out HW_.out (by kernel_rfl)) (fun _ _ _ h => h) (Or.inl ⟨by rfl, ?_⟩) hHeld ?_ ?_
               rotate_left
               ·rintro w' ⟨s0, s1, s2, s3, s4, s5⟩
                go_simp
                with_reducible rfl
               rotate_left
               ·simp only [Act.put, List.setIfInBounds_toArray, List.set_cons_zero, List.set_cons_succ, i64_w, i32_w]
                rfl
               refine one_ (i := 1) (N := some 47) #[true, true, false, false, false, false, false, false, false, false, false, false] rfl rfl (one_of HT_.out (by kernel_rfl)) (by decide) (fun K hK => ?_)
               refine goes_ Try.func42 (by kernel_rfl) rfl #[.agg #[.int .i64 ((rd_T41 l0_1 x41_3).f0), .int .i64 ((rd_T41 l0_1 x41_3).f1), .int .i64 ((rd_T41 l0_1 x41_3).f2), .int .i64 ((rd_T41 l0_1 x41_3).f3)]] (by rfl) rfl rfl mq ?_
               with_reducible refine (impl_isLoan.calls ((rd_T41 l0_1 x41_3).f0) ((rd_T41 l0_1 x41_3).f1) ((rd_T41 l0_1 x41_3).f2) ((rd_T41 l0_1 x41_3).f3) true _ A21.out).mono ?_
               rintro e w40 ⟨rfl, hb⟩
               refine ⟨_, rfl, ?_⟩
               replace BK191 := zb BK191 hb
               replace BK195 := zb BK195 hb
               replace HB := sb hb
               (try clear hb)
               have q41 : (x41_3 : Int) ≤ ((l0_1.length : Int) : Int) := of_decide_eq_true aq
               obtain ⟨i041, hi041, _, hsz41, _⟩ := info_parts info41
               have hroom41 : l0_1.length ≤ c0_1 := HC0_1.out
               have hC41 : Kd.C k41 _ (some ad194) l0_1.length l0_1 := HR0_1.out
               have hcut41 := cut_to (P := Try.prog) 27 41 .i64 Try.underlying27 hi041 (some ad194) l0_1.length c0_1 x41_3 (of_decide_eq_true aq) q41 hroom41
               have hr41 := Kd.C_take (m := (x41_3 : Int).toNat) hC41 (by omega)
               have hy41 : y197.length = (x41_3 : Int).toNat := (by rw [Ny197.out, List.length_take]; omega)
               rw [← Ny197.out] at hr41
               rw [← hy41] at hcut41
               have HR200 := am hr41
               have HC200 := am (show y197.length ≤ c0_1 from by omega)
               clear hr41 hC41 hroom41 hi041 hsz41
               have KY41 := am hy41
               clear hy41
               replace q41 := eq_true q41
               refine hK.out _ _ cl (fun hHeld => ?_)
               clear hK K
               refine norm_ (a' := ?_) ?_ ?_
               rotate_left
               ·show Act.put _ (some 47) _ = _
                simp only [Act.put, List.setIfInBounds_toArray, List.set_cons_zero, List.set_cons_succ, i64_w, i32_w]
                rfl
               refine pure_ (i := 2) (N := some 48) (v := ?_) (a' := ?_) #[true, true, true, false, false, false, false, false, false, false, false, false] rfl rfl (any_of HT_.out (by kernel_rfl)) (fun _ _ _ h => h) (Or.inl ⟨by rfl, ?_⟩) ?_ ?_
               rotate_left
               ·intro w'
                go_simp
                with_reducible rfl
               rotate_left
               ·simp only [Act.put, List.setIfInBounds_toArray, List.set_cons_zero, List.set_cons_succ, i64_w, i32_w]
                rfl
               refine pure_ (i := 3) (N := some 49) (v := ?_) (a' := ?_) #[true, true, true, true, false, false, false, false, false, false, false, false] rfl rfl (any_of HT_.out (by kernel_rfl)) (fun _ _ _ h => h) (Or.inl ⟨by rfl, ?_⟩) ?_ ?_
               rotate_left
               ·intro w'
                go_simp
                with_reducible rfl
               rotate_left
               ·simp only [Act.put, List.setIfInBounds_toArray, List.set_cons_zero, List.set_cons_succ, i64_w, i32_w]
                rfl
               refine pure_ (i := 4) (N := some 50) (v := ?_) (a' := ?_) #[true, true, true, true, true, false, false, false, false, false, false, false] rfl rfl (any_of HT_.out (by kernel_rfl)) (fun _ _ _ h => h) (Or.inl ⟨by rfl, ?_⟩) ?_ ?_
               rotate_left
               ·intro w'
                go_simp
                with_reducible rfl
               rotate_left
               ·simp only [Act.put, List.setIfInBounds_toArray, List.set_cons_zero, List.set_cons_succ, i64_w, i32_w]
                rfl
               refine pure_ (i := 6) (N := some 52) (v := ?_) (a' := ?_) #[true, true, true, true, true, false, true, false, false, false, false, false] rfl rfl (any_of HT_.out (by kernel_rfl)) (fun _ _ _ h => h) (Or.inl ⟨by rfl, ?_⟩) ?_ ?_
               rotate_left
               ·intro w'
                go_simp
                with_reducible rfl
               rotate_left
               ·simp only [Act.put, List.setIfInBounds_toArray, List.set_cons_zero, List.set_cons_succ, i64_w, i32_w]
                rfl
               refine take_ (i := 5) (N := some 51) (v := ?_) (a' := ?_) #[true, true, true, true, true, true, true, false, false, false, false, false] rfl rfl (take_ofW HT_.out HW_.out (by kernel_rfl)) (fun _ _ _ h => h) (Or.inl ⟨by rfl, ?_⟩) hHeld ?_ ?_
               rotate_left
               ·rintro w' ⟨s0, s1, s2, s3, s4, s5⟩
                go_simp
                with_reducible rfl
               rotate_left
               ·simp only [Act.put, List.setIfInBounds_toArray, List.set_cons_zero, List.set_cons_succ, i64_w, i32_w]
                rfl
               refine pure_ (i := 7) (N := some 53) (v := ?_) (a' := ?_) #[true, true, true, true, true, true, true, true, false, false, false, false] rfl rfl (any_of HT_.out (by kernel_rfl)) (fun _ _ _ h => h) (Or.inl ⟨by rfl, ?_⟩) ?_ ?_
               rotate_left
               ·intro w'
                go_simp
                with_reducible rfl
               rotate_left
               ·simp only [Act.put, List.setIfInBounds_toArray, List.set_cons_zero, List.set_cons_succ, i64_w, i32_w]
                rfl
               refine take_ (i := 8) (N := some 54) (v := ?_) (a' := ?_) #[true, true, true, true, true, true, true, true, true, false, false, false] rfl rfl (take_ofW HT_.out HW_.out (by kernel_rfl)) (fun _ _ _ h => h) (Or.inl ⟨by rfl, ?_⟩) hHeld ?_ ?_
               rotate_left
               ·rintro w' ⟨s0, s1, s2, s3, s4, s5⟩
                go_simp
                with_reducible rfl
               rotate_left
               ·simp only [Act.put, List.setIfInBounds_toArray, List.set_cons_zero, List.set_cons_succ, i64_w, i32_w]
                rfl
               refine one_ (i := 9) (N := some 55) #[true, true, true, true, true, true, true, true, true, true, false, false] rfl rfl (one_of HT_.out (by kernel_rfl)) (by decide) (fun K hK => ?_)
               refine goes_ Try.func43 (by kernel_rfl) rfl #[.slice (some ad194) y197.length c0_1, .agg #[.int .i64 ((rd_T41 l0_1 x41_3).f0), .int .i64 ((rd_T41 l0_1 x41_3).f1), .int .i64 ((rd_T41 l0_1 x41_3).f2), .int .i64 ((rd_T41 l0_1 x41_3).f3)]] (by rfl) rfl rfl mq ?_
               with_reducible refine (impl_sameLoan.calls k3 _ _ y197 ((rd_T41 l0_1 x41_3).f0) ((rd_T41 l0_1 x41_3).f1) ((rd_T41 l0_1 x41_3).f2) ((rd_T41 l0_1 x41_3).f3) t201 _ ?s1 ?s2 A25.out).mono ?_
               (case s1 => exact cq (Kd.C_below HR200.out HB.out))
               (case s2 => exact HC200.out)
               rintro e w42 ⟨rfl, hb⟩
               refine ⟨_, rfl, ?_⟩
               replace BK191 := zb BK191 hb
               replace BK195 := zb BK195 hb
               replace HB := sb hb
               (try clear hb)
               refine hK.out _ _ cl (fun hHeld => ?_)
               clear hK K
               refine norm_ (a' := ?_) ?_ ?_
               rotate_left
               ·show Act.put _ (some 55) _ = _
                simp only [Act.put, List.setIfInBounds_toArray, List.set_cons_zero, List.set_cons_succ, i64_w, i32_w]
                rfl
               refine pure_ (i := 10) (N := some 56) (v := ?_) (a' := ?_) #[true, true, true, true, true, true, true, true, true, true, true, false] rfl rfl (any_of HT_.out (by kernel_rfl)) (fun _ _ _ h => h) (Or.inl ⟨by rfl, ?_⟩) ?_ ?_
               rotate_left
               ·intro w'
                go_simp
                with_reducible rfl
               rotate_left
               ·simp only [Act.put, List.setIfInBounds_toArray, List.set_cons_zero, List.set_cons_succ, i64_w, i32_w]
                rfl
               refine pure_ (i := 11) (N := some 57) (v := ?_) (a' := ?_) #[true, true, true, true, true, true, true, true, true, true, true, true] rfl rfl (any_of HT_.out (by kernel_rfl)) (fun _ _ _ h => h) (Or.inl ⟨by rfl, ?_⟩) ?_ ?_
               rotate_left
               ·intro w'
                go_simp
                with_reducible rfl
               rotate_left
               ·simp only [Act.put, List.setIfInBounds_toArray, List.set_cons_zero, List.set_cons_succ, i64_w, i32_w]
                rfl
               refine done_ (done_of HT_.out (by kernel_rfl)) ?_
               try go_wp2
               go_roundg k3
               case measure => have := HJ1.out; have := HK2.out; have := HK3.out; omega
               case rel => exact ⟨(wrap64 (x41_3 + 1)), sq, H', ⟨by have := HJ1.out; have := HK2.out; have := HK3.out; omega⟩, ⟨zq BK191⟩, ⟨bq⟩⟩
             ·rw [if_neg c24] at H
              exact absurd H (by simp)
            ·replace c22 := Bool.eq_false_iff.mpr c22
             subst c22
             rw [if_neg (show ¬ (false = true) by decide)] at H
             try dsimp only at H
             obtain rfl := Option.some.inj H
             have p194 : 0 ≤ (x41_3 : Int) := of_decide_eq_true aq
             have q194 : x41_3 < (l0_1.length : Int) := of_decide_eq_true aq
             obtain ⟨ad194, e194, hx194_0, hx194_1, hx194_2, hx194_3⟩ := at_T41 HR0_1.out x41_3 p194 q194
             cases e194
             replace hx194_0 := (HB.out.cell (World.block_lt_of_cell? w _ hx194_0)).trans hx194_0
             replace hx194_1 := (HB.out.cell (World.block_lt_of_cell? w _ hx194_1)).trans hx194_1
             replace hx194_2 := (HB.out.cell (World.block_lt_of_cell? w _ hx194_2)).trans hx194_2
             replace hx194_3 := (HB.out.cell (World.block_lt_of_cell? w _ hx194_3)).trans hx194_3
             replace p194 := eq_true p194
             replace q194 := eq_true q194
             try go_wp2_with (first | ((with_reducible refine gate_dst (N := 6) rfl ?_); (try (refine gate_guard (by rfl) ?_; dsimp only)); refine box_event ?hg (N := 6) ?hd (cs := #[.int .i64 0, .int .i64 0, .int .i64 0, .int .i64 0]) (t := 41) ?hr ?_; (case hd => rfl); (case hg => rfl); (case hr => first | (go_simp; done) | (go_simp; rfl)); intro gb195 hg w43 hbox hb; have BK195 := am (hbox); have GW195 := am (gq hg); have GE195 := am (gq hg); replace HB := sb hb; have NB191_195 := nl hg BK191; have NB195_191 := ng hg BK191; replace BK191 := zb BK191 hb; clear hb hbox hg; have hnb44 := NB195_191.out; have hnc44 := NB191_195.out; have ⟨hcz45_0, hcz45_1, hcz45_2, hcz45_3, hfz45_0, hfz45_1, hfz45_2, hfz45_3⟩ := bc4 BK195))
             have n0_ : Aside0 (((((w43.setCell ⟨gb195, 0, none⟩ (.int .i64 ((rd_T41 l0_1 x41_3).f0))).setCell ⟨gb195, 1, none⟩ (.int .i64 ((rd_T41 l0_1 x41_3).f1))).setCell ⟨gb195, 2, none⟩ (.int .i64 ((rd_T41 l0_1 x41_3).f2))).setCell ⟨gb195, 3, none⟩ (.int .i64 ((rd_T41 l0_1 x41_3).f3))).heap[gb191]? = some (.cells #[.slice A0_0 l0_0.length c0_0, .slice (some ad194) l0_1.length c0_1] 29 (0, 0))) := ⟨zp BK191⟩
             have n1_ : Aside0 (((((w43.setCell ⟨gb195, 0, none⟩ (.int .i64 ((rd_T41 l0_1 x41_3).f0))).setCell ⟨gb195, 1, none⟩ (.int .i64 ((rd_T41 l0_1 x41_3).f1))).setCell ⟨gb195, 2, none⟩ (.int .i64 ((rd_T41 l0_1 x41_3).f2))).setCell ⟨gb195, 3, none⟩ (.int .i64 ((rd_T41 l0_1 x41_3).f3))).heap[gb195]? = some (.cells #[.int .i64 ((rd_T41 l0_1 x41_3).f0), .int .i64 ((rd_T41 l0_1 x41_3).f1), .int .i64 ((rd_T41 l0_1 x41_3).f2), .int .i64 ((rd_T41 l0_1 x41_3).f3)] 41 (0, 0))) := ⟨zp BK195⟩
             have n2_ : Aside0 (Below w.heap.size w ((((w43.setCell ⟨gb195, 0, none⟩ (.int .i64 ((rd_T41 l0_1 x41_3).f0))).setCell ⟨gb195, 1, none⟩ (.int .i64 ((rd_T41 l0_1 x41_3).f1))).setCell ⟨gb195, 2, none⟩ (.int .i64 ((rd_T41 l0_1 x41_3).f2))).setCell ⟨gb195, 3, none⟩ (.int .i64 ((rd_T41 l0_1 x41_3).f3)))) := ⟨bq⟩
             (try clear BK191)
             (try clear BK195)
             (try clear HB)
             generalize ((((w43.setCell ⟨gb195, 0, none⟩ (.int .i64 ((rd_T41 l0_1 x41_3).f0))).setCell ⟨gb195, 1, none⟩ (.int .i64 ((rd_T41 l0_1 x41_3).f1))).setCell ⟨gb195, 2, none⟩ (.int .i64 ((rd_T41 l0_1 x41_3).f2))).setCell ⟨gb195, 3, none⟩ (.int .i64 ((rd_T41 l0_1 x41_3).f3))) = w46 at n0_ n1_ n2_ ⊢
             have BK191 := n0_
             have BK195 := n1_
             have HB := n2_
             clear n0_ n1_ n2_
             replace BK191 := am (blk_drew BK191.out)
             replace BK195 := am (blk_drew BK195.out)
             replace HB := am (below_drew1 HB.out)
             refine start_ (n := 12) (S := fun w' => w'.cell? ⟨gb195, 0, none⟩ = some (.int .i64 ((rd_T41 l0_1 x41_3).f0)) ∧ w'.cell? ⟨gb195, 1, none⟩ = some (.int .i64 ((rd_T41 l0_1 x41_3).f1)) ∧ w'.cell? ⟨gb195, 2, none⟩ = some (.int .i64 ((rd_T41 l0_1 x41_3).f2)) ∧ w'.cell? ⟨gb195, 3, none⟩ = some (.int .i64 ((rd_T41 l0_1 x41_3).f3))) (ds := []) #[false, false, false, false, false, false, false, false, false, false, false, false] (by kernel_rfl) rfl rfl cl (fun hHeld => ?_); refine with_tabW impl_IsShop.tab12 impl_IsShop.bits12 (fun HT_ HW_ => ?_)
             generalize w46.drew = w47 at BK191 BK195 HB hHeld ⊢
             refine take_ (i := 0) (N := some 46) (v := ?_) (a' := ?_) #[true, false, false, false, false, false, false, false, false, false, false, false] rfl rfl (take_ofW HT_.out HW_.out (by kernel_rfl)) (fun _ _ _ h => h) (Or.inl ⟨by rfl, ?_⟩) hHeld ?_ ?_
             rotate_left
             ·rintro w' ⟨s0, s1, s2, s3⟩
              go_simp
              with_reducible rfl
             rotate_left
             ·simp only [Act.put, List.setIfInBounds_toArray, List.set_cons_zero, List.set_cons_succ, i64_w, i32_w]
              rfl
             refine one_ (i := 1) (N := some 47) #[true, true, false, false, false, false, false, false, false, false, false, false] rfl rfl (one_of HT_.out (by kernel_rfl)) (by decide) (fun K hK => ?_)
             refine goes_ Try.func42 (by kernel_rfl) rfl #[.agg #[.int .i64 ((rd_T41 l0_1 x41_3).f0), .int .i64 ((rd_T41 l0_1 x41_3).f1), .int .i64 ((rd_T41 l0_1 x41_3).f2), .int .i64 ((rd_T41 l0_1 x41_3).f3)]] (by rfl) rfl rfl mq ?_
             with_reducible refine (impl_isLoan.calls ((rd_T41 l0_1 x41_3).f0) ((rd_T41 l0_1 x41_3).f1) ((rd_T41 l0_1 x41_3).f2) ((rd_T41 l0_1 x41_3).f3) false _ A21.out).mono ?_
             rintro e w48 ⟨rfl, hb⟩
             refine ⟨_, rfl, ?_⟩
             replace BK191 := zb BK191 hb
             replace BK195 := zb BK195 hb
             replace HB := sb hb
             (try clear hb)
             refine hK.out _ _ cl (fun hHeld => ?_)
             clear hK K
             refine norm_ (a' := ?_) ?_ ?_
             rotate_left
             ·show Act.put _ (some 47) _ = _
              simp only [Act.put, List.setIfInBounds_toArray, List.set_cons_zero, List.set_cons_succ, i64_w, i32_w]
              rfl
             refine pure_ (i := 2) (N := some 48) (v := ?_) (a' := ?_) #[true, true, true, false, false, false, false, false, false, false, false, false] rfl rfl (any_of HT_.out (by kernel_rfl)) (fun _ _ _ h => h) (Or.inl ⟨by rfl, ?_⟩) ?_ ?_
             rotate_left
             ·intro w'
              go_simp
              with_reducible rfl
             rotate_left
             ·simp only [Act.put, List.setIfInBounds_toArray, List.set_cons_zero, List.set_cons_succ, i64_w, i32_w]
              rfl
             refine pure_ (i := 3) (N := some 49) (v := ?_) (a' := ?_) #[true, true, true, true, false, false, false, false, false, false, false, false] rfl rfl (any_of HT_.out (by kernel_rfl)) (fun _ _ _ h => h) (Or.inl ⟨by rfl, ?_⟩) ?_ ?_
             rotate_left
             ·intro w'
              go_simp
              with_reducible rfl
             rotate_left
             ·simp only [Act.put, List.setIfInBounds_toArray, List.set_cons_zero, List.set_cons_succ, i64_w, i32_w]
              rfl
             refine pure_ (i := 4) (N := some 50) (v := undef) (a' := ?_) #[true, true, true, true, true, false, false, false, false, false, false, false] rfl rfl (any_of HT_.out (by kernel_rfl)) (fun _ _ _ h => h) (Or.inr ⟨by rfl, rfl⟩) ?_ ?_
             rotate_left
             ·simp only [Act.put, List.setIfInBounds_toArray, List.set_cons_zero, List.set_cons_succ, i64_w, i32_w]
              rfl
             refine pure_ (i := 5) (N := some 51) (v := undef) (a' := ?_) #[true, true, true, true, true, true, false, false, false, false, false, false] rfl rfl (any_of HT_.out (by kernel_rfl)) (fun _ _ _ h => h) (Or.inr ⟨by rfl, rfl⟩) ?_ ?_
             rotate_left
             ·simp only [Act.put, List.setIfInBounds_toArray, List.set_cons_zero, List.set_cons_succ, i64_w, i32_w]
              rfl
             refine pure_ (i := 6) (N := some 52) (v := undef) (a' := ?_) #[true, true, true, true, true, true, true, false, false, false, false, false] rfl rfl (any_of HT_.out (by kernel_rfl)) (fun _ _ _ h => h) (Or.inr ⟨by rfl, rfl⟩) ?_ ?_
             rotate_left
             ·simp only [Act.put, List.setIfInBounds_toArray, List.set_cons_zero, List.set_cons_succ, i64_w, i32_w]
              rfl
             refine pure_ (i := 7) (N := some 53) (v := undef) (a' := ?_) #[true, true, true, true, true, true, true, true, false, false, false, false] rfl rfl (any_of HT_.out (by kernel_rfl)) (fun _ _ _ h => h) (Or.inr ⟨by rfl, rfl⟩) ?_ ?_
             rotate_left
             ·simp only [Act.put, List.setIfInBounds_toArray, List.set_cons_zero, List.set_cons_succ, i64_w, i32_w]
              rfl
             refine pure_ (i := 8) (N := some 54) (v := undef) (a' := ?_) #[true, true, true, true, true, true, true, true, true, false, false, false] rfl rfl (any_of HT_.out (by kernel_rfl)) (fun _ _ _ h => h) (Or.inr ⟨by rfl, rfl⟩) ?_ ?_
             rotate_left
             ·simp only [Act.put, List.setIfInBounds_toArray, List.set_cons_zero, List.set_cons_succ, i64_w, i32_w]
              rfl
             refine pure_ (i := 9) (N := some 55) (v := undef) (a' := ?_) #[true, true, true, true, true, true, true, true, true, true, false, false] rfl rfl (any_of HT_.out (by kernel_rfl)) (fun _ _ _ h => h) (Or.inr ⟨by rfl, rfl⟩) ?_ ?_
             rotate_left
             ·simp only [Act.put, List.setIfInBounds_toArray, List.set_cons_zero, List.set_cons_succ, i64_w, i32_w]
              rfl
             refine pure_ (i := 10) (N := some 56) (v := undef) (a' := ?_) #[true, true, true, true, true, true, true, true, true, true, true, false] rfl rfl (any_of HT_.out (by kernel_rfl)) (fun _ _ _ h => h) (Or.inr ⟨by rfl, rfl⟩) ?_ ?_
             rotate_left
             ·simp only [Act.put, List.setIfInBounds_toArray, List.set_cons_zero, List.set_cons_succ, i64_w, i32_w]
              rfl
             refine pure_ (i := 11) (N := some 57) (v := ?_) (a' := ?_) #[true, true, true, true, true, true, true, true, true, true, true, true] rfl rfl (any_of HT_.out (by kernel_rfl)) (fun _ _ _ h => h) (Or.inl ⟨by rfl, ?_⟩) ?_ ?_
             rotate_left
             ·intro w'
              go_simp
              with_reducible rfl
             rotate_left
             ·simp only [Act.put, List.setIfInBounds_toArray, List.set_cons_zero, List.set_cons_succ, i64_w, i32_w]
              rfl
             refine done_ (done_of HT_.out (by kernel_rfl)) ?_
             try go_wp2
             go_ret
             exact ⟨eq_, bq⟩
           ·rw [if_neg c20] at H
            exact absurd H (by simp)
          ·rw [if_neg c19] at H
           exact absurd H (by simp)
         ·rw [if_neg c18] at H
          have c18b0 : decide (x41_3 < (l0_1.length : Int)) = false := decide_eq_false c18
          clear c18
          obtain rfl := Option.some.inj H
          go_wp2
          go_ret
          exact ⟨eq_, bq⟩



/-! ### impl_copyShop: function 28 -/
def impl_copyShop.f (l0_0 : List Int) (l0_1 : List (S41)) : Option (List Int × (List (S41))) := (some (([] : List Int) : List Int)).bind fun y204 => (if y204.length + l0_0.length < 17592186044416 then ((some (([] : List (S41)) : List (S41))).bind fun y210 => (if y210.length + l0_1.length < 4398046511104 then (some ((y204 ++ l0_0), (y210 ++ l0_1))) else (none))) else (none))
def impl_copyShop.T1 : Bool × List (List Nat × List Nat) := (true, [([], []), ([], []), ([1], [1]), ([0, 2], [0, 2]), ([], []), ([], []), ([5], [5]), ([4, 6, 3], [4, 6]), ([3, 7], [3, 7]), ([8, 7, 0, 1, 2, 3, 4, 5, 6, 7, 8], [8])])
def impl_copyShop.B1 : List Nat := [0, 0, 2, 7, 0, 0, 32, 127, 255, 511]
theorem impl_copyShop.tab1 : rtab .any (opsOf Try.f28 1) = impl_copyShop.T1 := by kernel_rfl
theorem impl_copyShop.bits1 : waitsOk impl_copyShop.T1.2 impl_copyShop.B1 = true := by kernel_rfl
set_option maxHeartbeats 8000000 in
set_option maxRecDepth 100000 in
theorem impl_copyShop.calls (A0_0 : Option Addr) (c0_0 : Nat) (l0_0 : List Int) (A0_1 : Option Addr) (c0_1 : Nat) (l0_1 : List (S41)) (r1 : List Int) (r2 : List (S41)) (w : World) (hr0_0 : Kd.C (Kd.int .i64) w A0_0 l0_0.length l0_0) (hc0_0 : l0_0.length ≤ c0_0) (hr0_1 : Kd.C k41 w A0_1 l0_1.length l0_1) (hc0_1 : l0_1.length ≤ c0_1) (h : impl_copyShop.f l0_0 l0_1 = some (r1, r2)) :
  Calls Try.prog 28 #[.agg #[.slice A0_0 l0_0.length c0_0, .slice A0_1 l0_1.length c0_1]] w fun e w' => ∃ v0_ v1_ : Value, e = .returned (.agg #[v0_, v1_]) ∧ Kd.R (Kd.int .i64) 3 w' w.heap.size (fun _ => True) v0_ r1 ∧ Kd.R k41 41 w' w.heap.size (fun _ => True) v1_ r2 ∧ Below w.heap.size w w' := by
 have hu29 := Try.underlying29
 have HR0_0 := am hr0_0
 have HC0_0 := am hc0_0
 clear hr0_0 hc0_0
 have HR0_1 := am hr0_1
 have HC0_1 := am hc0_1
 clear hr0_1 hc0_1
 have HB := am (Below.refl w.heap.size w)
 have H : ((some (([] : List Int) : List Int)).bind fun y204 => (if y204.length + l0_0.length < 17592186044416 then ((some (([] : List (S41)) : List (S41))).bind fun y210 => (if y210.length + l0_1.length < 4398046511104 then (some ((y204 ++ l0_0), (y210 ++ l0_1))) else (none))) else (none))) = some (r1, r2) := h
 clear h
 obtain ⟨y204, hy204⟩ : ∃ y_ : List Int, y_ = (([] : List Int)) := ⟨_, rfl⟩
 replace H : (if y204.length + l0_0.length < 17592186044416 then ((some (([] : List (S41)) : List (S41))).bind fun y210 => (if y210.length + l0_1.length < 4398046511104 then (some ((y204 ++ l0_0), (y210 ++ l0_1))) else (none))) else (none)) = some (r1, r2) := by first | (rw [hy204]; with_reducible exact H) | (have H2_ := (Option.bind_some _ _).symm.trans H; rw [hy204]; with_reducible exact H2_) | (have H2_ := (Option.bind_some _ _).symm.trans H; with_reducible exact H2_) | with_reducible exact H | (rw [hy204]; exact H) | exact H
 have Ny204 := am hy204
 clear hy204
 by_cases c2 : y204.length + l0_0.length < 17592186044416
 ·rw [if_pos c2] at H
  have LMc2 := am c2
  clear c2
  obtain ⟨y207, hy207⟩ : ∃ y_ : List Int, y_ = (y204 ++ l0_0) := ⟨_, rfl⟩
  replace H : ((some (([] : List (S41)) : List (S41))).bind fun y210 => (if y210.length + l0_1.length < 4398046511104 then (some (y207, (y210 ++ l0_1))) else (none))) = some (r1, r2) := by first | (rw [hy207]; with_reducible exact H) | (have H2_ := (Option.bind_some _ _).symm.trans H; rw [hy207]; with_reducible exact H2_) | (have H2_ := (Option.bind_some _ _).symm.trans H; with_reducible exact H2_) | with_reducible exact H | (rw [hy207]; exact H) | exact H
  have Ny207 := am hy207
  clear hy207
  obtain ⟨y210, hy210⟩ : ∃ y_ : List (S41), y_ = (([] : List (S41))) := ⟨_, rfl⟩
  replace H : (if y210.length + l0_1.length < 4398046511104 then (some (y207, (y210 ++ l0_1))) else (none)) = some (r1, r2) := by first | (rw [hy210]; with_reducible exact H) | (have H2_ := (Option.bind_some _ _).symm.trans H; rw [hy210]; with_reducible exact H2_) | (have H2_ := (Option.bind_some _ _).symm.trans H; with_reducible exact H2_) | with_reducible exact H | (rw [hy210]; exact H) | exact H
  have Ny210 := am hy210
  clear hy210
  by_cases c3 : y210.length + l0_1.length < 4398046511104
  ·rw [if_pos c3] at H
   have LMc3 := am c3
   clear c3
   obtain ⟨y213, hy213⟩ : ∃ y_ : List (S41), y_ = (y210 ++ l0_1) := ⟨_, rfl⟩
   replace H : (some (y207, y213)) = some (r1, r2) := by first | (rw [hy213]; with_reducible exact H) | (have H2_ := (Option.bind_some _ _).symm.trans H; rw [hy213]; with_reducible exact H2_) | (have H2_ := (Option.bind_some _ _).symm.trans H; with_reducible exact H2_) | with_reducible exact H | (rw [hy213]; exact H) | exact H
   have Ny213 := am hy213
   clear hy213
   simp only [Option.some.injEq, Prod.mk.injEq] at H
   obtain ⟨rfl, rfl⟩ := H
   go_enter Try.func28, Try.ntmps28
   try go_wp2_with (first | ((with_reducible refine gate_dst (N := 1) rfl ?_); refine box_event ?hg (N := 1) ?hd (cs := #[.slice A0_0 l0_0.length c0_0, .slice A0_1 l0_1.length c0_1]) (t := 29) ?hr ?_; (case hd => rfl); (case hg => rfl); (case hr => first | (go_simp; done) | (go_simp; rfl)); intro gb202 hg w4 hbox hb; have BK202 := am (hbox); have GW202 := am (gq hg); have GE202 := am (gq hg); replace HB := sb hb; clear hb hbox hg) | ((with_reducible refine gate_dst (N := 2) rfl ?_); refine box_event ?hg (N := 2) ?hd (cs := #[.slice none 0 0, .slice none 0 0]) (t := 29) ?hr ?_; (case hd => rfl); (case hg => rfl); (case hr => first | (go_simp; done) | (go_simp; rfl)); intro gb203 hg w5 hbox hb; have BK203 := am (hbox); have GW203 := am (gq hg); have GE203 := am (gq hg); replace HB := sb hb; have NB202_203 := nl hg BK202; have NB203_202 := ng hg BK202; replace BK202 := zb BK202 hb; clear hb hbox hg))
   replace BK202 := am (blk_drew BK202.out)
   replace BK203 := am (blk_drew BK203.out)
   replace HB := am (below_drew1 HB.out)
   refine start_ (n := 10) (S := fun w' => w'.cell? ⟨gb202, 0, none⟩ = some (.slice A0_0 l0_0.length c0_0) ∧ w'.cell? ⟨gb202, 1, none⟩ = some (.slice A0_1 l0_1.length c0_1)) (ds := []) #[false, false, false, false, false, false, false, false, false, false] (by kernel_rfl) rfl rfl cl (fun hHeld => ?_); refine with_tabW impl_copyShop.tab1 impl_copyShop.bits1 (fun HT_ HW_ => ?_)
   generalize w5.drew = w6 at BK202 BK203 HB hHeld ⊢
   refine pure_ (i := 1) (N := some 4) (v := ?_) (a' := ?_) #[false, true, false, false, false, false, false, false, false, false] rfl rfl (any_of HT_.out (by kernel_rfl)) (fun _ _ _ h => h) (Or.inl ⟨by rfl, ?_⟩) ?_ ?_
   rotate_left
   ·intro w'
    go_simp
    with_reducible rfl
   rotate_left
   ·simp only [Act.put, List.setIfInBounds_toArray, List.set_cons_zero, List.set_cons_succ, i64_w, i32_w]
    rfl
   refine pure_ (i := 5) (N := some 8) (v := ?_) (a' := ?_) #[false, true, false, false, false, true, false, false, false, false] rfl rfl (any_of HT_.out (by kernel_rfl)) (fun _ _ _ h => h) (Or.inl ⟨by rfl, ?_⟩) ?_ ?_
   rotate_left
   ·intro w'
    go_simp
    with_reducible rfl
   rotate_left
   ·simp only [Act.put, List.setIfInBounds_toArray, List.set_cons_zero, List.set_cons_succ, i64_w, i32_w]
    rfl
   refine take_ (i := 2) (N := some 5) (v := ?_) (a' := ?_) #[false, true, true, false, false, true, false, false, false, false] rfl rfl (take_ofW HT_.out HW_.out (by kernel_rfl)) (fun _ _ _ h => h) (Or.inl ⟨by rfl, ?_⟩) hHeld ?_ ?_
   rotate_left
   ·rintro w' ⟨s0, s1⟩
    go_simp
    with_reducible rfl
   rotate_left
   ·simp only [Act.put, List.setIfInBounds_toArray, List.set_cons_zero, List.set_cons_succ, i64_w, i32_w]
    rfl
   refine take_ (i := 6) (N := some 9) (v := ?_) (a' := ?_) #[false, true, true, false, false, true, true, false, false, false] rfl rfl (take_ofW HT_.out HW_.out (by kernel_rfl)) (fun _ _ _ h => h) (Or.inl ⟨by rfl, ?_⟩) hHeld ?_ ?_
   rotate_left
   ·rintro w' ⟨s0, s1⟩
    go_simp
    with_reducible rfl
   rotate_left
   ·simp only [Act.put, List.setIfInBounds_toArray, List.set_cons_zero, List.set_cons_succ, i64_w, i32_w]
    rfl
   refine join_ (σ := Value × Value × Value) 3 #[true, true, true, true, true, true, true, false, false, false] (fun s_ => [(3, s_.1), (6, s_.2.1), (7, s_.2.2)]) (fun s_ w' => (w'.cell? ⟨gb202, 0, none⟩ = some (.slice A0_0 l0_0.length c0_0) ∧ w'.cell? ⟨gb202, 1, none⟩ = some (.slice A0_1 l0_1.length c0_1)) ∧ (Kd.R (Kd.int .i64) 3 w' w.heap.size (fun _ => True) s_.2.1 y207) ∧ (Kd.R k41 41 w' w.heap.size (fun _ => True) s_.2.2 y210) ∧ (w'.heap[gb202]? = some (.cells #[.slice A0_0 l0_0.length c0_0, .slice A0_1 l0_1.length c0_1] 29 (0, 0))) ∧ (w'.heap[gb203]? = some (.cells #[.slice none 0 0, .slice none 0 0] 29 (0, 0))) ∧ (Below w.heap.size w w')) ?_ ?_
   rotate_left
   ·intro hCont
    refine two_ (i := 0) (j := 4) (Ni := some 3) (Nj := some 7) #[true, true, true, false, false, true, true, false, false, false] #[false, true, true, false, true, true, true, false, false, false] rfl rfl rfl rfl (two_of HT_.out (by kernel_rfl)) (by decide) (by decide) (fun K hK => ?_) (fun K hK => ?_)
    ·skip
     refine Kd.R_lit_step (Kd.int .i64) _ 3 ?hg (N := 3) ?hd (xs := ([] : List Int)) (inner := []) (ok := fun _ => True) (okp := fun _ => True) ?hr ?hp (fun _ hk => hk) trivial (Below.refl _ _) (Nat.le_refl _) (by simp) ?_; (case hd => rfl); (case hg => rfl); (case hr => first | (go_simp; done) | (go_simp; rfl)); (case hp => exact (Reps.none _ _))
     intro v205 w7 ho8 hb hg_ hnew_
     clear hg_ hnew_
     (first | rw [← Ny204.out] at ho8 | (simp only [Int.reduceToNat] at ho8; rw [← Ny204.out] at ho8))
     have HO206 := rl ho8
     replace BK202 := zb BK202 hb
     replace BK203 := zb BK203 hb
     replace HB := sb hb
     clear hb ho8
     refine hK.out _ _ cl (fun hHeld => ?_)
     clear hK K
     refine norm_ (a' := ?_) ?_ ?_
     rotate_left
     ·show Act.put _ (some 3) _ = _
      simp only [Act.put, List.setIfInBounds_toArray, List.set_cons_zero, List.set_cons_succ, i64_w, i32_w]
      rfl
     refine two_ (i := 3) (j := 4) (Ni := some 6) (Nj := some 7) #[true, true, true, true, false, true, true, false, false, false] #[true, true, true, false, true, true, true, false, false, false] rfl rfl rfl rfl (two_of HT_.out (by kernel_rfl)) (by decide) (by decide) (fun K hK => ?_) (fun K hK => ?_)
     ·skip
      refine Kd.R_append_rows_step (Kd.int .i64) (w0 := w) w.heap.size (by rfl) (.tmp 3) (.tmp 5) 22 3 (.int .i64 0) 8 rfl Try.underlying22 info3 rfl (by decide) (by omega) v205 y204 l0_0 _ _ _ (fun _ => True) (fun _ => False) rfl rfl ?aO ?aR (fun _ _ h => h) (fun _ h => h.elim) ?aF ?aB ?aS ?aL ?_
      (case aR => repeat (first | exact (Kd.C_below HR0_0.out HB.out) | (with_reducible refine Kd.C_alloc ?_ _) | (with_reducible refine Kd.C_drewN ?_ _) | (with_reducible refine Kd.C_drew ?_)))
      (case aB => exact bq)
      (case aF => exact (fun _ _ => trivial))
      (case aO => exact (rq HO206))
      (case aS => exact (below_size bq))
      (case aL => have := LMc2.out; omega)
      intro v208 w9 ho hb hg hat
      rw [← Ny207.out] at ho
      have n0_ := am (blk_grown (g := gb202) (o := .cells #[.slice A0_0 l0_0.length c0_0, .slice A0_1 l0_1.length c0_1] 29 (0, 0)) (zq BK202) hg (Kd.R_ne HO206.out BK202.out (by decide)))
      have n1_ := am (blk_grown (g := gb203) (o := .cells #[.slice none 0 0, .slice none 0 0] 29 (0, 0)) (zq BK203) hg (Kd.R_ne HO206.out BK203.out (by decide)))
      have n2_ := am (hb)
      have n3_ := am (ho)
      clear BK202 BK203 HB HO206
      have BK202 := n0_
      have BK203 := n1_
      have HB := n2_
      have HO209 := n3_
      clear n0_ n1_ n2_ n3_ ho hb hg hat
      refine hK.out _ _ cl (fun hHeld => ?_)
      clear hK K
      refine norm_ (a' := ?_) ?_ ?_
      rotate_left
      ·show Act.put _ (some 6) _ = _
       simp only [Act.put, List.setIfInBounds_toArray, List.set_cons_zero, List.set_cons_succ, i64_w, i32_w]
       rfl
      refine one_ (i := 4) (N := some 7) #[true, true, true, true, true, true, true, false, false, false] rfl rfl (one_of HT_.out (by kernel_rfl)) (by decide) (fun K hK => ?_)
      refine Kd.R_lit_step k41 _ 41 ?hg (N := 7) ?hd (xs := ([] : List (S41))) (inner := []) (ok := fun _ => True) (okp := fun _ => True) ?hr ?hp (fun _ hk => hk) trivial (Below.refl _ _) (Nat.le_refl _) (by simp) ?_; (case hd => rfl); (case hg => rfl); (case hr => first | (go_simp; done) | (go_simp; rfl)); (case hp => exact (Reps.none _ _))
      intro v211 w10 ho11 hb hg_ hnew_
      clear hg_ hnew_
      (first | rw [← Ny210.out] at ho11 | (simp only [Int.reduceToNat] at ho11; rw [← Ny210.out] at ho11))
      replace HO209 := rb HO209 hb
      have HO212 := rl ho11
      replace BK202 := zb BK202 hb
      replace BK203 := zb BK203 hb
      replace HB := sb hb
      clear hb ho11
      refine hK.out _ _ cl (fun hHeld => ?_)
      clear hK K
      refine norm_ (a' := ?_) ?_ ?_
      rotate_left
      ·show Act.put _ (some 7) _ = _
       simp only [Act.put, List.setIfInBounds_toArray, List.set_cons_zero, List.set_cons_succ, i64_w, i32_w]
       rfl
      exact norm_ (by simp only [putAll, Act.put, List.setIfInBounds_toArray, List.set_cons_zero, List.set_cons_succ]) (hCont (v205, v208, v211) _ ⟨hHeld, (rq HO209), (rq HO212), (zq BK202), (zq BK203), bq⟩)
     ·skip
      refine Kd.R_lit_step k41 _ 41 ?hg (N := 7) ?hd (xs := ([] : List (S41))) (inner := []) (ok := fun _ => True) (okp := fun _ => True) ?hr ?hp (fun _ hk => hk) trivial (Below.refl _ _) (Nat.le_refl _) (by simp) ?_; (case hd => rfl); (case hg => rfl); (case hr => first | (go_simp; done) | (go_simp; rfl)); (case hp => exact (Reps.none _ _))
      intro v211 w9 ho10 hb hg_ hnew_
      clear hg_ hnew_
      (first | rw [← Ny210.out] at ho10 | (simp only [Int.reduceToNat] at ho10; rw [← Ny210.out] at ho10))
      replace HO206 := rb HO206 hb
      have HO212 := rl ho10
      replace BK202 := zb BK202 hb
      replace BK203 := zb BK203 hb
      replace HB := sb hb
      clear hb ho10
      refine hK.out _ _ cl (fun hHeld => ?_)
      clear hK K
      refine norm_ (a' := ?_) ?_ ?_
      rotate_left
      ·show Act.put _ (some 7) _ = _
       simp only [Act.put, List.setIfInBounds_toArray, List.set_cons_zero, List.set_cons_succ, i64_w, i32_w]
       rfl
      refine one_ (i := 3) (N := some 6) #[true, true, true, true, true, true, true, false, false, false] rfl rfl (one_of HT_.out (by kernel_rfl)) (by decide) (fun K hK => ?_)
      refine Kd.R_append_rows_step (Kd.int .i64) (w0 := w) w.heap.size (by rfl) (.tmp 3) (.tmp 5) 22 3 (.int .i64 0) 8 rfl Try.underlying22 info3 rfl (by decide) (by omega) v205 y204 l0_0 _ _ _ (fun _ => True) (fun _ => False) rfl rfl ?aO ?aR (fun _ _ h => h) (fun _ h => h.elim) ?aF ?aB ?aS ?aL ?_
      (case aR => repeat (first | exact (Kd.C_below HR0_0.out HB.out) | (with_reducible refine Kd.C_alloc ?_ _) | (with_reducible refine Kd.C_drewN ?_ _) | (with_reducible refine Kd.C_drew ?_)))
      (case aB => exact bq)
      (case aF => exact (fun _ _ => trivial))
      (case aO => exact (rq HO206))
      (case aS => exact (below_size bq))
      (case aL => have := LMc2.out; omega)
      intro v208 w11 ho hb hg hat
      rw [← Ny207.out] at ho
      have n0_ := am (blk_grown (g := gb202) (o := .cells #[.slice A0_0 l0_0.length c0_0, .slice A0_1 l0_1.length c0_1] 29 (0, 0)) (zq BK202) hg (Kd.R_ne HO206.out BK202.out (by decide)))
      have n1_ := am (blk_grown (g := gb203) (o := .cells #[.slice none 0 0, .slice none 0 0] 29 (0, 0)) (zq BK203) hg (Kd.R_ne HO206.out BK203.out (by decide)))
      have n2_ := am (Kd.R_over' (rq HO212) (Kd.R_typed (rq HO206)) (by decide) hg)
      have n3_ := am (hb)
      have n4_ := am (ho)
      clear BK202 BK203 HO212 HB HO206
      have BK202 := n0_
      have BK203 := n1_
      have HO212 := n2_
      have HB := n3_
      have HO209 := n4_
      clear n0_ n1_ n2_ n3_ n4_ ho hb hg hat
      refine hK.out _ _ cl (fun hHeld => ?_)
      clear hK K
      refine norm_ (a' := ?_) ?_ ?_
      rotate_left
      ·show Act.put _ (some 6) _ = _
       simp only [Act.put, List.setIfInBounds_toArray, List.set_cons_zero, List.set_cons_succ, i64_w, i32_w]
       rfl
      exact norm_ (by simp only [putAll, Act.put, List.setIfInBounds_toArray, List.set_cons_zero, List.set_cons_succ]) (hCont (v205, v208, v211) _ ⟨hHeld, (rq HO209), (rq HO212), (zq BK202), (zq BK203), bq⟩)
    ·skip
     refine Kd.R_lit_step k41 _ 41 ?hg (N := 7) ?hd (xs := ([] : List (S41))) (inner := []) (ok := fun _ => True) (okp := fun _ => True) ?hr ?hp (fun _ hk => hk) trivial (Below.refl _ _) (Nat.le_refl _) (by simp) ?_; (case hd => rfl); (case hg => rfl); (case hr => first | (go_simp; done) | (go_simp; rfl)); (case hp => exact (Reps.none _ _))
     intro v211 w7 ho8 hb hg_ hnew_
     clear hg_ hnew_
     (first | rw [← Ny210.out] at ho8 | (simp only [Int.reduceToNat] at ho8; rw [← Ny210.out] at ho8))
     have HO212 := rl ho8
     replace BK202 := zb BK202 hb
     replace BK203 := zb BK203 hb
     replace HB := sb hb
     clear hb ho8
     refine hK.out _ _ cl (fun hHeld => ?_)
     clear hK K
     refine norm_ (a' := ?_) ?_ ?_
     rotate_left
     ·show Act.put _ (some 7) _ = _
      simp only [Act.put, List.setIfInBounds_toArray, List.set_cons_zero, List.set_cons_succ, i64_w, i32_w]
      rfl
     refine one_ (i := 0) (N := some 3) #[true, true, true, false, true, true, true, false, false, false] rfl rfl (one_of HT_.out (by kernel_rfl)) (by decide) (fun K hK => ?_)
     refine Kd.R_lit_step (Kd.int .i64) _ 3 ?hg (N := 3) ?hd (xs := ([] : List Int)) (inner := []) (ok := fun _ => True) (okp := fun _ => True) ?hr ?hp (fun _ hk => hk) trivial (Below.refl _ _) (Nat.le_refl _) (by simp) ?_; (case hd => rfl); (case hg => rfl); (case hr => first | (go_simp; done) | (go_simp; rfl)); (case hp => exact (Reps.none _ _))
     intro v205 w9 ho10 hb hg_ hnew_
     clear hg_ hnew_
     (first | rw [← Ny204.out] at ho10 | (simp only [Int.reduceToNat] at ho10; rw [← Ny204.out] at ho10))
     replace HO212 := rb HO212 hb
     have HO206 := rl ho10
     replace BK202 := zb BK202 hb
     replace BK203 := zb BK203 hb
     replace HB := sb hb
     clear hb ho10
     refine hK.out _ _ cl (fun hHeld => ?_)
     clear hK K
     refine norm_ (a' := ?_) ?_ ?_
     rotate_left
     ·show Act.put _ (some 3) _ = _
      simp only [Act.put, List.setIfInBounds_toArray, List.set_cons_zero, List.set_cons_succ, i64_w, i32_w]
      rfl
     refine one_ (i := 3) (N := some 6) #[true, true, true, true, true, true, true, false, false, false] rfl rfl (one_of HT_.out (by kernel_rfl)) (by decide) (fun K hK => ?_)
     refine Kd.R_append_rows_step (Kd.int .i64) (w0 := w) w.heap.size (by rfl) (.tmp 3) (.tmp 5) 22 3 (.int .i64 0) 8 rfl Try.underlying22 info3 rfl (by decide) (by omega) v205 y204 l0_0 _ _ _ (fun _ => True) (fun _ => False) rfl rfl ?aO ?aR (fun _ _ h => h) (fun _ h => h.elim) ?aF ?aB ?aS ?aL ?_
     (case aR => repeat (first | exact (Kd.C_below HR0_0.out HB.out) | (with_reducible refine Kd.C_alloc ?_ _) | (with_reducible refine Kd.C_drewN ?_ _) | (with_reducible refine Kd.C_drew ?_)))
     (case aB => exact bq)
     (case aF => exact (fun _ _ => trivial))
     (case aO => exact (rq HO206))
     (case aS => exact (below_size bq))
     (case aL => have := LMc2.out; omega)
     intro v208 w11 ho hb hg hat
     rw [← Ny207.out] at ho
     have n0_ := am (blk_grown (g := gb202) (o := .cells #[.slice A0_0 l0_0.length c0_0, .slice A0_1 l0_1.length c0_1] 29 (0, 0)) (zq BK202) hg (Kd.R_ne HO206.out BK202.out (by decide)))
     have n1_ := am (blk_grown (g := gb203) (o := .cells #[.slice none 0 0, .slice none 0 0] 29 (0, 0)) (zq BK203) hg (Kd.R_ne HO206.out BK203.out (by decide)))
     have n2_ := am (Kd.R_over' (rq HO212) (Kd.R_typed (rq HO206)) (by decide) hg)
     have n3_ := am (hb)
     have n4_ := am (ho)
     clear BK202 BK203 HO212 HB HO206
     have BK202 := n0_
     have BK203 := n1_
     have HO212 := n2_
     have HB := n3_
     have HO209 := n4_
     clear n0_ n1_ n2_ n3_ n4_ ho hb hg hat
     refine hK.out _ _ cl (fun hHeld => ?_)
     clear hK K
     refine norm_ (a' := ?_) ?_ ?_
     rotate_left
     ·show Act.put _ (some 6) _ = _
      simp only [Act.put, List.setIfInBounds_toArray, List.set_cons_zero, List.set_cons_succ, i64_w, i32_w]
      rfl
     exact norm_ (by simp only [putAll, Act.put, List.setIfInBounds_toArray, List.set_cons_zero, List.set_cons_succ]) (hCont (v205, v208, v211) _ ⟨hHeld, (rq HO209), (rq HO212), (zq BK202), (zq BK203), bq⟩)
   rintro ⟨v205, v208, v211⟩ w12 ⟨hS_, h0_, h1_, h2_, h3_, h4_⟩
   have n0_ : Aside0 (Kd.R (Kd.int .i64) 3 w12 w.heap.size (fun _ => True) v208 y207) := ⟨h0_⟩
   have n1_ : Aside0 (Kd.R k41 41 w12 w.heap.size (fun _ => True) v211 y210) := ⟨h1_⟩
   have n2_ : Aside0 (w12.heap[gb202]? = some (.cells #[.slice A0_0 l0_0.length c0_0, .slice A0_1 l0_1.length c0_1] 29 (0, 0))) := ⟨h2_⟩
   have n3_ : Aside0 (w12.heap[gb203]? = some (.cells #[.slice none 0 0, .slice none 0 0] 29 (0, 0))) := ⟨h3_⟩
   have n4_ : Aside0 (Below w.heap.size w w12) := ⟨h4_⟩
   clear BK202 BK203 HB h0_ h1_ h2_ h3_ h4_
   have HO209 := n0_
   have HO212 := n1_
   have BK202 := n2_
   have BK203 := n3_
   have HB := n4_
   clear n0_ n1_ n2_ n3_ n4_
   have hHeld : w12.cell? ⟨gb202, 0, none⟩ = some (.slice A0_0 l0_0.length c0_0) ∧ w12.cell? ⟨gb202, 1, none⟩ = some (.slice A0_1 l0_1.length c0_1) := hS_
   refine norm_ (a' := ?_) ?_ ?_
   rotate_left
   ·simp only [putAll, Act.put, List.setIfInBounds_toArray, List.set_cons_zero, List.set_cons_succ]
    rfl
   refine one_ (i := 7) (N := some 10) #[true, true, true, true, true, true, true, true, false, false] rfl rfl (one_of HT_.out (by kernel_rfl)) (by decide) (fun K hK => ?_)
   refine Kd.R_append_rows_step k41 (w0 := w) w.heap.size (by rfl) (.tmp 7) (.tmp 9) 27 41 (.agg #[(.int .i64 0), (.int .i64 0), (.int .i64 0), (.int .i64 0)]) 32 rfl Try.underlying27 info41 rfl (by decide) (by omega) v211 y210 l0_1 _ _ _ (fun _ => True) (fun _ => False) rfl rfl ?aO ?aR (fun _ _ h => h) (fun _ h => h.elim) ?aF ?aB ?aS ?aL ?_
   (case aR => repeat (first | exact (Kd.C_below HR0_1.out HB.out) | (with_reducible refine Kd.C_alloc ?_ _) | (with_reducible refine Kd.C_drewN ?_ _) | (with_reducible refine Kd.C_drew ?_)))
   (case aB => exact bq)
   (case aF => exact (fun _ _ => trivial))
   (case aO => exact (rq HO212))
   (case aS => exact (below_size bq))
   (case aL => have := LMc3.out; omega)
   intro v214 w13 ho hb hg hat
   rw [← Ny213.out] at ho
   have n0_ := am (blk_grown (g := gb202) (o := .cells #[.slice A0_0 l0_0.length c0_0, .slice A0_1 l0_1.length c0_1] 29 (0, 0)) (zq BK202) hg (Kd.R_ne HO212.out BK202.out (by decide)))
   have n1_ := am (blk_grown (g := gb203) (o := .cells #[.slice none 0 0, .slice none 0 0] 29 (0, 0)) (zq BK203) hg (Kd.R_ne HO212.out BK203.out (by decide)))
   have n2_ := am (Kd.R_over' (rq HO209) (Kd.R_typed (rq HO212)) (by decide) hg)
   have n3_ := am (hb)
   have n4_ := am (ho)
   clear BK202 BK203 HO209 HB HO212
   have BK202 := n0_
   have BK203 := n1_
   have HO209 := n2_
   have HB := n3_
   have HO215 := n4_
   clear n0_ n1_ n2_ n3_ n4_ ho hb hg hat
   obtain ⟨Ao14, co14, eo14⟩ := Kd.R_slice HO215.out
   (first | subst eo14 | (injection eo14 with f1_ f2_ f3_; have f4_ := f1_.symm; have f5_ := f3_.symm; clear f1_ f2_ f3_; subst f4_; subst f5_))
   obtain ⟨Ao15, co15, eo15⟩ := Kd.R_slice HO209.out
   (first | subst eo15 | (injection eo15 with f1_ f2_ f3_; have f4_ := f1_.symm; have f5_ := f3_.symm; clear f1_ f2_ f3_; subst f4_; subst f5_))
   refine hK.out _ _ cl (fun hHeld => ?_)
   clear hK K
   refine norm_ (a' := ?_) ?_ ?_
   rotate_left
   ·show Act.put _ (some 10) _ = _
    simp only [Act.put, List.setIfInBounds_toArray, List.set_cons_zero, List.set_cons_succ, i64_w, i32_w]
    rfl
   refine pure_ (i := 8) (N := some 11) (v := ?_) (a' := ?_) #[true, true, true, true, true, true, true, true, true, false] rfl rfl (any_of HT_.out (by kernel_rfl)) (fun _ _ _ h => h) (Or.inl ⟨by rfl, ?_⟩) ?_ ?_
   rotate_left
   ·intro w'
    go_simp
    with_reducible rfl
   rotate_left
   ·simp only [Act.put, List.setIfInBounds_toArray, List.set_cons_zero, List.set_cons_succ, i64_w, i32_w]
    rfl
   refine one_ (i := 9) (N := none) #[true, true, true, true, true, true, true, true, true, true] rfl rfl (one_of HT_.out (by kernel_rfl)) (by decide) (fun K hK => ?_)
   have hs16 : w13.cell? ⟨gb203, 0, none⟩ = some (.slice none 0 0) := (blk_cell BK203.out 0).trans rfl
   have hfs16 := blk_frozen BK203.out 0
   have hns16_0 := NB202_203.out
   have hms16_0 := NB203_202.out
   have hs17 : w13.cell? ⟨gb203, 1, none⟩ = some (.slice none 0 0) := (blk_cell BK203.out 1).trans rfl
   have hfs17 := blk_frozen BK203.out 1
   have hns17_0 := NB202_203.out
   have hms17_0 := NB203_202.out
   refine skip_ (w1 := ?_) (by rfl) rfl ?_ ?_
   rotate_left
   ·go_simp
    rfl
   refine hK.out _ _ (chf hHeld) (fun hHeld => ?_)
   clear hK K
   refine done_ (done_of HT_.out (by kernel_rfl)) ?_
   try go_wp2
   refine bodyPost_ret (results_cell_row rfl _ _ gb203 29 #[.slice Ao15 y207.length co15, .slice Ao14 y213.length co14] (0, 0) _ rfl (zp BK203) Try.underlying29 rfl (by kernel_rfl)) rfl ?_
   exact ⟨_, _, eq_, Kd.R_mono (ff HO209 BK203) (fun _ hk => trivial), Kd.R_mono (ff HO215 BK203) (fun _ hk => trivial), bq⟩
  ·rw [if_neg c3] at H
   exact absurd H (by simp)
 ·rw [if_neg c2] at H
  exact absurd H (by simp)


/-! ### impl_validShop: function 38 -/
def impl_validShop.f (k : Nat) (l0_0 : List Int) (l0_1 : List (S41)) : Option (List Int × (List (S41)) × Bool) := (impl_IsShop.f k l0_0 l0_1).bind fun t293 => (if t293 = true then (some (l0_0, l0_1, true)) else (some (([] : List Int), ([] : List (S41)), false)))
theorem impl_validShop.mono : ∀ a0 a1 k, LeO (impl_validShop.f k a0 a1) (impl_validShop.f (k + 1) a0 a1) := by
 intro a0 a1 k
 unfold impl_validShop.f
 repeat' first
   | (with_reducible exact impl_IsShop.mono _ _ _)
   | (with_reducible exact LeO.refl _)
   | (with_reducible exact LeO.none _)
   | (with_reducible refine LeO.ite ?_ ?_)
   | (with_reducible refine LeO.bind ?_ (fun _ => ?_))
   | exact impl_IsShop.mono _ _ _
   | exact LeO.none _
   | refine LeO.ite ?_ ?_
   | refine LeO.bind ?_ (fun _ => ?_)
set_option maxHeartbeats 8000000 in
set_option maxRecDepth 100000 in
theorem impl_validShop.calls (k : Nat) (P0_0_ : Nat → Prop) (u9000_ : Value) (l0_0 : List Int) (P0_1_ : Nat → Prop) (u9001_ : Value) (l0_1 : List (S41)) (r1 : List Int) (r2 : List (S41)) (r3 : Bool) (w0 w : World) (hB : Below w0.heap.size w0 w) (ho0_0 : Kd.R (Kd.int .i64) 3 w w0.heap.size P0_0_ u9000_ l0_0) (ho0_1 : Kd.R k41 41 w w0.heap.size P0_1_ u9001_ l0_1) (h : impl_validShop.f k l0_0 l0_1 = some (r1, r2, r3)) :
  Calls Try.prog 38 #[.agg #[u9000_, u9001_]] w fun e w' => ∃ v0_ v1_ : Value, e = .returned (.tuple #[.agg #[v0_, v1_], .bool r3]) ∧ Kd.R (Kd.int .i64) 3 w' w0.heap.size (fun k_ => ((P0_0_ k_ ∨ P0_1_ k_) ∨ w.heap.size ≤ k_)) v0_ r1 ∧ Kd.R k41 41 w' w0.heap.size (fun k_ => ((P0_0_ k_ ∨ P0_1_ k_) ∨ w.heap.size ≤ k_)) v1_ r2 ∧ Below w0.heap.size w0 w' ∧ Kept w w' (fun k_ => P0_0_ k_ ∨ P0_1_ k_) := by
 have hu29 := Try.underlying29
 have HO0_0 := am (show Kd.R (Kd.int .i64) 3 w w0.heap.size (fun k_ => ((P0_0_ k_ ∨ P0_1_ k_) ∨ w.heap.size ≤ k_)) u9000_ l0_0 from Kd.R_mono ho0_0 (fun k_ hk => (.inl (.inl hk))))
 have HO0_1 := am (show Kd.R k41 41 w w0.heap.size (fun k_ => ((P0_0_ k_ ∨ P0_1_ k_) ∨ w.heap.size ≤ k_)) u9001_ l0_1 from Kd.R_mono ho0_1 (fun k_ hk => (.inl (.inr hk))))
 have HK := am (Kept.refl w (fun k_ => P0_0_ k_ ∨ P0_1_ k_))
 have HW0 := am hB.size
 have HB := am hB
 clear hB
 have H : ((impl_IsShop.f k l0_0 l0_1).bind fun t293 => (if t293 = true then (some (l0_0, l0_1, true)) else (some (([] : List Int), ([] : List (S41)), false)))) = some (r1, r2, r3) := h
 clear h
 obtain ⟨t293, A2, H⟩ := bindq H
 try dsimp only at H
 by_cases c3 : t293 = true
 ·subst c3
  rw [if_pos rfl] at H
  try dsimp only at H
  simp only [Option.some.injEq, Prod.mk.injEq] at H
  obtain ⟨rfl, rfl, rfl⟩ := H
  obtain ⟨Ao4, co4, eo4⟩ := Kd.R_slice HO0_0.out
  subst eo4
  obtain ⟨Ao5, co5, eo5⟩ := Kd.R_slice HO0_1.out
  subst eo5
  go_enter Try.func38, Try.ntmps38
  go_wp2_with (first | ((with_reducible refine gate_dst (N := 1) rfl ?_); refine box_event ?hg (N := 1) ?hd (cs := #[.slice Ao4 l0_0.length co4, .slice Ao5 l0_1.length co5]) (t := 29) ?hr ?_; (case hd => rfl); (case hg => rfl); (case hr => first | (go_simp; done) | (go_simp; rfl)); intro gb291 hg w6 hbox hb; replace HO0_0 := rb HO0_0 hb; replace HO0_1 := rb HO0_1 hb; have BK291 := am (hbox); have GW291 := am ((by rw [hg]; exact (by first | exact HK.out.1 | exact (show Kept w _ (fun k_ => P0_0_ k_ ∨ P0_1_ k_) from hkq).1) : w.heap.size ≤ gb291)); replace HK := am (Kept.below (S := (fun k_ => P0_0_ k_ ∨ P0_1_ k_)) hkq hb); have GE291 := am ((by rw [hg]; exact (below_size bq) : w0.heap.size ≤ gb291)); replace HB := sb hb; clear hb hbox hg) | ((with_reducible refine gate_dst (N := 2) rfl ?_); refine box_event ?hg (N := 2) ?hd (cs := #[.slice none 0 0, .slice none 0 0]) (t := 29) ?hr ?_; (case hd => rfl); (case hg => rfl); (case hr => first | (go_simp; done) | (go_simp; rfl)); intro gb292 hg w7 hbox hb; replace HO0_0 := rb HO0_0 hb; replace HO0_1 := rb HO0_1 hb; have BK292 := am (hbox); have GW292 := am ((by rw [hg]; exact (by first | exact HK.out.1 | exact (show Kept w _ (fun k_ => P0_0_ k_ ∨ P0_1_ k_) from by repeat (first | (with_reducible first | exact HK.out | apply Kept.alloc | apply Kept.drewN | apply Kept.drew | refine Kept.setCell ?_ (.inr GW291.out) _) | exact HK.out)).1) : w.heap.size ≤ gb292)); replace HK := am (Kept.below (S := (fun k_ => P0_0_ k_ ∨ P0_1_ k_)) (by repeat (first | (with_reducible first | exact HK.out | apply Kept.alloc | apply Kept.drewN | apply Kept.drew | refine Kept.setCell ?_ (.inr GW291.out) _) | exact HK.out)) hb); have GE292 := am ((by rw [hg]; exact (below_size bq) : w0.heap.size ≤ gb292)); replace HB := sb hb; have NB291_292 := nl hg BK291; have NB292_291 := ng hg BK291; replace BK291 := zb BK291 hb; clear hb hbox hg; have hnb8 := NB291_292.out; have hnc8 := NB292_291.out; have ⟨hcz9_0, hcz9_1, hfz9_0, hfz9_1⟩ := bc2 BK291) | ((with_reducible refine gate_callee (f := 27) rfl ?_); refine goesQ (some 5) Try.func27 #[.agg #[.slice Ao4 l0_0.length co4, .slice Ao5 l0_1.length co5]] ?_; (with_reducible refine (impl_IsShop.calls k _ _ l0_0 _ _ l0_1 true _ ?s1 ?s2 ?s3 ?s4 A2.out).mono ?_); (case s1 => exact cr HO0_0); (case s2 => exact rq1 HO0_0); (case s3 => exact cr HO0_1); (case s4 => exact rq1 HO0_1); rintro e w10 ⟨rfl, hb⟩; refine ⟨_, rfl, ?_⟩; replace HO0_0 := rb HO0_0 hb; replace HO0_1 := rb HO0_1 hb; replace BK291 := zb BK291 hb; replace BK292 := zb BK292 hb; replace HK := am (Kept.below (S := (fun k_ => P0_0_ k_ ∨ P0_1_ k_)) (by repeat (first | (with_reducible first | exact HK.out | apply Kept.alloc | apply Kept.drewN | apply Kept.drew | refine Kept.setCell ?_ (.inr GW291.out) _ | refine Kept.setCell ?_ (.inr GW292.out) _) | exact HK.out)) hb); replace HB := sb hb; (try clear hb); have ⟨hcz11_0, hcz11_1, hfz11_0, hfz11_1⟩ := bc2 BK291; have ⟨hcz12_0, hcz12_1, hfz12_0, hfz12_1⟩ := bc2 BK292))
  refine bodyPost_ret (results_ct rfl _ _ gb292 29 #[.slice Ao4 l0_0.length co4, .slice Ao5 l0_1.length co5] (0, 0) _ rfl (zp BK292) Try.underlying29 rfl (by kernel_rfl)) rfl ?_
  exact ⟨_, _, eq_, Kd.R_mono (ff HO0_0 BK292) (fun _ hk => hk.1), Kd.R_mono (ff HO0_1 BK292) (fun _ hk => hk.1), bq, by repeat (first | (with_reducible first | exact HK.out | apply Kept.alloc | apply Kept.drewN | apply Kept.drew | refine Kept.setCell ?_ (.inr GW291.out) _ | refine Kept.setCell ?_ (.inr GW292.out) _) | exact HK.out)⟩
 ·replace c3 := Bool.eq_false_iff.mpr c3
  subst c3
  rw [if_neg (show ¬ (false = true) by decide)] at H
  try dsimp only at H
  simp only [Option.some.injEq, Prod.mk.injEq] at H
  obtain ⟨rfl, rfl, rfl⟩ := H
  obtain ⟨Ao13, co13, eo13⟩ := Kd.R_slice HO0_0.out
  subst eo13
  obtain ⟨Ao14, co14, eo14⟩ := Kd.R_slice HO0_1.out
  subst eo14
  go_enter Try.func38, Try.ntmps38
  go_wp2_with (first | ((with_reducible refine gate_dst (N := 1) rfl ?_); refine box_event ?hg (N := 1) ?hd (cs := #[.slice Ao13 l0_0.length co13, .slice Ao14 l0_1.length co14]) (t := 29) ?hr ?_; (case hd => rfl); (case hg => rfl); (case hr => first | (go_simp; done) | (go_simp; rfl)); intro gb291 hg w15 hbox hb; replace HO0_0 := rb HO0_0 hb; replace HO0_1 := rb HO0_1 hb; have BK291 := am (hbox); have GW291 := am ((by rw [hg]; exact (by first | exact HK.out.1 | exact (show Kept w _ (fun k_ => P0_0_ k_ ∨ P0_1_ k_) from hkq).1) : w.heap.size ≤ gb291)); replace HK := am (Kept.below (S := (fun k_ => P0_0_ k_ ∨ P0_1_ k_)) hkq hb); have GE291 := am ((by rw [hg]; exact (below_size bq) : w0.heap.size ≤ gb291)); replace HB := sb hb; clear hb hbox hg) | ((with_reducible refine gate_dst (N := 2) rfl ?_); refine box_event ?hg (N := 2) ?hd (cs := #[.slice none 0 0, .slice none 0 0]) (t := 29) ?hr ?_; (case hd => rfl); (case hg => rfl); (case hr => first | (go_simp; done) | (go_simp; rfl)); intro gb292 hg w16 hbox hb; replace HO0_0 := rb HO0_0 hb; replace HO0_1 := rb HO0_1 hb; have BK292 := am (hbox); have GW292 := am ((by rw [hg]; exact (by first | exact HK.out.1 | exact (show Kept w _ (fun k_ => P0_0_ k_ ∨ P0_1_ k_) from by repeat (first | (with_reducible first | exact HK.out | apply Kept.alloc | apply Kept.drewN | apply Kept.drew | refine Kept.setCell ?_ (.inr GW291.out) _) | exact HK.out)).1) : w.heap.size ≤ gb292)); replace HK := am (Kept.below (S := (fun k_ => P0_0_ k_ ∨ P0_1_ k_)) (by repeat (first | (with_reducible first | exact HK.out | apply Kept.alloc | apply Kept.drewN | apply Kept.drew | refine Kept.setCell ?_ (.inr GW291.out) _) | exact HK.out)) hb); have GE292 := am ((by rw [hg]; exact (below_size bq) : w0.heap.size ≤ gb292)); replace HB := sb hb; have NB291_292 := nl hg BK291; have NB292_291 := ng hg BK291; replace BK291 := zb BK291 hb; clear hb hbox hg; have hnb17 := NB291_292.out; have hnc17 := NB292_291.out; have ⟨hcz18_0, hcz18_1, hfz18_0, hfz18_1⟩ := bc2 BK291) | ((with_reducible refine gate_callee (f := 27) rfl ?_); refine goesQ (some 5) Try.func27 #[.agg #[.slice Ao13 l0_0.length co13, .slice Ao14 l0_1.length co14]] ?_; (with_reducible refine (impl_IsShop.calls k _ _ l0_0 _ _ l0_1 false _ ?s1 ?s2 ?s3 ?s4 A2.out).mono ?_); (case s1 => exact cr HO0_0); (case s2 => exact rq1 HO0_0); (case s3 => exact cr HO0_1); (case s4 => exact rq1 HO0_1); rintro e w19 ⟨rfl, hb⟩; refine ⟨_, rfl, ?_⟩; replace BK291 := zb BK291 hb; replace BK292 := zb BK292 hb; replace HK := am (Kept.below (S := (fun k_ => P0_0_ k_ ∨ P0_1_ k_)) (by repeat (first | (with_reducible first | exact HK.out | apply Kept.alloc | apply Kept.drewN | apply Kept.drew | refine Kept.setCell ?_ (.inr GW291.out) _ | refine Kept.setCell ?_ (.inr GW292.out) _) | exact HK.out)) hb); replace HB := sb hb; (try clear hb); have ⟨hcz20_0, hcz20_1, hfz20_0, hfz20_1⟩ := bc2 BK292))
  refine bodyPost_ret (results_ct rfl _ _ gb292 29 #[.slice none 0 0, .slice none 0 0] (0, 0) _ rfl (zp BK292) Try.underlying29 rfl (by kernel_rfl)) rfl ?_
  exact ⟨_, _, eq_, by first | exact Kd.R_nil _ _ _ _ _ | exact Kd.N_nil _ _ _ _ _ | exact Kd.V_nil _ _ _ _ _ | exact Kd.Q_nil _ _ _ _ _ | exact Kd.S_nil _ _ _ _ _, by first | exact Kd.R_nil _ _ _ _ _ | exact Kd.N_nil _ _ _ _ _ | exact Kd.V_nil _ _ _ _ _ | exact Kd.Q_nil _ _ _ _ _ | exact Kd.S_nil _ _ _ _ _, bq, by repeat (first | (with_reducible first | exact HK.out | apply Kept.alloc | apply Kept.drewN | apply Kept.drew | refine Kept.setCell ?_ (.inr GW291.out) _ | refine Kept.setCell ?_ (.inr GW292.out) _) | exact HK.out)⟩


/-! ### impl_ExtendLoan: function 15 -/
def impl_ExtendLoan.j0 : Nat → Int → Int → Bool → List Int → List (S41) → Option (List Int × (List (S41)) × Bool)
 | 0, _, _, _, _, _ => none
 | k + 1, x1, x2, x37, x295000, x295001 => if x37 = true then (some (([] : List Int), ([] : List (S41)), false)) else ((impl_copyShop.f x295000 x295001).bind fun bt299 => (if 0 ≤ x1 then (if x1 < (bt299.2.length : Int) then ((impl_validShop.f k bt299.1 (bt299.2.set (x1 : Int).toNat (⟨(rd_T41 bt299.2 x1).f0, (rd_T41 bt299.2 x1).f1, (rd_T41 bt299.2 x1).f2, x2⟩ : S41))).bind fun bt307 => (some (bt307.1, bt307.2.1, bt307.2.2))) else (none)) else (none)))
def impl_ExtendLoan.f (k : Nat) (l0_0 : List Int) (l0_1 : List (S41)) (a1 : Int) (a2 : Int) : Option (List Int × (List (S41)) × Bool) := (impl_IsShop.f k l0_0 l0_1).bind fun t296 => (if t296 = true then (if a1 < 0 then (impl_ExtendLoan.j0 k a1 a2 true l0_0 l0_1) else (if a1 ≥ (l0_1.length : Int) then (impl_ExtendLoan.j0 k a1 a2 true l0_0 l0_1) else ((impl_isDay.f a2).bind fun t297 => (if t297 = true then (if 0 ≤ a1 then (if a1 < (l0_1.length : Int) then (impl_ExtendLoan.j0 k a1 a2 (decide (a2 ≤ ((rd_T41 l0_1 a1).f3))) l0_0 l0_1) else (none)) else (none)) else (impl_ExtendLoan.j0 k a1 a2 true l0_0 l0_1))))) else (impl_ExtendLoan.j0 k a1 a2 true l0_0 l0_1))
theorem impl_ExtendLoan.mono_l : ∀ k, (∀ y0 y1 y2 y3 y4, LeO (impl_ExtendLoan.j0 k y0 y1 y2 y3 y4) (impl_ExtendLoan.j0 (k + 1) y0 y1 y2 y3 y4))
 | 0 => fun _ _ _ _ _ r h => by simp [impl_ExtendLoan.j0] at h
 | k + 1 => by
  have ih0 := impl_ExtendLoan.mono_l k
  ·intro y0 y1 y2 y3 y4
   unfold impl_ExtendLoan.j0
   repeat' first
   | (with_reducible exact ih0 _ _ _ _ _)
   | (with_reducible exact impl_IsShop.mono _ _ _)
   | (with_reducible exact impl_validShop.mono _ _ _)
   | (with_reducible exact LeO.refl _)
   | (with_reducible exact LeO.none _)
   | (with_reducible refine LeO.ite ?_ ?_)
   | (with_reducible refine LeO.bind ?_ (fun _ => ?_))
   | exact ih0 _ _ _ _ _
   | exact impl_IsShop.mono _ _ _
   | exact impl_validShop.mono _ _ _
   | exact LeO.none _
   | refine LeO.ite ?_ ?_
   | refine LeO.bind ?_ (fun _ => ?_)
theorem impl_ExtendLoan.mono : ∀ a0 a1 a2 a3 k, LeO (impl_ExtendLoan.f k a0 a1 a2 a3) (impl_ExtendLoan.f (k + 1) a0 a1 a2 a3) := by
 intro a0 a1 a2 a3 k
 have ih0 := impl_ExtendLoan.mono_l k
 unfold impl_ExtendLoan.f
 repeat' first
   | (with_reducible exact ih0 _ _ _ _ _)
   | (with_reducible exact impl_IsShop.mono _ _ _)
   | (with_reducible exact impl_validShop.mono _ _ _)
   | (with_reducible exact LeO.refl _)
   | (with_reducible exact LeO.none _)
   | (with_reducible refine LeO.ite ?_ ?_)
   | (with_reducible refine LeO.bind ?_ (fun _ => ?_))
   | exact ih0 _ _ _ _ _
   | exact impl_IsShop.mono _ _ _
   | exact impl_validShop.mono _ _ _
   | exact LeO.none _
   | refine LeO.ite ?_ ?_
   | refine LeO.bind ?_ (fun _ => ?_)
set_option maxHeartbeats 8000000 in
set_option maxRecDepth 100000 in
theorem impl_ExtendLoan.calls (k : Nat) (A0_0 : Option Addr) (c0_0 : Nat) (l0_0 : List Int) (A0_1 : Option Addr) (c0_1 : Nat) (l0_1 : List (S41)) (a1 : Int) (a2 : Int) (r1 : List Int) (r2 : List (S41)) (r3 : Bool) (w : World) (hr0_0 : Kd.C (Kd.int .i64) w A0_0 l0_0.length l0_0) (hc0_0 : l0_0.length ≤ c0_0) (hr0_1 : Kd.C k41 w A0_1 l0_1.length l0_1) (hc0_1 : l0_1.length ≤ c0_1) (h : impl_ExtendLoan.f k l0_0 l0_1 a1 a2 = some (r1, r2, r3)) :
  Calls Try.prog 15 #[.agg #[.slice A0_0 l0_0.length c0_0, .slice A0_1 l0_1.length c0_1], .int .i64 a1, .int .i64 a2] w fun e w' => ∃ v0_ v1_ : Value, e = .returned (.tuple #[.agg #[v0_, v1_], .bool r3]) ∧ Kd.R (Kd.int .i64) 3 w' w.heap.size (fun _ => True) v0_ r1 ∧ Kd.R k41 41 w' w.heap.size (fun _ => True) v1_ r2 ∧ Below w.heap.size w w' := by
 have hu29 := Try.underlying29
 have HR0_0 := am hr0_0
 have HC0_0 := am hc0_0
 clear hr0_0 hc0_0
 have HR0_1 := am hr0_1
 have HC0_1 := am hc0_1
 clear hr0_1 hc0_1
 have HB := am (Below.refl w.heap.size w)
 have H : ((impl_IsShop.f k l0_0 l0_1).bind fun t296 => (if t296 = true then (if a1 < 0 then (impl_ExtendLoan.j0 k a1 a2 true l0_0 l0_1) else (if a1 ≥ (l0_1.length : Int) then (impl_ExtendLoan.j0 k a1 a2 true l0_0 l0_1) else ((impl_isDay.f a2).bind fun t297 => (if t297 = true then (if 0 ≤ a1 then (if a1 < (l0_1.length : Int) then (impl_ExtendLoan.j0 k a1 a2 (decide (a2 ≤ ((rd_T41 l0_1 a1).f3))) l0_0 l0_1) else (none)) else (none)) else (impl_ExtendLoan.j0 k a1 a2 true l0_0 l0_1))))) else (impl_ExtendLoan.j0 k a1 a2 true l0_0 l0_1))) = some (r1, r2, r3) := h
 clear h
 have HC4 := am H
 clear H
 go_enter Try.func15, Try.ntmps15
 go_upto_region 1 with (first | ((with_reducible refine gate_dst (N := 3) rfl ?_); (try (refine gate_guard (by rfl) ?_; dsimp only)); refine box_event ?hg (N := 3) ?hd (cs := #[.slice A0_0 l0_0.length c0_0, .slice A0_1 l0_1.length c0_1]) (t := 29) ?hr ?_; (case hd => rfl); (case hg => rfl); (case hr => first | (go_simp; done) | (go_simp; rfl)); intro gb294 hg w5 hbox hb; have BK294 := am (hbox); have GW294 := am (gq hg); have GE294 := am (gq hg); replace HB := sb hb; clear hb hbox hg) | ((with_reducible refine gate_dst (N := 6) rfl ?_); (try (refine gate_guard (by rfl) ?_; dsimp only)); refine box_event ?hg (N := 6) ?hd (cs := #[.slice none 0 0, .slice none 0 0]) (t := 29) ?hr ?_; (case hd => rfl); (case hg => rfl); (case hr => first | (go_simp; done) | (go_simp; rfl)); intro gb295 hg w6 hbox hb; have BK295 := am (hbox); have GW295 := am (gq hg); have GE295 := am (gq hg); replace HB := sb hb; have NB294_295 := nl hg BK294; have NB295_294 := ng hg BK294; replace BK294 := zb BK294 hb; clear hb hbox hg))
 (try simp only [Act.put, List.setIfInBounds_toArray, List.set_cons_zero, List.set_cons_succ])
 go_cut [37] (fun v37 wc => ∃ (kq : Nat) (x37_3 : Bool), v37 = .bool x37_3 ∧ Aside0 (impl_ExtendLoan.j0 kq a1 a2 x37_3 l0_0 l0_1 = some (r1, r2, r3)) ∧ Aside0 (kq ≤ k) ∧ Aside0 (wc.heap[gb294]? = some (.cells #[(.slice A0_0 l0_0.length c0_0), (.slice A0_1 l0_1.length c0_1)] 29 (0, 0))) ∧ Aside0 (wc.heap[gb295]? = some (.cells #[(.slice none 0 0), (.slice none 0 0)] 29 (0, 0))) ∧ Aside0 (Below w.heap.size w wc))
 case first =>
  have H := HC4.out
  clear HC4
  obtain ⟨t296, A7, H⟩ := bindq H
  try dsimp only at H
  by_cases c8 : t296 = true
  ·subst c8
   rw [if_pos rfl] at H
   try dsimp only at H
   by_cases c9 : a1 < 0
   ·rw [if_pos c9] at H
    have c9b0 : decide (a1 < 0) = true := decide_eq_true c9
    clear c9
    (first | rw [c9b0] | (simp only [i64_w, i32_w]; rw [c9b0]) | skip)
    have H' := am H
    clear H
    have hnb10 := NB294_295.out
    have hnc10 := NB295_294.out
    have ⟨hcz11_0, hcz11_1, hfz11_0, hfz11_1⟩ := bc2 BK294
    go_wp2_with (first | ((with_reducible refine gate_callee (f := 27) rfl ?_); refine goesQ (some 10) Try.func27 #[.agg #[.slice A0_0 l0_0.length c0_0, .slice A0_1 l0_1.length c0_1]] ?_; (with_reducible refine (impl_IsShop.calls k _ _ l0_0 _ _ l0_1 true _ ?s1 ?s2 ?s3 ?s4 A7.out).mono ?_); (case s1 => exact cq (Kd.C_below HR0_0.out HB.out)); (case s2 => exact HC0_0.out); (case s3 => exact cq (Kd.C_below HR0_1.out HB.out)); (case s4 => exact HC0_1.out); rintro e w12 ⟨rfl, hb⟩; refine ⟨_, rfl, ?_⟩; replace BK294 := zb BK294 hb; replace BK295 := zb BK295 hb; replace HB := sb hb; (try clear hb)))
    go_meet
    case rel => exact ⟨_, (true), sq, H', ⟨by first | omega | exact Nat.le_refl _⟩, ⟨zq BK294⟩, ⟨zq BK295⟩, ⟨bq⟩⟩
   ·rw [if_neg c9] at H
    have c9b0 : decide (a1 < 0) = false := decide_eq_false c9
    clear c9
    (first | rw [c9b0] | (simp only [i64_w, i32_w]; rw [c9b0]) | skip)
    by_cases c13 : a1 ≥ (l0_1.length : Int)
    ·rw [if_pos c13] at H
     have c13b0 : decide ((l0_1.length : Int) ≤ a1) = true := decide_eq_true c13
     clear c13
     have H' := am H
     clear H
     have hnb14 := NB294_295.out
     have hnc14 := NB295_294.out
     have ⟨hcz15_0, hcz15_1, hfz15_0, hfz15_1⟩ := bc2 BK294
     go_wp2_with (first | ((with_reducible refine gate_callee (f := 27) rfl ?_); refine goesQ (some 10) Try.func27 #[.agg #[.slice A0_0 l0_0.length c0_0, .slice A0_1 l0_1.length c0_1]] ?_; (with_reducible refine (impl_IsShop.calls k _ _ l0_0 _ _ l0_1 true _ ?s1 ?s2 ?s3 ?s4 A7.out).mono ?_); (case s1 => exact cq (Kd.C_below HR0_0.out HB.out)); (case s2 => exact HC0_0.out); (case s3 => exact cq (Kd.C_below HR0_1.out HB.out)); (case s4 => exact HC0_1.out); rintro e w16 ⟨rfl, hb⟩; refine ⟨_, rfl, ?_⟩; replace BK294 := zb BK294 hb; replace BK295 := zb BK295 hb; replace HB := sb hb; (try clear hb); have ⟨hcz17_0, hcz17_1, hfz17_0, hfz17_1⟩ := bc2 BK294))
     go_meet
     case rel => exact ⟨_, (true), sq, H', ⟨by first | omega | exact Nat.le_refl _⟩, ⟨zq BK294⟩, ⟨zq BK295⟩, ⟨bq⟩⟩
    ·rw [if_neg c13] at H
     have c13b0 : decide ((l0_1.length : Int) ≤ a1) = false := decide_eq_false c13
     clear c13
     obtain ⟨t297, A18, H⟩ := bindq H
     try dsimp only at H
     by_cases c19 : t297 = true
     ·subst c19
      rw [if_pos rfl] at H
      try dsimp only at H
      by_cases c20 : 0 ≤ a1
      ·rw [if_pos c20] at H
       have c20b0 : decide (0 ≤ a1) = true := decide_eq_true c20
       clear c20
       by_cases c21 : a1 < (l0_1.length : Int)
       ·rw [if_pos c21] at H
        have c21b0 : decide (a1 < (l0_1.length : Int)) = true := decide_eq_true c21
        clear c21
        have H' := am H
        clear H
        have hnb22 := NB294_295.out
        have hnc22 := NB295_294.out
        have ⟨hcz23_0, hcz23_1, hfz23_0, hfz23_1⟩ := bc2 BK294
        go_wp2_with (first | ((with_reducible refine gate_callee (f := 27) rfl ?_); refine goesQ (some 10) Try.func27 #[.agg #[.slice A0_0 l0_0.length c0_0, .slice A0_1 l0_1.length c0_1]] ?_; (with_reducible refine (impl_IsShop.calls k _ _ l0_0 _ _ l0_1 true _ ?s1 ?s2 ?s3 ?s4 A7.out).mono ?_); (case s1 => exact cq (Kd.C_below HR0_0.out HB.out)); (case s2 => exact HC0_0.out); (case s3 => exact cq (Kd.C_below HR0_1.out HB.out)); (case s4 => exact HC0_1.out); rintro e w24 ⟨rfl, hb⟩; refine ⟨_, rfl, ?_⟩; replace BK294 := zb BK294 hb; replace BK295 := zb BK295 hb; replace HB := sb hb; (try clear hb); have ⟨hcz25_0, hcz25_1, hfz25_0, hfz25_1⟩ := bc2 BK294) | (go_at_call 37; (with_reducible refine (impl_isDay.calls a2 true _ A18.out).mono ?_); rintro e w' ⟨rfl, ⟨nd, rfl⟩⟩; have p298 : 0 ≤ (a1 : Int) := of_decide_eq_true aq; have q298 : a1 < (l0_1.length : Int) := of_decide_eq_true aq; obtain ⟨ad298, e298, hx298_0, hx298_1, hx298_2, hx298_3⟩ := at_T41 HR0_1.out a1 p298 q298; cases e298; replace hx298_0 := (HB.out.cell (World.block_lt_of_cell? w _ hx298_0)).trans hx298_0; replace hx298_1 := (HB.out.cell (World.block_lt_of_cell? w _ hx298_1)).trans hx298_1; replace hx298_2 := (HB.out.cell (World.block_lt_of_cell? w _ hx298_2)).trans hx298_2; replace hx298_3 := (HB.out.cell (World.block_lt_of_cell? w _ hx298_3)).trans hx298_3; replace p298 := eq_true p298; replace q298 := eq_true q298))
        go_meet
        case rel => exact ⟨_, (decide (a2 ≤ ((rd_T41 l0_1 a1).f3))), sq, H', ⟨by first | omega | exact Nat.le_refl _⟩, ⟨zq BK294⟩, ⟨zq BK295⟩, ⟨bq⟩⟩
       ·rw [if_neg c21] at H
        exact absurd H (by simp)
      ·rw [if_neg c20] at H
       exact absurd H (by simp)
     ·replace c19 := Bool.eq_false_iff.mpr c19
      subst c19
      rw [if_neg (show ¬ (false = true) by decide)] at H
      try dsimp only at H
      have H' := am H
      clear H
      have hnb26 := NB294_295.out
      have hnc26 := NB295_294.out
      have ⟨hcz27_0, hcz27_1, hfz27_0, hfz27_1⟩ := bc2 BK294
      go_wp2_with (first | ((with_reducible refine gate_callee (f := 27) rfl ?_); refine goesQ (some 10) Try.func27 #[.agg #[.slice A0_0 l0_0.length c0_0, .slice A0_1 l0_1.length c0_1]] ?_; (with_reducible refine (impl_IsShop.calls k _ _ l0_0 _ _ l0_1 true _ ?s1 ?s2 ?s3 ?s4 A7.out).mono ?_); (case s1 => exact cq (Kd.C_below HR0_0.out HB.out)); (case s2 => exact HC0_0.out); (case s3 => exact cq (Kd.C_below HR0_1.out HB.out)); (case s4 => exact HC0_1.out); rintro e w28 ⟨rfl, hb⟩; refine ⟨_, rfl, ?_⟩; replace BK294 := zb BK294 hb; replace BK295 := zb BK295 hb; replace HB := sb hb; (try clear hb); have ⟨hcz29_0, hcz29_1, hfz29_0, hfz29_1⟩ := bc2 BK294) | (go_at_call 37; (with_reducible refine (impl_isDay.calls a2 false _ A18.out).mono ?_); rintro e w' ⟨rfl, ⟨nd, rfl⟩⟩))
      go_meet
      case rel => exact ⟨_, (true), sq, H', ⟨by first | omega | exact Nat.le_refl _⟩, ⟨zq BK294⟩, ⟨zq BK295⟩, ⟨bq⟩⟩
  ·replace c8 := Bool.eq_false_iff.mpr c8
   subst c8
   rw [if_neg (show ¬ (false = true) by decide)] at H
   try dsimp only at H
   have H' := am H
   clear H
   have hnb30 := NB294_295.out
   have hnc30 := NB295_294.out
   have ⟨hcz31_0, hcz31_1, hfz31_0, hfz31_1⟩ := bc2 BK294
   go_wp2_with (first | ((with_reducible refine gate_callee (f := 27) rfl ?_); refine goesQ (some 10) Try.func27 #[.agg #[.slice A0_0 l0_0.length c0_0, .slice A0_1 l0_1.length c0_1]] ?_; (with_reducible refine (impl_IsShop.calls k _ _ l0_0 _ _ l0_1 false _ ?s1 ?s2 ?s3 ?s4 A7.out).mono ?_); (case s1 => exact cq (Kd.C_below HR0_0.out HB.out)); (case s2 => exact HC0_0.out); (case s3 => exact cq (Kd.C_below HR0_1.out HB.out)); (case s4 => exact HC0_1.out); rintro e w32 ⟨rfl, hb⟩; refine ⟨_, rfl, ?_⟩; replace BK294 := zb BK294 hb; replace BK295 := zb BK295 hb; replace HB := sb hb; (try clear hb)))
   go_meet
   case rel => exact ⟨_, (true), sq, H', ⟨by first | omega | exact Nat.le_refl _⟩, ⟨zq BK294⟩, ⟨zq BK295⟩, ⟨bq⟩⟩
 case rest =>
  clear HC4
  try clear c8
  try clear c9b0
  try clear c13b0
  try clear c19
  try clear c20b0
  try clear c21b0
  try clear hcz11_0 hcz11_1 hfz11_0 hfz11_1
  try clear hcz15_0 hcz15_1 hfz15_0 hfz15_1
  try clear hcz17_0 hcz17_1 hfz17_0 hfz17_1
  try clear hcz23_0 hcz23_1 hfz23_0 hfz23_1
  try clear hcz25_0 hcz25_1 hfz25_0 hfz25_1
  try clear hcz27_0 hcz27_1 hfz27_0 hfz27_1
  try clear hcz29_0 hcz29_1 hfz29_0 hfz29_1
  try clear hcz31_0 hcz31_1 hfz31_0 hfz31_1
  try clear hx298_0
  try clear hx298_1
  try clear hx298_2
  try clear hx298_3
  try clear p298
  try clear q298
  obtain ⟨kq, x37_3, rfl, HA, HJ3, BK294, BK295, HB⟩ := hcut
  cases kq with
  | zero => exact absurd HA.out (by simp [impl_ExtendLoan.j0])
  | succ kj3 =>
   have H := HA.out
   clear HA
   simp only [impl_ExtendLoan.j0] at H
   by_cases c33 : x37_3 = true
   ·subst c33
    rw [if_pos rfl] at H
    try dsimp only at H
    simp only [Option.some.injEq, Prod.mk.injEq] at H
    obtain ⟨rfl, rfl, rfl⟩ := H
    have hnb34 := NB295_294.out
    have hnc34 := NB294_295.out
    have ⟨hcz35_0, hcz35_1, hfz35_0, hfz35_1⟩ := bc2 BK295
    go_wp2
    refine bodyPost_ret (results_ct rfl _ _ gb295 29 #[.slice none 0 0, .slice none 0 0] (0, 0) _ rfl (zp BK295) Try.underlying29 rfl (by kernel_rfl)) rfl ?_
    exact ⟨_, _, eq_, by first | exact Kd.R_nil _ _ _ _ _ | exact Kd.N_nil _ _ _ _ _ | exact Kd.V_nil _ _ _ _ _ | exact Kd.Q_nil _ _ _ _ _ | exact Kd.S_nil _ _ _ _ _, by first | exact Kd.R_nil _ _ _ _ _ | exact Kd.N_nil _ _ _ _ _ | exact Kd.V_nil _ _ _ _ _ | exact Kd.Q_nil _ _ _ _ _ | exact Kd.S_nil _ _ _ _ _, bq⟩
   ·replace c33 := Bool.eq_false_iff.mpr c33
    subst c33
    rw [if_neg (show ¬ (false = true) by decide)] at H
    try dsimp only at H
    obtain ⟨⟨t299, t302⟩, A36, H⟩ := bindq H
    try dsimp only at H
    by_cases c37 : 0 ≤ a1
    ·rw [if_pos c37] at H
     have c37b0 : decide (0 ≤ a1) = true := decide_eq_true c37
     clear c37
     by_cases c38 : a1 < (t302.length : Int)
     ·rw [if_pos c38] at H
      have c38b0 : decide (a1 < (t302.length : Int)) = true := decide_eq_true c38
      clear c38
      obtain ⟨y306, hy306⟩ : ∃ y_ : List (S41), y_ = (t302.set (a1 : Int).toNat (⟨(rd_T41 t302 a1).f0, (rd_T41 t302 a1).f1, (rd_T41 t302 a1).f2, a2⟩ : S41)) := ⟨_, rfl⟩
      replace H : ((impl_validShop.f kj3 t299 y306).bind fun bt307 => (some (bt307.1, bt307.2.1, bt307.2.2))) = some (r1, r2, r3) := by first | (rw [hy306]; with_reducible exact H) | (have H2_ := (Option.bind_some _ _).symm.trans H; rw [hy306]; with_reducible exact H2_) | (have H2_ := (Option.bind_some _ _).symm.trans H; with_reducible exact H2_) | with_reducible exact H | (rw [hy306]; exact H) | exact H
      have Ny306 := am hy306
      clear hy306
      obtain ⟨⟨t307, t310, t313⟩, A40, H⟩ := bindq H
      try dsimp only at H
      simp only [Option.some.injEq, Prod.mk.injEq] at H
      obtain ⟨rfl, rfl, rfl⟩ := H
      have hnb41 := NB294_295.out
      have hnc41 := NB295_294.out
      have ⟨hcz42_0, hcz42_1, hfz42_0, hfz42_1⟩ := bc2 BK294
      go_wp2_with (first | ((with_reducible refine gate_callee (f := 28) rfl ?_); refine goesQ (some 40) Try.func28 #[.agg #[.slice A0_0 l0_0.length c0_0, .slice A0_1 l0_1.length c0_1]] ?_; (with_reducible refine (impl_copyShop.calls _ _ l0_0 _ _ l0_1 t299 t302 _ ?s1 ?s2 ?s3 ?s4 A36.out).mono ?_); (case s1 => exact cq (Kd.C_below HR0_0.out HB.out)); (case s2 => exact HC0_0.out); (case s3 => exact cq (Kd.C_below HR0_1.out HB.out)); (case s4 => exact HC0_1.out); rintro e w43 ⟨v300, v303, rfl, ho0, ho1, hb⟩; refine ⟨_, rfl, ?_⟩; have HO301 := rl ho0; have HO304 := rl ho1; replace BK294 := zb BK294 hb; replace BK295 := zb BK295 hb; replace HB := sb hb; (try clear hb ho0 ho1)) | ((with_reducible refine gate_dst (N := 8) rfl ?_); (try (refine gate_guard (by rfl) ?_; dsimp only)); refine box_event ?hg (N := 8) ?hd (cs := #[.slice none 0 0, .slice none 0 0]) (t := 29) ?hr ?_; (case hd => rfl); (case hg => rfl); (case hr => first | (go_simp; done) | (go_simp; rfl)); intro gb305 hg w44 hbox hb; replace HO301 := rb HO301 hb; replace HO304 := rb HO304 hb; have BK305 := am (hbox); have GW305 := am (gq hg); have GE305 := am (gq hg); replace HB := sb hb; have NB294_305 := nl hg BK294; have NB305_294 := ng hg BK294; replace BK294 := zb BK294 hb; have NB295_305 := nl hg BK295; have NB305_295 := ng hg BK295; replace BK295 := zb BK295 hb; clear hb hbox hg; obtain ⟨Ao45, co45, eo45⟩ := Kd.R_slice HO301.out; subst eo45; have hnb46 := NB305_294.out; have hnc46 := NB294_305.out; have hnb47 := NB305_295.out; have hnc47 := NB295_305.out; have ⟨hcz48_0, hcz48_1, hfz48_0, hfz48_1⟩ := bc2 BK305; obtain ⟨Ao49, co49, eo49⟩ := Kd.R_slice HO304.out; subst eo49) | ((with_reducible refine gate_store (t := 29) (p := 8) rfl ?_); refine store_event (t := 29) (p := 8) (v := ?vo_w50) (w1 := ((w44.setCell ⟨gb305, 0, none⟩ (.slice Ao45 t299.length co45)).setCell ⟨gb305, 1, none⟩ (.slice Ao49 t302.length co49))) ?hg ?ho ?hn ?hr ?_; (case ho => rfl); (case hg => rfl); (case hn => rfl); (case hr => first | (go_simp; done) | (go_simp; rfl)); intro w50 hw; have n0_ : Aside0 (Kd.R (Kd.int .i64) 3 w50 w.heap.size (fun _ => True) (.slice Ao45 t299.length co45) t299) := ⟨(by rw [hw]; exact (Kd.R_mono (ff HO301 BK305) (fun _ hk => trivial)))⟩; have n1_ : Aside0 (Kd.R k41 41 w50 w.heap.size (fun _ => True) (.slice Ao49 t302.length co49) t302) := ⟨(by rw [hw]; exact (Kd.R_mono (ff HO304 BK305) (fun _ hk => trivial)))⟩; have n2_ : Aside0 (w50.heap[gb294]? = some (.cells #[.slice A0_0 l0_0.length c0_0, .slice A0_1 l0_1.length c0_1] 29 (0, 0))) := ⟨(by rw [hw]; exact (zp BK294))⟩; have n3_ : Aside0 (w50.heap[gb295]? = some (.cells #[.slice none 0 0, .slice none 0 0] 29 (0, 0))) := ⟨(by rw [hw]; exact (zp BK295))⟩; have n4_ : Aside0 (w50.heap[gb305]? = some (.cells #[.slice Ao45 t299.length co45, .slice Ao49 t302.length co49] 29 (0, 0))) := ⟨(by rw [hw]; exact (zp BK305))⟩; have n5_ : Aside0 (Below w.heap.size w w50) := ⟨(by rw [hw]; exact bq)⟩; clear hw; clear HO301; clear HO304; clear BK294; clear BK295; clear BK305; clear HB; have HO301 := n0_; have HO304 := n1_; have BK294 := n2_; have BK295 := n3_; have BK305 := n4_; have HB := n5_; clear n0_ n1_ n2_ n3_ n4_ n5_; have ⟨hcz51_0, hcz51_1, hfz51_0, hfz51_1⟩ := bc2 BK305; have p39 : 0 ≤ (a1 : Int) := of_decide_eq_true aq; have q39 : (a1 : Int) < ((t302.length : Int) : Int) := of_decide_eq_true aq; obtain ⟨go39, co39, eo39, gb39, gl39, cl39, HG39⟩ := Kd.R_form HO304.out (by omega); (first | cases eo39 | (injection eo39 with ea_ en_ ec_; (first | subst ea_ | (injection ea_ with ea_; subst ea_)); subst ec_; clear en_)); have GB39 := am gb39; have GG39 := am HG39; clear gb39 gl39 HG39; obtain ⟨ce39, hcl39, hM39, hcc39, hfr39⟩ := Kd.R_elem HO304.out z41 (a1 : Int) p39 q39; obtain rfl := k41_openM hM39; have hx39_0 : w50.cell? ⟨go39, (a1 : Int).toNat * 4, none⟩ = some (.int .i64 ((rd_T41 t302 a1).f0)) := hcc39 0 _ rfl; have hx39_1 : w50.cell? ⟨go39, (a1 : Int).toNat * 4 + 1, none⟩ = some (.int .i64 ((rd_T41 t302 a1).f1)) := hcc39 1 _ rfl; have hx39_2 : w50.cell? ⟨go39, (a1 : Int).toNat * 4 + 2, none⟩ = some (.int .i64 ((rd_T41 t302 a1).f2)) := hcc39 2 _ rfl; have hx39_3 : w50.cell? ⟨go39, (a1 : Int).toNat * 4 + 3, none⟩ = some (.int .i64 ((rd_T41 t302 a1).f3)) := hcc39 3 _ rfl; have hf39_0 : w50.frozen? ⟨go39, (a1 : Int).toNat * 4, none⟩ = false := hfr39 0; have hf39_1 : w50.frozen? ⟨go39, (a1 : Int).toNat * 4 + 1, none⟩ = false := hfr39 1; have hf39_2 : w50.frozen? ⟨go39, (a1 : Int).toNat * 4 + 2, none⟩ = false := hfr39 2; have hf39_3 : w50.frozen? ⟨go39, (a1 : Int).toNat * 4 + 3, none⟩ = false := hfr39 3; clear hcl39 hcc39 hfr39 hM39; replace p39 := eq_true p39; replace q39 := eq_true q39; have HX52 := am (show Kd.R k41 41 w50 w.heap.size (fun _ => True) (.slice (some ⟨go39, 0, none⟩) t302.length co49) t302 from (rq HO304)); obtain ⟨ce52, hcl52, hM52, hcc52, hfr52⟩ := Kd.R_elem HX52.out z41 (a1 : Int) (of_decide_eq_true aq) (by have h_ : (a1 : Int) < ((t302.length : Int) : Int) := of_decide_eq_true aq; first | exact h_ | (have e_ := (Kd.R_reads' HO304.out).1; omega) | simpa using h_); obtain rfl := k41_openM hM52; have HP52 := Kd.R_seg HX52.out (a1 : Int) (of_decide_eq_true aq) (by have h_ : (a1 : Int) < ((t302.length : Int) : Int) := of_decide_eq_true aq; first | exact h_ | (have e_ := (Kd.R_reads' HO304.out).1; omega) | simpa using h_) (seg := [.int .i64 a2]) (j := 3) hcl52 hcc52 (show 4 ≤ 4 from by decide) (x' := (⟨(rd_T41 t302 a1).f0, (rd_T41 t302 a1).f1, (rd_T41 t302 a1).f2, a2⟩ : S41)) (k41_mkM _ _ _ (⟨(rd_T41 t302 a1).f0, (rd_T41 t302 a1).f1, (rd_T41 t302 a1).f2, a2⟩ : S41) ) (fun _ hk => hk); have hx52_3 := hcc52 3 _ rfl; (try simp only [show (k41).sz = 4 from rfl, Nat.mul_one, Nat.add_zero] at hx52_3); have hf52_3 := hfr52 3; (try simp only [show (k41).sz = 4 from rfl, Nat.mul_one, Nat.add_zero] at hf52_3); clear hcl52 hcc52 hfr52 hM52) | ((with_reducible refine gate_store (t := 3) (p := 46) rfl ?_); refine store_event (t := 3) (p := 46) (v := ?vo_w53) (w1 := (w50.setCell ⟨go39, (a1 : Int).toNat * 4 + 3, none⟩ (.int .i64 a2))) ?hg ?ho ?hn ?hr ?_; (case ho => rfl); (case hg => rfl); (case hn => rfl); (case hr => first | (go_simp; done) | (go_simp; rfl)); intro w53 hw; have hg : w50.grownBy w53 (some go39) := (by rw [hw]; exact HP52.2); have hp_ : Kd.R k41 41 w53 w.heap.size (fun _ => True) (.slice (some ⟨go39, 0, none⟩) t302.length co49) y306 := (by rw [hw, Ny306.out]; exact HP52.1); clear HP52; replace BK294 := am (blk_grown (g := gb294) (o := .cells #[.slice A0_0 l0_0.length c0_0, .slice A0_1 l0_1.length c0_1] 29 (0, 0)) (zq BK294) hg (Kd.R_ne HO304.out BK294.out (by decide))); replace BK295 := am (blk_grown (g := gb295) (o := .cells #[.slice none 0 0, .slice none 0 0] 29 (0, 0)) (zq BK295) hg (Kd.R_ne HO304.out BK295.out (by decide))); replace HO301 := am (Kd.R_over' (v := (.slice (some ⟨go39, 0, none⟩) t302.length co49)) (rq HO301) (Kd.R_typed HO304.out) (by decide) hg); replace BK305 := am (blk_grown (g := gb305) (o := .cells #[.slice Ao45 t299.length co45, .slice (some ⟨go39, 0, none⟩) t302.length co49] 29 (0, 0)) (zq BK305) hg (Kd.R_ne HO304.out BK305.out (by decide))); replace HO304 := am (hp_); replace HB := am ((by rw [hw]; exact below_set (HB.out) GB39.out : Below w.heap.size w w53)); clear hg hw hp_; have ⟨hcz54_0, hcz54_1, hfz54_0, hfz54_1⟩ := bc2 BK305) | ((with_reducible refine gate_callee (f := 38) rfl ?_); refine goesQ (some 48) Try.func38 #[.agg #[.slice Ao45 t299.length co45, .slice (some ⟨go39, 0, none⟩) t302.length co49]] ?_; (with_reducible refine (impl_validShop.calls kj3 (fun k_ => some k_ = (.slice Ao45 t299.length co45 : Value).ownBlock) (.slice Ao45 t299.length co45) t299 (fun k_ => some k_ = (.slice (some ⟨go39, 0, none⟩) t302.length co49 : Value).ownBlock) (.slice (some ⟨go39, 0, none⟩) t302.length co49) y306 t307 t310 t313 w _ ?s1 ?s2 ?s3 A40.out).mono ?_); (case s1 => repeat (first | (with_reducible first | exact HB.out | apply below_alloc | apply pw_below_drewN | apply below_drew1 | refine below_set ?_ GE294.out | refine below_set ?_ GE295.out | refine below_set ?_ GE305.out) | exact HB.out)); (case s2 => exact Kd.R_tight rfl HO301.out); (case s3 => exact Kd.R_tight rfl HO304.out); rintro e w55 ⟨v308, v311, rfl, ho0, ho1, hb, hkp⟩; refine ⟨_, rfl, ?_⟩; have n0_ := am (blk_kept (zq BK294) hkp (fun hs_ => Or.elim hs_ (fun e_ => (fun e_ => (Kd.R_ne HO301.out BK294.out (by decide)) e_) e_) (fun e_ => (fun e_ => (Kd.R_ne HO304.out BK294.out (by decide)) e_) e_))); have n1_ := am (blk_kept (zq BK295) hkp (fun hs_ => Or.elim hs_ (fun e_ => (fun e_ => (Kd.R_ne HO301.out BK295.out (by decide)) e_) e_) (fun e_ => (fun e_ => (Kd.R_ne HO304.out BK295.out (by decide)) e_) e_))); have n2_ := am (blk_kept (zq BK305) hkp (fun hs_ => Or.elim hs_ (fun e_ => (fun e_ => (Kd.R_ne HO301.out BK305.out (by decide)) e_) e_) (fun e_ => (fun e_ => (Kd.R_ne HO304.out BK305.out (by decide)) e_) e_))); have n3_ := am (Kd.R_mono (ok' := fun k_ => True) ho0 (fun k_ hk_ => trivial)); have n4_ := am (Kd.R_mono (ok' := fun k_ => True) ho1 (fun k_ hk_ => trivial)); have n5_ := am (hb); clear BK294; clear BK295; clear BK305; clear HB; clear HO301; clear HO304; have BK294 := n0_; have BK295 := n1_; have BK305 := n2_; have HO309 := n3_; have HO312 := n4_; have HB := n5_; clear n0_ n1_ n2_ n3_ n4_ n5_; (try clear hb hkp ho0 ho1); obtain ⟨Ao56, co56, eo56⟩ := Kd.R_slice HO309.out; subst eo56; have ⟨hcz57_0, hcz57_1, hfz57_0, hfz57_1⟩ := bc2 BK295; obtain ⟨Ao58, co58, eo58⟩ := Kd.R_slice HO312.out; subst eo58))
      refine bodyPost_ret (results_ct rfl _ _ gb295 29 #[.slice Ao56 t307.length co56, .slice Ao58 t310.length co58] (0, 0) _ rfl (zp BK295) Try.underlying29 rfl (by kernel_rfl)) rfl ?_
      exact ⟨_, _, eq_, Kd.R_mono (ff HO309 BK295) (fun _ hk => trivial), Kd.R_mono (ff HO312 BK295) (fun _ hk => trivial), bq⟩
     ·rw [if_neg c38] at H
      exact absurd H (by simp)
    ·rw [if_neg c37] at H
     exact absurd H (by simp)



/-! ### laws_FnExactExtendLoan: function 4 -/
mutual
def laws_FnExactExtendLoan.j0 : Nat → Int → Int → Bool → Bool → Bool → List Int → List (S39) → List Int → List (S41) → List Int → List (S41) → List Int → List (S41) → Option (Bool)
 | 0, _, _, _, _, _, _, _, _, _, _, _, _, _ => none
 | k + 1, x1, x2, x9, x12, x48, x315000, x315001, x330000, x330001, x337000, x337001, x345000, x345001 => if x48 = true then (some false) else ((laws_toShop.f k x315000 x315001).bind fun bt346 => ((laws_eqShop.f k x337000 x337001 bt346.1 bt346.2).bind fun t352 => (if t352 = true then ((laws_markShop.f k x337000 x337001 1).bind fun bt353 => (if bt353.1 < 0 then (laws_FnExactExtendLoan.j1 k x1 x2 x9 true x315000 x315001 x330000 x330001 x345000 x345001) else ((laws_eqShop.f k x345000 x345001 x330000 x330001).bind fun t356 => (if t356 = true then (laws_FnExactExtendLoan.j1 k x1 x2 x9 (x12 != x9) x315000 x315001 x330000 x330001 x345000 x345001) else (laws_FnExactExtendLoan.j1 k x1 x2 x9 true x315000 x315001 x330000 x330001 x345000 x345001))))) else (some false))))
def laws_FnExactExtendLoan.j1 : Nat → Int → Int → Bool → Bool → List Int → List (S39) → List Int → List (S41) → List Int → List (S41) → Option (Bool)
 | 0, _, _, _, _, _, _, _, _, _, _ => none
 | k + 1, x1, x2, x9, x69, x315000, x315001, x330000, x330001, x345000, x345001 => if x69 = true then (some false) else ((laws_markShop.f k x345000 x345001 1).bind fun bt357 => ((laws_heldShop.f k bt357.2.1 bt357.2.2 1).bind fun t360 => (if t360 < 0 then (some false) else (if t360 = bt357.1 then ((laws_toShop.f k x315000 x315001).bind fun bt361 => ((impl_ExtendLoan.f k bt361.1 bt361.2 x1 x2).bind fun bt367 => ((laws_eqShop.f k bt367.1 bt367.2.1 x330000 x330001).bind fun t375 => (if t375 = true then (laws_FnExactExtendLoan.j2 k bt357.1 (bt367.2.2 != x9) bt357.2.1 bt357.2.2) else (laws_FnExactExtendLoan.j2 k bt357.1 true bt357.2.1 bt357.2.2))))) else (some false)))))
def laws_FnExactExtendLoan.j2 : Nat → Int → Bool → List Int → List (S41) → Option (Bool)
 | 0, _, _, _, _ => none
 | k + 1, x14, x97, x345000, x345001 => if x97 = true then (some false) else ((laws_heldShop.f k x345000 x345001 1).bind fun t376 => (if t376 < 0 then (some false) else (if t376 = x14 then (some true) else (some false))))
end
def laws_FnExactExtendLoan.f (k : Nat) (l0_0 : List Int) (l0_1 : List (S39)) (a1 : Int) (a2 : Int) : Option (Bool) := (laws_szShop.f l0_0 l0_1 1048576).bind fun t315 => (if t315 < 0 then (some true) else ((laws_toShop.f k l0_0 l0_1).bind fun bt316 => ((spec_ExtendLoan.f k bt316.1 bt316.2 a1 a2).bind fun bt322 => ((laws_toShop.f k l0_0 l0_1).bind fun bt330 => ((impl_ExtendLoan.f k bt330.1 bt330.2 a1 a2).bind fun bt337 => ((laws_eqShop.f k bt337.1 bt337.2.1 bt322.1 bt322.2.1).bind fun t345 => (if t345 = true then (laws_FnExactExtendLoan.j0 k a1 a2 bt322.2.2 bt337.2.2 (bt337.2.2 != bt322.2.2) l0_0 l0_1 bt322.1 bt322.2.1 bt330.1 bt330.2 bt337.1 bt337.2.1) else (laws_FnExactExtendLoan.j0 k a1 a2 bt322.2.2 bt337.2.2 true l0_0 l0_1 bt322.1 bt322.2.1 bt330.1 bt330.2 bt337.1 bt337.2.1))))))))
theorem laws_FnExactExtendLoan.mono_l : ∀ k, (∀ y0 y1 y2 y3 y4 y5 y6 y7 y8 y9 y10 y11 y12, LeO (laws_FnExactExtendLoan.j0 k y0 y1 y2 y3 y4 y5 y6 y7 y8 y9 y10 y11 y12) (laws_FnExactExtendLoan.j0 (k + 1) y0 y1 y2 y3 y4 y5 y6 y7 y8 y9 y10 y11 y12)) ∧ (∀ y0 y1 y2 y3 y4 y5 y6 y7 y8 y9, LeO (laws_FnExactExtendLoan.j1 k y0 y1 y2 y3 y4 y5 y6 y7 y8 y9) (laws_FnExactExtendLoan.j1 (k + 1) y0 y1 y2 y3 y4 y5 y6 y7 y8 y9)) ∧ (∀ y0 y1 y2 y3, LeO (laws_FnExactExtendLoan.j2 k y0 y1 y2 y3) (laws_FnExactExtendLoan.j2 (k + 1) y0 y1 y2 y3))
 | 0 => ⟨fun _ _ _ _ _ _ _ _ _ _ _ _ _ r h => by simp [laws_FnExactExtendLoan.j0] at h, fun _ _ _ _ _ _ _ _ _ _ r h => by simp [laws_FnExactExtendLoan.j1] at h, fun _ _ _ _ r h => by simp [laws_FnExactExtendLoan.j2] at h⟩
 | k + 1 => by
  obtain ⟨ih0, ih1, ih2⟩ := laws_FnExactExtendLoan.mono_l k
  refine ⟨?_, ?_, ?_⟩
  ·intro y0 y1 y2 y3 y4 y5 y6 y7 y8 y9 y10 y11 y12
   unfold laws_FnExactExtendLoan.j0
   repeat' first
   | (with_reducible exact ih0 _ _ _ _ _ _ _ _ _ _ _ _ _)
   | (with_reducible exact ih1 _ _ _ _ _ _ _ _ _ _)
   | (with_reducible exact ih2 _ _ _ _)
   | (with_reducible exact impl_ExtendLoan.mono _ _ _ _ _)
   | (with_reducible exact laws_eqShop.mono _ _ _ _ _)
   | (with_reducible exact laws_heldShop.mono _ _ _ _)
   | (with_reducible exact laws_markShop.mono _ _ _ _)
   | (with_reducible exact laws_toShop.mono _ _ _)
   | (with_reducible exact spec_ExtendLoan.mono _ _ _ _ _)
   | (with_reducible exact LeO.refl _)
   | (with_reducible exact LeO.none _)
   | (with_reducible refine LeO.ite ?_ ?_)
   | (with_reducible refine LeO.bind ?_ (fun _ => ?_))
   | exact ih0 _ _ _ _ _ _ _ _ _ _ _ _ _
   | exact ih1 _ _ _ _ _ _ _ _ _ _
   | exact ih2 _ _ _ _
   | exact impl_ExtendLoan.mono _ _ _ _ _
   | exact laws_eqShop.mono _ _ _ _ _
   | exact laws_heldShop.mono _ _ _ _
   | exact laws_markShop.mono _ _ _ _
   | exact laws_toShop.mono _ _ _
   | exact spec_ExtendLoan.mono _ _ _ _ _
   | exact LeO.none _
   | refine LeO.ite ?_ ?_
   | refine LeO.bind ?_ (fun _ => ?_)
  ·intro y0 y1 y2 y3 y4 y5 y6 y7 y8 y9
   unfold laws_FnExactExtendLoan.j1
   repeat' first
   | (with_reducible exact ih0 _ _ _ _ _ _ _ _ _ _ _ _ _)
   | (with_reducible exact ih1 _ _ _ _ _ _ _ _ _ _)
   | (with_reducible exact ih2 _ _ _ _)
   | (with_reducible exact impl_ExtendLoan.mono _ _ _ _ _)
   | (with_reducible exact laws_eqShop.mono _ _ _ _ _)
   | (with_reducible exact laws_heldShop.mono _ _ _ _)
   | (with_reducible exact laws_markShop.mono _ _ _ _)
   | (with_reducible exact laws_toShop.mono _ _ _)
   | (with_reducible exact spec_ExtendLoan.mono _ _ _ _ _)
   | (with_reducible exact LeO.refl _)
   | (with_reducible exact LeO.none _)
   | (with_reducible refine LeO.ite ?_ ?_)
   | (with_reducible refine LeO.bind ?_ (fun _ => ?_))
   | exact ih0 _ _ _ _ _ _ _ _ _ _ _ _ _
   | exact ih1 _ _ _ _ _ _ _ _ _ _
   | exact ih2 _ _ _ _
   | exact impl_ExtendLoan.mono _ _ _ _ _
   | exact laws_eqShop.mono _ _ _ _ _
   | exact laws_heldShop.mono _ _ _ _
   | exact laws_markShop.mono _ _ _ _
   | exact laws_toShop.mono _ _ _
   | exact spec_ExtendLoan.mono _ _ _ _ _
   | exact LeO.none _
   | refine LeO.ite ?_ ?_
   | refine LeO.bind ?_ (fun _ => ?_)
  ·intro y0 y1 y2 y3
   unfold laws_FnExactExtendLoan.j2
   repeat' first
   | (with_reducible exact ih0 _ _ _ _ _ _ _ _ _ _ _ _ _)
   | (with_reducible exact ih1 _ _ _ _ _ _ _ _ _ _)
   | (with_reducible exact ih2 _ _ _ _)
   | (with_reducible exact impl_ExtendLoan.mono _ _ _ _ _)
   | (with_reducible exact laws_eqShop.mono _ _ _ _ _)
   | (with_reducible exact laws_heldShop.mono _ _ _ _)
   | (with_reducible exact laws_markShop.mono _ _ _ _)
   | (with_reducible exact laws_toShop.mono _ _ _)
   | (with_reducible exact spec_ExtendLoan.mono _ _ _ _ _)
   | (with_reducible exact LeO.refl _)
   | (with_reducible exact LeO.none _)
   | (with_reducible refine LeO.ite ?_ ?_)
   | (with_reducible refine LeO.bind ?_ (fun _ => ?_))
   | exact ih0 _ _ _ _ _ _ _ _ _ _ _ _ _
   | exact ih1 _ _ _ _ _ _ _ _ _ _
   | exact ih2 _ _ _ _
   | exact impl_ExtendLoan.mono _ _ _ _ _
   | exact laws_eqShop.mono _ _ _ _ _
   | exact laws_heldShop.mono _ _ _ _
   | exact laws_markShop.mono _ _ _ _
   | exact laws_toShop.mono _ _ _
   | exact spec_ExtendLoan.mono _ _ _ _ _
   | exact LeO.none _
   | refine LeO.ite ?_ ?_
   | refine LeO.bind ?_ (fun _ => ?_)
theorem laws_FnExactExtendLoan.mono : ∀ a0 a1 a2 a3 k, LeO (laws_FnExactExtendLoan.f k a0 a1 a2 a3) (laws_FnExactExtendLoan.f (k + 1) a0 a1 a2 a3) := by
 intro a0 a1 a2 a3 k
 obtain ⟨ih0, ih1, ih2⟩ := laws_FnExactExtendLoan.mono_l k
 unfold laws_FnExactExtendLoan.f
 repeat' first
   | (with_reducible exact ih0 _ _ _ _ _ _ _ _ _ _ _ _ _)
   | (with_reducible exact ih1 _ _ _ _ _ _ _ _ _ _)
   | (with_reducible exact ih2 _ _ _ _)
   | (with_reducible exact impl_ExtendLoan.mono _ _ _ _ _)
   | (with_reducible exact laws_eqShop.mono _ _ _ _ _)
   | (with_reducible exact laws_heldShop.mono _ _ _ _)
   | (with_reducible exact laws_markShop.mono _ _ _ _)
   | (with_reducible exact laws_toShop.mono _ _ _)
   | (with_reducible exact spec_ExtendLoan.mono _ _ _ _ _)
   | (with_reducible exact LeO.refl _)
   | (with_reducible exact LeO.none _)
   | (with_reducible refine LeO.ite ?_ ?_)
   | (with_reducible refine LeO.bind ?_ (fun _ => ?_))
   | exact ih0 _ _ _ _ _ _ _ _ _ _ _ _ _
   | exact ih1 _ _ _ _ _ _ _ _ _ _
   | exact ih2 _ _ _ _
   | exact impl_ExtendLoan.mono _ _ _ _ _
   | exact laws_eqShop.mono _ _ _ _ _
   | exact laws_heldShop.mono _ _ _ _
   | exact laws_markShop.mono _ _ _ _
   | exact laws_toShop.mono _ _ _
   | exact spec_ExtendLoan.mono _ _ _ _ _
   | exact LeO.none _
   | refine LeO.ite ?_ ?_
   | refine LeO.bind ?_ (fun _ => ?_)
set_option maxHeartbeats 8000000 in
set_option maxRecDepth 100000 in
theorem laws_FnExactExtendLoan.calls (k : Nat) (A0_0 : Option Addr) (c0_0 : Nat) (l0_0 : List Int) (A0_1 : Option Addr) (c0_1 : Nat) (l0_1 : List (S39)) (a1 : Int) (a2 : Int) (r : Bool) (w : World) (hr0_0 : Kd.C (Kd.int .i64) w A0_0 l0_0.length l0_0) (hc0_0 : l0_0.length ≤ c0_0) (hr0_1 : Kd.C k39 w A0_1 l0_1.length l0_1) (hc0_1 : l0_1.length ≤ c0_1) (h : laws_FnExactExtendLoan.f k l0_0 l0_1 a1 a2 = some r) :
  Calls Try.prog 4 #[.agg #[.slice A0_0 l0_0.length c0_0, .slice A0_1 l0_1.length c0_1], .int .i64 a1, .int .i64 a2] w fun e w' => e = .returned (.bool r) ∧ Below w.heap.size w w' := by
 have hu25 := Try.underlying25
 have hu29 := Try.underlying29
 have HR0_0 := am hr0_0
 have HC0_0 := am hc0_0
 clear hr0_0 hc0_0
 have HR0_1 := am hr0_1
 have HC0_1 := am hc0_1
 clear hr0_1 hc0_1
 have HB := am (Below.refl w.heap.size w)
 have H : ((laws_szShop.f l0_0 l0_1 1048576).bind fun t315 => (if t315 < 0 then (some true) else ((laws_toShop.f k l0_0 l0_1).bind fun bt316 => ((spec_ExtendLoan.f k bt316.1 bt316.2 a1 a2).bind fun bt322 => ((laws_toShop.f k l0_0 l0_1).bind fun bt330 => ((impl_ExtendLoan.f k bt330.1 bt330.2 a1 a2).bind fun bt337 => ((laws_eqShop.f k bt337.1 bt337.2.1 bt322.1 bt322.2.1).bind fun t345 => (if t345 = true then (laws_FnExactExtendLoan.j0 k a1 a2 bt322.2.2 bt337.2.2 (bt337.2.2 != bt322.2.2) l0_0 l0_1 bt322.1 bt322.2.1 bt330.1 bt330.2 bt337.1 bt337.2.1) else (laws_FnExactExtendLoan.j0 k a1 a2 bt322.2.2 bt337.2.2 true l0_0 l0_1 bt322.1 bt322.2.1 bt330.1 bt330.2 bt337.1 bt337.2.1))))))))) = some r := h
 clear h
 obtain ⟨t315, A4, H⟩ := bindq H
 try dsimp only at H
 by_cases c5 : t315 < 0
 ·rw [if_pos c5] at H
  have c5b0 : decide (t315 < 0) = true := decide_eq_true c5
  clear c5
  obtain rfl := Option.some.inj H
  go_enter Try.func4, Try.ntmps4
  go_wp2_with (first | ((with_reducible refine gate_dst (N := 3) rfl ?_); refine box_event ?hg (N := 3) ?hd (cs := #[.slice A0_0 l0_0.length c0_0, .slice A0_1 l0_1.length c0_1]) (t := 25) ?hr ?_; (case hd => rfl); (case hg => rfl); (case hr => first | (go_simp; done) | (go_simp; rfl)); intro gb314 hg w6 hbox hb; have BK314 := am (hbox); have GW314 := am (gq hg); have GE314 := am (gq hg); replace HB := sb hb; clear hb hbox hg; have ⟨hcz7_0, hcz7_1, hfz7_0, hfz7_1⟩ := bc2 BK314) | ((with_reducible refine gate_callee (f := 7) rfl ?_); refine goesQ (some 20) Try.func7 #[.agg #[.slice A0_0 l0_0.length c0_0, .slice A0_1 l0_1.length c0_1], .int .i64 1048576] ?_; (with_reducible refine (laws_szShop.calls _ _ l0_0 _ _ l0_1 1048576 t315 _ ?s1 ?s2 ?s3 ?s4 A4.out).mono ?_); (case s1 => exact cq (Kd.C_below HR0_0.out HB.out)); (case s2 => exact HC0_0.out); (case s3 => exact cq (Kd.C_below HR0_1.out HB.out)); (case s4 => exact HC0_1.out); rintro e w8 ⟨rfl, hb⟩; refine ⟨_, rfl, ?_⟩; replace BK314 := zb BK314 hb; replace HB := sb hb; (try clear hb)))
  go_ret
  exact ⟨eq_, bq⟩
 ·rw [if_neg c5] at H
  have c5b0 : decide (t315 < 0) = false := decide_eq_false c5
  clear c5
  obtain ⟨⟨t316, t319⟩, A9, H⟩ := bindq H
  try dsimp only at H
  obtain ⟨⟨t322, t325, t328⟩, A10, H⟩ := bindq H
  try dsimp only at H
  obtain ⟨⟨t330, t333⟩, A11, H⟩ := bindq H
  try dsimp only at H
  obtain ⟨⟨t337, t340, t343⟩, A12, H⟩ := bindq H
  try dsimp only at H
  have HC13 := am H
  clear H
  go_enter Try.func4, Try.ntmps4
  go_upto_region 8 with (first | ((with_reducible refine gate_dst (N := 3) rfl ?_); refine box_event ?hg (N := 3) ?hd (cs := #[.slice A0_0 l0_0.length c0_0, .slice A0_1 l0_1.length c0_1]) (t := 25) ?hr ?_; (case hd => rfl); (case hg => rfl); (case hr => first | (go_simp; done) | (go_simp; rfl)); intro gb314 hg w14 hbox hb; have BK314 := am (hbox); have GW314 := am (gq hg); have GE314 := am (gq hg); replace HB := sb hb; clear hb hbox hg; have ⟨hcz15_0, hcz15_1, hfz15_0, hfz15_1⟩ := bc2 BK314) | ((with_reducible refine gate_callee (f := 7) rfl ?_); refine goesQ (some 20) Try.func7 #[.agg #[.slice A0_0 l0_0.length c0_0, .slice A0_1 l0_1.length c0_1], .int .i64 1048576] ?_; (with_reducible refine (laws_szShop.calls _ _ l0_0 _ _ l0_1 1048576 t315 _ ?s1 ?s2 ?s3 ?s4 A4.out).mono ?_); (case s1 => exact cq (Kd.C_below HR0_0.out HB.out)); (case s2 => exact HC0_0.out); (case s3 => exact cq (Kd.C_below HR0_1.out HB.out)); (case s4 => exact HC0_1.out); rintro e w16 ⟨rfl, hb⟩; refine ⟨_, rfl, ?_⟩; replace BK314 := zb BK314 hb; replace HB := sb hb; (try clear hb); have ⟨hcz17_0, hcz17_1, hfz17_0, hfz17_1⟩ := bc2 BK314) | ((with_reducible refine gate_callee (f := 9) rfl ?_); refine goesQ (some 25) Try.func9 #[.agg #[.slice A0_0 l0_0.length c0_0, .slice A0_1 l0_1.length c0_1]] ?_; (with_reducible refine (laws_toShop.calls k _ _ l0_0 _ _ l0_1 t316 t319 _ ?s1 ?s2 ?s3 ?s4 A9.out).mono ?_); (case s1 => exact cq (Kd.C_below HR0_0.out HB.out)); (case s2 => exact HC0_0.out); (case s3 => exact cq (Kd.C_below HR0_1.out HB.out)); (case s4 => exact HC0_1.out); rintro e w18 ⟨v317, v320, rfl, ho0, ho1, hb⟩; refine ⟨_, rfl, ?_⟩; have HO318 := rl ho0; have HO321 := rl ho1; replace BK314 := zb BK314 hb; replace HB := sb hb; (try clear hb ho0 ho1); obtain ⟨Ao19, co19, eo19⟩ := Kd.R_slice HO318.out; subst eo19; obtain ⟨Ao20, co20, eo20⟩ := Kd.R_slice HO321.out; subst eo20) | ((with_reducible refine gate_callee (f := 14) rfl ?_); refine goesQ (some 28) Try.func14 #[.agg #[.slice Ao19 t316.length co19, .slice Ao20 t319.length co20], .int .i64 a1, .int .i64 a2] ?_; (with_reducible refine (spec_ExtendLoan.calls k _ _ t316 _ _ t319 a1 a2 t322 t325 t328 _ ?s1 ?s2 ?s3 ?s4 A10.out).mono ?_); (case s1 => exact cr HO318); (case s2 => exact rq1 HO318); (case s3 => exact cr HO321); (case s4 => exact rq1 HO321); rintro e w21 ⟨v323, v326, rfl, ho0, ho1, hb⟩; refine ⟨_, rfl, ?_⟩; have HO324 := rl (Kd.R_new' ho0 (lw HO318)); replace HO318 := am (Kd.R_elder' (rq HO318) (Kd.R_base ho0) hb); have HO327 := rl (Kd.R_new' ho1 (lw HO321)); replace HO321 := am (Kd.R_elder' (rq HO321) (Kd.R_base ho1) hb); replace BK314 := zb BK314 hb; replace HB := sb hb; (try clear hb ho0 ho1)) | ((with_reducible refine gate_dst (N := 8) rfl ?_); refine box_event ?hg (N := 8) ?hd (cs := #[.slice none 0 0, .slice none 0 0]) (t := 29) ?hr ?_; (case hd => rfl); (case hg => rfl); (case hr => first | (go_simp; done) | (go_simp; rfl)); intro gb329 hg w22 hbox hb; replace HO318 := rb HO318 hb; replace HO321 := rb HO321 hb; replace HO324 := rb HO324 hb; replace HO327 := rb HO327 hb; have BK329 := am (hbox); have GW329 := am (gq hg); have GE329 := am (gq hg); replace HB := sb hb; have NB314_329 := nl hg BK314; have NB329_314 := ng hg BK314; replace BK314 := zb BK314 hb; clear hb hbox hg; obtain ⟨Ao23, co23, eo23⟩ := Kd.R_slice HO324.out; subst eo23; have hnb24 := NB329_314.out; have hnc24 := NB314_329.out; have ⟨hcz25_0, hcz25_1, hfz25_0, hfz25_1⟩ := bc2 BK329; obtain ⟨Ao26, co26, eo26⟩ := Kd.R_slice HO327.out; subst eo26; have ⟨hcz27_0, hcz27_1, hfz27_0, hfz27_1⟩ := bc2 BK314) | ((with_reducible refine gate_callee (f := 9) rfl ?_); refine goesQ (some 32) Try.func9 #[.agg #[.slice A0_0 l0_0.length c0_0, .slice A0_1 l0_1.length c0_1]] ?_; (with_reducible refine (laws_toShop.calls k _ _ l0_0 _ _ l0_1 t330 t333 _ ?s1 ?s2 ?s3 ?s4 A11.out).mono ?_); (case s1 => exact Kd.C_below HR0_0.out bq); (case s2 => exact HC0_0.out); (case s3 => exact Kd.C_below HR0_1.out bq); (case s4 => exact HC0_1.out); rintro e w28 ⟨v331, v334, rfl, ho0, ho1, hb⟩; refine ⟨_, rfl, ?_⟩; have HO332 := rl (Kd.R_new' (Kd.R_new' ho0 (Kd.R_lt (fq HO318 BK329))) (Kd.R_lt (fq HO324 BK329))); replace HO318 := am (Kd.R_elder' (fq HO318 BK329) (Kd.R_base ho0) hb); replace HO324 := am (Kd.R_elder' (fq HO324 BK329) (Kd.R_base ho0) hb); have HO335 := rl (Kd.R_new' (Kd.R_new' ho1 (Kd.R_lt (fq HO321 BK329))) (Kd.R_lt (fq HO327 BK329))); replace HO321 := am (Kd.R_elder' (fq HO321 BK329) (Kd.R_base ho1) hb); replace HO327 := am (Kd.R_elder' (fq HO327 BK329) (Kd.R_base ho1) hb); replace BK314 := am (blk_below (g := gb314) (o := .cells #[.slice A0_0 l0_0.length c0_0, .slice A0_1 l0_1.length c0_1] 25 (0, 0)) (zp BK314) hb); replace BK329 := am (blk_below (g := gb329) (o := .cells #[.slice Ao23 t322.length co23, .slice Ao26 t325.length co26] 29 (0, 0)) (zp BK329) hb); replace HB := sb hb; (try clear hb ho0 ho1)) | ((with_reducible refine gate_dst (N := 10) rfl ?_); refine box_event ?hg (N := 10) ?hd (cs := #[.slice none 0 0, .slice none 0 0]) (t := 29) ?hr ?_; (case hd => rfl); (case hg => rfl); (case hr => first | (go_simp; done) | (go_simp; rfl)); intro gb336 hg w29 hbox hb; replace HO318 := rb HO318 hb; replace HO321 := rb HO321 hb; replace HO324 := rb HO324 hb; replace HO327 := rb HO327 hb; replace HO332 := rb HO332 hb; replace HO335 := rb HO335 hb; have BK336 := am (hbox); have GW336 := am (gq hg); have GE336 := am (gq hg); replace HB := sb hb; have NB314_336 := nl hg BK314; have NB336_314 := ng hg BK314; replace BK314 := zb BK314 hb; have NB329_336 := nl hg BK329; have NB336_329 := ng hg BK329; replace BK329 := zb BK329 hb; clear hb hbox hg; obtain ⟨Ao30, co30, eo30⟩ := Kd.R_slice HO332.out; subst eo30; have hnb31 := NB336_314.out; have hnc31 := NB314_336.out; have hnb32 := NB336_329.out; have hnc32 := NB329_336.out; have ⟨hcz33_0, hcz33_1, hfz33_0, hfz33_1⟩ := bc2 BK336; obtain ⟨Ao34, co34, eo34⟩ := Kd.R_slice HO335.out; subst eo34) | ((with_reducible refine gate_callee (f := 15) rfl ?_); refine goesQ (some 37) Try.func15 #[.agg #[.slice Ao30 t330.length co30, .slice Ao34 t333.length co34], .int .i64 a1, .int .i64 a2] ?_; (with_reducible refine (impl_ExtendLoan.calls k _ _ t330 _ _ t333 a1 a2 t337 t340 t343 _ ?s1 ?s2 ?s3 ?s4 A12.out).mono ?_); (case s1 => exact cf HO332 BK336); (case s2 => exact rq1 HO332); (case s3 => exact cf HO335 BK336); (case s4 => exact rq1 HO335); rintro e w35 ⟨v338, v341, rfl, ho0, ho1, hb⟩; refine ⟨_, rfl, ?_⟩; have HO339 := rl (Kd.R_new' (Kd.R_new' (Kd.R_new' ho0 (Kd.R_lt (fq HO318 BK336))) (Kd.R_lt (fq HO324 BK336))) (Kd.R_lt (fq HO332 BK336))); replace HO324 := am (Kd.R_elder' (fq HO324 BK336) (Kd.R_base ho0) hb); replace HO332 := am (Kd.R_elder' (fq HO332 BK336) (Kd.R_base ho0) hb); have HO342 := rl (Kd.R_new' (Kd.R_new' (Kd.R_new' ho1 (Kd.R_lt (fq HO321 BK336))) (Kd.R_lt (fq HO327 BK336))) (Kd.R_lt (fq HO335 BK336))); replace HO327 := am (Kd.R_elder' (fq HO327 BK336) (Kd.R_base ho1) hb); replace HO335 := am (Kd.R_elder' (fq HO335 BK336) (Kd.R_base ho1) hb); replace BK314 := am (blk_below (g := gb314) (o := .cells #[.slice A0_0 l0_0.length c0_0, .slice A0_1 l0_1.length c0_1] 25 (0, 0)) (zp BK314) hb); replace BK329 := am (blk_below (g := gb329) (o := .cells #[.slice Ao23 t322.length co23, .slice Ao26 t325.length co26] 29 (0, 0)) (zp BK329) hb); replace BK336 := am (blk_below (g := gb336) (o := .cells #[.slice Ao30 t330.length co30, .slice Ao34 t333.length co34] 29 (0, 0)) (zp BK336) hb); replace HB := sb hb; (try clear hb ho0 ho1)) | ((with_reducible refine gate_dst (N := 11) rfl ?_); refine box_event ?hg (N := 11) ?hd (cs := #[.slice none 0 0, .slice none 0 0]) (t := 29) ?hr ?_; (case hd => rfl); (case hg => rfl); (case hr => first | (go_simp; done) | (go_simp; rfl)); intro gb344 hg w36 hbox hb; replace HO324 := rb HO324 hb; replace HO327 := rb HO327 hb; replace HO332 := rb HO332 hb; replace HO335 := rb HO335 hb; replace HO339 := rb HO339 hb; replace HO342 := rb HO342 hb; have BK344 := am (hbox); have GW344 := am (gq hg); have GE344 := am (gq hg); replace HB := sb hb; have NB314_344 := nl hg BK314; have NB344_314 := ng hg BK314; replace BK314 := zb BK314 hb; have NB329_344 := nl hg BK329; have NB344_329 := ng hg BK329; replace BK329 := zb BK329 hb; have NB336_344 := nl hg BK336; have NB344_336 := ng hg BK336; replace BK336 := zb BK336 hb; clear hb hbox hg; obtain ⟨Ao37, co37, eo37⟩ := Kd.R_slice HO339.out; subst eo37; have hnb38 := NB344_314.out; have hnc38 := NB314_344.out; have hnb39 := NB344_329.out; have hnc39 := NB329_344.out; have hnb40 := NB344_336.out; have hnc40 := NB336_344.out; have ⟨hcz41_0, hcz41_1, hfz41_0, hfz41_1⟩ := bc2 BK344; obtain ⟨Ao42, co42, eo42⟩ := Kd.R_slice HO342.out; subst eo42))
  (try simp only [Act.put, List.setIfInBounds_toArray, List.set_cons_zero, List.set_cons_succ])
  go_cut [48] (fun v48 wc => ∃ (kq : Nat) (x48_12 : Bool), v48 = .bool x48_12 ∧ Aside0 (laws_FnExactExtendLoan.j0 kq a1 a2 t328 t343 x48_12 l0_0 l0_1 t322 t325 t330 t333 t337 t340 = some r) ∧ Aside0 (kq ≤ k) ∧ Aside0 (Kd.R (Kd.int .i64) 3 wc w.heap.size (fun k_ => some k_ ≠ ((.slice Ao30 t330.length co30) : Value).ownBlock ∧ some k_ ≠ ((.slice Ao37 t337.length co37) : Value).ownBlock) (.slice Ao23 t322.length co23) t322) ∧ Aside0 (Kd.R k41 41 wc w.heap.size (fun k_ => some k_ ≠ ((.slice Ao34 t333.length co34) : Value).ownBlock ∧ some k_ ≠ ((.slice Ao42 t340.length co42) : Value).ownBlock) (.slice Ao26 t325.length co26) t325) ∧ Aside0 (Kd.R (Kd.int .i64) 3 wc w.heap.size (fun k_ => some k_ ≠ ((.slice Ao23 t322.length co23) : Value).ownBlock ∧ some k_ ≠ ((.slice Ao37 t337.length co37) : Value).ownBlock) (.slice Ao30 t330.length co30) t330) ∧ Aside0 (Kd.R k41 41 wc w.heap.size (fun k_ => some k_ ≠ ((.slice Ao26 t325.length co26) : Value).ownBlock ∧ some k_ ≠ ((.slice Ao42 t340.length co42) : Value).ownBlock) (.slice Ao34 t333.length co34) t333) ∧ Aside0 (Kd.R (Kd.int .i64) 3 wc w.heap.size (fun k_ => some k_ ≠ ((.slice Ao23 t322.length co23) : Value).ownBlock ∧ some k_ ≠ ((.slice Ao30 t330.length co30) : Value).ownBlock) (.slice Ao37 t337.length co37) t337) ∧ Aside0 (Kd.R k41 41 wc w.heap.size (fun k_ => some k_ ≠ ((.slice Ao26 t325.length co26) : Value).ownBlock ∧ some k_ ≠ ((.slice Ao34 t333.length co34) : Value).ownBlock) (.slice Ao42 t340.length co42) t340) ∧ Aside0 (wc.heap[gb314]? = some (.cells #[(.slice A0_0 l0_0.length c0_0), (.slice A0_1 l0_1.length c0_1)] 25 (0, 0))) ∧ Aside0 (wc.heap[gb329]? = some (.cells #[(.slice Ao23 t322.length co23), (.slice Ao26 t325.length co26)] 29 (0, 0))) ∧ Aside0 (wc.heap[gb336]? = some (.cells #[(.slice Ao30 t330.length co30), (.slice Ao34 t333.length co34)] 29 (0, 0))) ∧ Aside0 (wc.heap[gb344]? = some (.cells #[(.slice Ao37 t337.length co37), (.slice Ao42 t340.length co42)] 29 (0, 0))) ∧ Aside0 (Below w.heap.size w wc))
  case first =>
   have H := HC13.out
   clear HC13
   obtain ⟨t345, A43, H⟩ := bindq H
   try dsimp only at H
   by_cases c44 : t345 = true
   ·subst c44
    rw [if_pos rfl] at H
    try dsimp only at H
    have H' := am H
    clear H
    have hnb45 := NB344_314.out
    have hnc45 := NB314_344.out
    have hnb46 := NB344_329.out
    have hnc46 := NB329_344.out
    have hnb47 := NB344_336.out
    have hnc47 := NB336_344.out
    have ⟨hcz48_0, hcz48_1, hfz48_0, hfz48_1⟩ := bc2 BK344
    have hnb49 := NB329_314.out
    have hnc49 := NB314_329.out
    have hnb50 := NB329_336.out
    have hnc50 := NB336_329.out
    have ⟨hcz51_0, hcz51_1, hfz51_0, hfz51_1⟩ := bc2 BK329
    go_wp2_with (first | ((with_reducible refine gate_callee (f := 11) rfl ?_); refine goesQ (some 42) Try.func11 #[.agg #[.slice Ao37 t337.length co37, .slice Ao42 t340.length co42], .agg #[.slice Ao23 t322.length co23, .slice Ao26 t325.length co26]] ?_; (with_reducible refine (laws_eqShop.calls k _ _ t337 _ _ t340 _ _ t322 _ _ t325 true _ ?s1 ?s2 ?s3 ?s4 ?s5 ?s6 ?s7 ?s8 A43.out).mono ?_); (case s1 => exact cf HO339 BK344); (case s2 => exact rq1 HO339); (case s3 => exact cf HO342 BK344); (case s4 => exact rq1 HO342); (case s5 => exact cf HO324 BK344); (case s6 => exact rq1 HO324); (case s7 => exact cf HO327 BK344); (case s8 => exact rq1 HO327); rintro e w52 ⟨rfl, hb⟩; refine ⟨_, rfl, ?_⟩; replace HO324 := am (Kd.R_below (fq HO324 BK344) hb); replace HO327 := am (Kd.R_below (fq HO327 BK344) hb); replace HO332 := am (Kd.R_below (fq HO332 BK344) hb); replace HO335 := am (Kd.R_below (fq HO335 BK344) hb); replace HO339 := am (Kd.R_below (fq HO339 BK344) hb); replace HO342 := am (Kd.R_below (fq HO342 BK344) hb); replace BK314 := am (blk_below (g := gb314) (o := .cells #[.slice A0_0 l0_0.length c0_0, .slice A0_1 l0_1.length c0_1] 25 (0, 0)) (zp BK314) hb); replace BK329 := am (blk_below (g := gb329) (o := .cells #[.slice Ao23 t322.length co23, .slice Ao26 t325.length co26] 29 (0, 0)) (zp BK329) hb); replace BK336 := am (blk_below (g := gb336) (o := .cells #[.slice Ao30 t330.length co30, .slice Ao34 t333.length co34] 29 (0, 0)) (zp BK336) hb); replace BK344 := am (blk_below (g := gb344) (o := .cells #[.slice Ao37 t337.length co37, .slice Ao42 t340.length co42] 29 (0, 0)) (zp BK344) hb); replace HB := sb hb; (try clear hb)))
    go_meet
    case rel => exact ⟨_, ((t343 != t328)), sq, H', ⟨by first | omega | exact Nat.le_refl _⟩, ⟨rm HO324⟩, ⟨rm HO327⟩, ⟨rm HO332⟩, ⟨rm HO335⟩, ⟨rm HO339⟩, ⟨rm HO342⟩, ⟨zq BK314⟩, ⟨zq BK329⟩, ⟨zq BK336⟩, ⟨zq BK344⟩, ⟨bq⟩⟩
   ·replace c44 := Bool.eq_false_iff.mpr c44
    subst c44
    rw [if_neg (show ¬ (false = true) by decide)] at H
    try dsimp only at H
    have H' := am H
    clear H
    have hnb53 := NB344_314.out
    have hnc53 := NB314_344.out
    have hnb54 := NB344_329.out
    have hnc54 := NB329_344.out
    have hnb55 := NB344_336.out
    have hnc55 := NB336_344.out
    have ⟨hcz56_0, hcz56_1, hfz56_0, hfz56_1⟩ := bc2 BK344
    have hnb57 := NB329_314.out
    have hnc57 := NB314_329.out
    have hnb58 := NB329_336.out
    have hnc58 := NB336_329.out
    have ⟨hcz59_0, hcz59_1, hfz59_0, hfz59_1⟩ := bc2 BK329
    go_wp2_with (first | ((with_reducible refine gate_callee (f := 11) rfl ?_); refine goesQ (some 42) Try.func11 #[.agg #[.slice Ao37 t337.length co37, .slice Ao42 t340.length co42], .agg #[.slice Ao23 t322.length co23, .slice Ao26 t325.length co26]] ?_; (with_reducible refine (laws_eqShop.calls k _ _ t337 _ _ t340 _ _ t322 _ _ t325 false _ ?s1 ?s2 ?s3 ?s4 ?s5 ?s6 ?s7 ?s8 A43.out).mono ?_); (case s1 => exact cf HO339 BK344); (case s2 => exact rq1 HO339); (case s3 => exact cf HO342 BK344); (case s4 => exact rq1 HO342); (case s5 => exact cf HO324 BK344); (case s6 => exact rq1 HO324); (case s7 => exact cf HO327 BK344); (case s8 => exact rq1 HO327); rintro e w60 ⟨rfl, hb⟩; refine ⟨_, rfl, ?_⟩; replace HO324 := am (Kd.R_below (fq HO324 BK344) hb); replace HO327 := am (Kd.R_below (fq HO327 BK344) hb); replace HO332 := am (Kd.R_below (fq HO332 BK344) hb); replace HO335 := am (Kd.R_below (fq HO335 BK344) hb); replace HO339 := am (Kd.R_below (fq HO339 BK344) hb); replace HO342 := am (Kd.R_below (fq HO342 BK344) hb); replace BK314 := am (blk_below (g := gb314) (o := .cells #[.slice A0_0 l0_0.length c0_0, .slice A0_1 l0_1.length c0_1] 25 (0, 0)) (zp BK314) hb); replace BK329 := am (blk_below (g := gb329) (o := .cells #[.slice Ao23 t322.length co23, .slice Ao26 t325.length co26] 29 (0, 0)) (zp BK329) hb); replace BK336 := am (blk_below (g := gb336) (o := .cells #[.slice Ao30 t330.length co30, .slice Ao34 t333.length co34] 29 (0, 0)) (zp BK336) hb); replace BK344 := am (blk_below (g := gb344) (o := .cells #[.slice Ao37 t337.length co37, .slice Ao42 t340.length co42] 29 (0, 0)) (zp BK344) hb); replace HB := sb hb; (try clear hb)))
    go_meet
    case rel => exact ⟨_, (true), sq, H', ⟨by first | omega | exact Nat.le_refl _⟩, ⟨rm HO324⟩, ⟨rm HO327⟩, ⟨rm HO332⟩, ⟨rm HO335⟩, ⟨rm HO339⟩, ⟨rm HO342⟩, ⟨zq BK314⟩, ⟨zq BK329⟩, ⟨zq BK336⟩, ⟨zq BK344⟩, ⟨bq⟩⟩
  case rest =>
   clear HC13
   try clear c5b0
   try clear c44
   try clear hcz15_0 hcz15_1 hfz15_0 hfz15_1
   try clear hcz17_0 hcz17_1 hfz17_0 hfz17_1
   try clear hcz25_0 hcz25_1 hfz25_0 hfz25_1
   try clear hcz27_0 hcz27_1 hfz27_0 hfz27_1
   try clear hcz33_0 hcz33_1 hfz33_0 hfz33_1
   try clear hcz41_0 hcz41_1 hfz41_0 hfz41_1
   try clear hcz48_0 hcz48_1 hfz48_0 hfz48_1
   try clear hcz51_0 hcz51_1 hfz51_0 hfz51_1
   try clear hcz56_0 hcz56_1 hfz56_0 hfz56_1
   try clear hcz59_0 hcz59_1 hfz59_0 hfz59_1
   try clear hcz7_0 hcz7_1 hfz7_0 hfz7_1
   obtain ⟨kq, x48_12, rfl, HA, HJ12, HO_330000, HO_330001, HO_337000, HO_337001, HO_345000, HO_345001, BK314, BK329, BK336, BK344, HB⟩ := hcut
   cases kq with
   | zero => exact absurd HA.out (by simp [laws_FnExactExtendLoan.j0])
   | succ kj12 =>
    have H := HA.out
    clear HA
    simp only [laws_FnExactExtendLoan.j0] at H
    by_cases c61 : x48_12 = true
    ·subst c61
     rw [if_pos rfl] at H
     try dsimp only at H
     obtain rfl := Option.some.inj H
     go_wp2
     go_ret
     exact ⟨eq_, bq⟩
    ·replace c61 := Bool.eq_false_iff.mpr c61
     subst c61
     rw [if_neg (show ¬ (false = true) by decide)] at H
     try dsimp only at H
     obtain ⟨⟨t346, t349⟩, A62, H⟩ := bindq H
     try dsimp only at H
     obtain ⟨t352, A63, H⟩ := bindq H
     try dsimp only at H
     by_cases c64 : t352 = true
     ·subst c64
      rw [if_pos rfl] at H
      try dsimp only at H
      obtain ⟨⟨t353, t354, t355⟩, A65, H⟩ := bindq H
      try dsimp only at H
      have HC66 := am H
      clear H
      try go_wp2
      replace HO_330000 := am (Kd.R_drew HO_330000.out)
      replace HO_330001 := am (Kd.R_drew HO_330001.out)
      replace HO_337000 := am (Kd.R_drew HO_337000.out)
      replace HO_337001 := am (Kd.R_drew HO_337001.out)
      replace HO_345000 := am (Kd.R_drew HO_345000.out)
      replace HO_345001 := am (Kd.R_drew HO_345001.out)
      replace BK314 := am (blk_drew BK314.out)
      replace BK329 := am (blk_drew BK329.out)
      replace BK336 := am (blk_drew BK336.out)
      replace BK344 := am (blk_drew BK344.out)
      replace HB := am (below_drew1 HB.out)
      refine start_ (n := 5) (S := fun w' => w'.cell? ⟨gb336, 0, none⟩ = some (.slice Ao30 t330.length co30) ∧ w'.cell? ⟨gb336, 1, none⟩ = some (.slice Ao34 t333.length co34) ∧ w'.cell? ⟨gb314, 0, none⟩ = some (.slice A0_0 l0_0.length c0_0) ∧ w'.cell? ⟨gb314, 1, none⟩ = some (.slice A0_1 l0_1.length c0_1)) (ds := []) #[false, false, false, false, false] (by kernel_rfl) rfl rfl cl (fun hHeld => ?_)
      generalize wc.drew = w67 at HO_330000 HO_330001 HO_337000 HO_337001 HO_345000 HO_345001 BK314 BK329 BK336 BK344 HB hHeld ⊢
      refine take_ (i := 0) (N := some 49) (v := ?_) (a' := ?_) #[true, false, false, false, false] rfl rfl (by kernel_rfl) (fun _ _ _ h => h) (Or.inl ⟨by rfl, ?_⟩) hHeld ?_ ?_
      rotate_left
      ·rintro w' ⟨s0, s1, s2, s3⟩
       go_simp
       with_reducible rfl
      rotate_left
      ·simp only [Act.put, List.setIfInBounds_toArray, List.set_cons_zero, List.set_cons_succ, i64_w, i32_w]
       rfl
      refine take_ (i := 1) (N := some 50) (v := ?_) (a' := ?_) #[true, true, false, false, false] rfl rfl (by kernel_rfl) (fun _ _ _ h => h) (Or.inl ⟨by rfl, ?_⟩) hHeld ?_ ?_
      rotate_left
      ·rintro w' ⟨s0, s1, s2, s3⟩
       go_simp
       with_reducible rfl
      rotate_left
      ·simp only [Act.put, List.setIfInBounds_toArray, List.set_cons_zero, List.set_cons_succ, i64_w, i32_w]
       rfl
      refine one_ (i := 2) (N := some 51) #[true, true, true, false, false] rfl rfl (by kernel_rfl) (by decide) (fun K hK => ?_)
      refine goes_ Try.func9 (by kernel_rfl) rfl #[.agg #[.slice A0_0 l0_0.length c0_0, .slice A0_1 l0_1.length c0_1]] (by rfl) rfl rfl mq ?_
      with_reducible refine (laws_toShop.calls kj12 _ _ l0_0 _ _ l0_1 t346 t349 _ ?s1 ?s2 ?s3 ?s4 A62.out).mono ?_
      (case s1 => exact cq (Kd.C_below HR0_0.out HB.out))
      (case s2 => exact HC0_0.out)
      (case s3 => exact cq (Kd.C_below HR0_1.out HB.out))
      (case s4 => exact HC0_1.out)
      rintro e w68 ⟨v347, v350, rfl, ho0, ho1, hb⟩
      refine ⟨_, rfl, ?_⟩
      have HO348 := rl (Kd.R_new' (Kd.R_new' (Kd.R_new' ho0 (lw HO_330000)) (lw HO_337000)) (lw HO_345000))
      replace HO_330000 := am (Kd.R_elder' (rq HO_330000) (Kd.R_base ho0) hb)
      replace HO_337000 := am (Kd.R_elder' (rq HO_337000) (Kd.R_base ho0) hb)
      replace HO_345000 := am (Kd.R_elder' (rq HO_345000) (Kd.R_base ho0) hb)
      have HO351 := rl (Kd.R_new' (Kd.R_new' (Kd.R_new' ho1 (lw HO_330001)) (lw HO_337001)) (lw HO_345001))
      replace HO_330001 := am (Kd.R_elder' (rq HO_330001) (Kd.R_base ho1) hb)
      replace HO_337001 := am (Kd.R_elder' (rq HO_337001) (Kd.R_base ho1) hb)
      replace HO_345001 := am (Kd.R_elder' (rq HO_345001) (Kd.R_base ho1) hb)
      replace BK314 := zb BK314 hb
      replace BK329 := zb BK329 hb
      replace BK336 := zb BK336 hb
      replace BK344 := zb BK344 hb
      replace HB := sb hb
      (try clear hb ho0 ho1)
      obtain ⟨Ao69, co69, eo69⟩ := Kd.R_slice HO348.out
      (first | subst eo69 | (injection eo69 with f1_ f2_ f3_; have f4_ := f1_.symm; have f5_ := f3_.symm; clear f1_ f2_ f3_; subst f4_; subst f5_))
      obtain ⟨Ao70, co70, eo70⟩ := Kd.R_slice HO351.out
      (first | subst eo70 | (injection eo70 with f1_ f2_ f3_; have f4_ := f1_.symm; have f5_ := f3_.symm; clear f1_ f2_ f3_; subst f4_; subst f5_))
      refine hK.out _ _ cl (fun hHeld => ?_)
      clear hK K
      refine norm_ (a' := ?_) ?_ ?_
      rotate_left
      ·show Act.put _ (some 51) _ = _
       simp only [Act.put, List.setIfInBounds_toArray, List.set_cons_zero, List.set_cons_succ, i64_w, i32_w]
       rfl
      refine one_ (i := 3) (N := some 52) #[true, true, true, true, false] rfl rfl (by kernel_rfl) (by decide) (fun K hK => ?_)
      refine goes_ Try.func11 (by kernel_rfl) rfl #[.agg #[.slice Ao30 t330.length co30, .slice Ao34 t333.length co34], .agg #[.slice Ao69 t346.length co69, .slice Ao70 t349.length co70]] (by rfl) rfl rfl mq ?_
      with_reducible refine (laws_eqShop.calls kj12 _ _ t330 _ _ t333 _ _ t346 _ _ t349 true _ ?s1 ?s2 ?s3 ?s4 ?s5 ?s6 ?s7 ?s8 A63.out).mono ?_
      (case s1 => exact cr HO_337000)
      (case s2 => exact rq1 HO_337000)
      (case s3 => exact cr HO_337001)
      (case s4 => exact rq1 HO_337001)
      (case s5 => exact cr HO348)
      (case s6 => exact rq1 HO348)
      (case s7 => exact cr HO351)
      (case s8 => exact rq1 HO351)
      rintro e w71 ⟨rfl, hb⟩
      refine ⟨_, rfl, ?_⟩
      replace HO_330000 := rb HO_330000 hb
      replace HO_330001 := rb HO_330001 hb
      replace HO_337000 := rb HO_337000 hb
      replace HO_337001 := rb HO_337001 hb
      replace HO_345000 := rb HO_345000 hb
      replace HO_345001 := rb HO_345001 hb
      replace HO348 := rb HO348 hb
      replace HO351 := rb HO351 hb
      replace BK314 := zb BK314 hb
      replace BK329 := zb BK329 hb
      replace BK336 := zb BK336 hb
      replace BK344 := zb BK344 hb
      replace HB := sb hb
      (try clear hb)
      refine hK.out _ _ cl (fun hHeld => ?_)
      clear hK K
      refine norm_ (a' := ?_) ?_ ?_
      rotate_left
      ·show Act.put _ (some 52) _ = _
       simp only [Act.put, List.setIfInBounds_toArray, List.set_cons_zero, List.set_cons_succ, i64_w, i32_w]
       rfl
      refine pure_ (i := 4) (N := some 53) (v := ?_) (a' := ?_) #[true, true, true, true, true] rfl rfl (by kernel_rfl) (fun _ _ _ h => h) (Or.inl ⟨by rfl, ?_⟩) ?_ ?_
      rotate_left
      ·intro w'
       go_simp
       with_reducible rfl
      rotate_left
      ·simp only [Act.put, List.setIfInBounds_toArray, List.set_cons_zero, List.set_cons_succ, i64_w, i32_w]
       rfl
      refine done_ (by kernel_rfl) ?_
      have hnb72 := NB336_314.out
      have hnc72 := NB314_336.out
      have hnb73 := NB336_329.out
      have hnc73 := NB329_336.out
      have hnb74 := NB336_344.out
      have hnc74 := NB344_336.out
      have ⟨hcz75_0, hcz75_1, hfz75_0, hfz75_1⟩ := bc2 BK336
      go_upto_region 14 with (first | ((with_reducible refine gate_callee (f := 12) rfl ?_); refine goesQ (some 56) Try.func12 #[.agg #[.slice Ao30 t330.length co30, .slice Ao34 t333.length co34], .int .i64 1] ?_; (with_reducible refine (laws_markShop.calls kj12 (fun k_ => some k_ = (.slice Ao30 t330.length co30 : Value).ownBlock) (.slice Ao30 t330.length co30) t330 (fun k_ => some k_ = (.slice Ao34 t333.length co34 : Value).ownBlock) (.slice Ao34 t333.length co34) t333 1 t353 t354 t355 w _ ?s1 ?s2 ?s3 A65.out).mono ?_); (case s1 => repeat (first | (with_reducible first | exact HB.out | apply below_alloc | apply pw_below_drewN | apply below_drew1 | refine below_set ?_ GE314.out | refine below_set ?_ GE329.out | refine below_set ?_ GE336.out | refine below_set ?_ GE344.out) | exact HB.out)); (case s2 => exact Kd.R_tight rfl HO_337000.out); (case s3 => exact Kd.R_tight rfl HO_337001.out); rintro e w76 ⟨rfl, hy0, hy1, hb, hkp⟩; refine ⟨_, rfl, ?_⟩; replace HO_330000 := am (Kd.R_mono (ok' := fun k_ => some k_ ≠ (.slice Ao30 t330.length co30 : Value).ownBlock ∧ some k_ ≠ (.slice Ao37 t337.length co37 : Value).ownBlock ∧ some k_ ≠ (.slice Ao69 t346.length co69 : Value).ownBlock) (Kd.R_keptB ((Kd.R_apart' HO_330000.out (Kd.R_typed HO_337001.out) (by decide))) hkp (fun k_ hk_ hs_ => Or.elim hs_ (fun e_ => (hk_.1.1.1) e_) (fun e_ => (hk_.2) e_))) (fun k_ hk_ => ⟨hk_.1.1.1.1, hk_.1.1.1.2, hk_.1.1.2⟩)); replace HO_330001 := am (Kd.R_mono (ok' := fun k_ => some k_ ≠ (.slice Ao34 t333.length co34 : Value).ownBlock ∧ some k_ ≠ (.slice Ao42 t340.length co42 : Value).ownBlock ∧ some k_ ≠ (.slice Ao70 t349.length co70 : Value).ownBlock) (Kd.R_keptB ((Kd.R_apart' HO_330001.out (Kd.R_typed HO_337000.out) (by decide))) hkp (fun k_ hk_ hs_ => Or.elim hs_ (fun e_ => (hk_.2) e_) (fun e_ => (hk_.1.1.1) e_))) (fun k_ hk_ => ⟨hk_.1.1.1.1, hk_.1.1.1.2, hk_.1.1.2⟩)); replace HO_345000 := am (Kd.R_mono (ok' := fun k_ => some k_ ≠ (.slice Ao23 t322.length co23 : Value).ownBlock ∧ some k_ ≠ (.slice Ao30 t330.length co30 : Value).ownBlock ∧ some k_ ≠ (.slice Ao69 t346.length co69 : Value).ownBlock) (Kd.R_keptB ((Kd.R_apart' HO_345000.out (Kd.R_typed HO_337001.out) (by decide))) hkp (fun k_ hk_ hs_ => Or.elim hs_ (fun e_ => (hk_.1.1.2) e_) (fun e_ => (hk_.2) e_))) (fun k_ hk_ => ⟨hk_.1.1.1.1, hk_.1.1.1.2, hk_.1.1.2⟩)); replace HO_345001 := am (Kd.R_mono (ok' := fun k_ => some k_ ≠ (.slice Ao26 t325.length co26 : Value).ownBlock ∧ some k_ ≠ (.slice Ao34 t333.length co34 : Value).ownBlock ∧ some k_ ≠ (.slice Ao70 t349.length co70 : Value).ownBlock) (Kd.R_keptB ((Kd.R_apart' HO_345001.out (Kd.R_typed HO_337000.out) (by decide))) hkp (fun k_ hk_ hs_ => Or.elim hs_ (fun e_ => (hk_.2) e_) (fun e_ => (hk_.1.1.2) e_))) (fun k_ hk_ => ⟨hk_.1.1.1.1, hk_.1.1.1.2, hk_.1.1.2⟩)); replace BK314 := am (blk_kept (zq BK314) hkp (fun hs_ => Or.elim hs_ (fun e_ => (fun e_ => (Kd.R_ne HO_337000.out BK314.out (by decide)) e_) e_) (fun e_ => (fun e_ => (Kd.R_ne HO_337001.out BK314.out (by decide)) e_) e_))); replace BK329 := am (blk_kept (zq BK329) hkp (fun hs_ => Or.elim hs_ (fun e_ => (fun e_ => (Kd.R_ne HO_337000.out BK329.out (by decide)) e_) e_) (fun e_ => (fun e_ => (Kd.R_ne HO_337001.out BK329.out (by decide)) e_) e_))); replace BK336 := am (blk_kept (zq BK336) hkp (fun hs_ => Or.elim hs_ (fun e_ => (fun e_ => (Kd.R_ne HO_337000.out BK336.out (by decide)) e_) e_) (fun e_ => (fun e_ => (Kd.R_ne HO_337001.out BK336.out (by decide)) e_) e_))); replace BK344 := am (blk_kept (zq BK344) hkp (fun hs_ => Or.elim hs_ (fun e_ => (fun e_ => (Kd.R_ne HO_337000.out BK344.out (by decide)) e_) e_) (fun e_ => (fun e_ => (Kd.R_ne HO_337001.out BK344.out (by decide)) e_) e_))); replace HO348 := am (Kd.R_mono (ok' := fun k_ => some k_ ≠ (.slice Ao23 t322.length co23 : Value).ownBlock ∧ some k_ ≠ (.slice Ao30 t330.length co30 : Value).ownBlock ∧ some k_ ≠ (.slice Ao37 t337.length co37 : Value).ownBlock) (Kd.R_keptB ((Kd.R_apart' HO348.out (Kd.R_typed HO_337001.out) (by decide))) hkp (fun k_ hk_ hs_ => Or.elim hs_ (fun e_ => (hk_.1.1.2) e_) (fun e_ => (hk_.2) e_))) (fun k_ hk_ => ⟨hk_.1.1.1.1.2, hk_.1.1.1.2, hk_.1.1.2⟩)); replace HO_337001 := am (Kd.R_reok rfl hy1 (fun k_ e_ => HO_337001.out.1 k_ e_)); replace HO351 := am (Kd.R_mono (ok' := fun k_ => some k_ ≠ (.slice Ao26 t325.length co26 : Value).ownBlock ∧ some k_ ≠ (.slice Ao34 t333.length co34 : Value).ownBlock ∧ some k_ ≠ (.slice Ao42 t340.length co42 : Value).ownBlock) (Kd.R_keptB ((Kd.R_apart' HO351.out (Kd.R_typed HO_337000.out) (by decide))) hkp (fun k_ hk_ hs_ => Or.elim hs_ (fun e_ => (hk_.2) e_) (fun e_ => (hk_.1.1.2) e_))) (fun k_ hk_ => ⟨hk_.1.1.1.1.2, hk_.1.1.1.2, hk_.1.1.2⟩)); replace HO_337000 := am (Kd.R_reok rfl hy0 (fun k_ e_ => HO_337000.out.1 k_ e_)); replace HB := am (hb); (try clear hb hkp hy0 hy1)))
      (try simp only [Act.put, List.setIfInBounds_toArray, List.set_cons_zero, List.set_cons_succ])
      go_cut [69] (fun v69 wc => ∃ (kq : Nat) (x69_65 : Bool), v69 = .bool x69_65 ∧ Aside0 (laws_FnExactExtendLoan.j1 kq a1 a2 t328 x69_65 l0_0 l0_1 t322 t325 t337 t340 = some r) ∧ Aside0 (kq ≤ kj12) ∧ Aside0 (Kd.R (Kd.int .i64) 3 wc w.heap.size (fun k_ => some k_ ≠ ((.slice Ao30 t330.length co30) : Value).ownBlock ∧ some k_ ≠ ((.slice Ao37 t337.length co37) : Value).ownBlock) (.slice Ao23 t322.length co23) t322) ∧ Aside0 (Kd.R k41 41 wc w.heap.size (fun k_ => some k_ ≠ ((.slice Ao34 t333.length co34) : Value).ownBlock ∧ some k_ ≠ ((.slice Ao42 t340.length co42) : Value).ownBlock) (.slice Ao26 t325.length co26) t325) ∧ Aside0 (Kd.R (Kd.int .i64) 3 wc w.heap.size (fun k_ => some k_ ≠ ((.slice Ao23 t322.length co23) : Value).ownBlock ∧ some k_ ≠ ((.slice Ao37 t337.length co37) : Value).ownBlock) (.slice Ao30 t330.length co30) t354) ∧ Aside0 (Kd.R k41 41 wc w.heap.size (fun k_ => some k_ ≠ ((.slice Ao26 t325.length co26) : Value).ownBlock ∧ some k_ ≠ ((.slice Ao42 t340.length co42) : Value).ownBlock) (.slice Ao34 t333.length co34) t355) ∧ Aside0 (Kd.R (Kd.int .i64) 3 wc w.heap.size (fun k_ => some k_ ≠ ((.slice Ao23 t322.length co23) : Value).ownBlock ∧ some k_ ≠ ((.slice Ao30 t330.length co30) : Value).ownBlock) (.slice Ao37 t337.length co37) t337) ∧ Aside0 (Kd.R k41 41 wc w.heap.size (fun k_ => some k_ ≠ ((.slice Ao26 t325.length co26) : Value).ownBlock ∧ some k_ ≠ ((.slice Ao34 t333.length co34) : Value).ownBlock) (.slice Ao42 t340.length co42) t340) ∧ Aside0 (wc.heap[gb314]? = some (.cells #[(.slice A0_0 l0_0.length c0_0), (.slice A0_1 l0_1.length c0_1)] 25 (0, 0))) ∧ Aside0 (wc.heap[gb329]? = some (.cells #[(.slice Ao23 t322.length co23), (.slice Ao26 t325.length co26)] 29 (0, 0))) ∧ Aside0 (wc.heap[gb336]? = some (.cells #[(.slice Ao30 t330.length co30), (.slice Ao34 t333.length co34)] 29 (0, 0))) ∧ Aside0 (wc.heap[gb344]? = some (.cells #[(.slice Ao37 t337.length co37), (.slice Ao42 t340.length co42)] 29 (0, 0))) ∧ Aside0 (Below w.heap.size w wc))
      case first =>
       have H := HC66.out
       clear HC66
       by_cases c77 : t353 < 0
       ·rw [if_pos c77] at H
        have c77b0 : decide (t353 < 0) = true := decide_eq_true c77
        clear c77
        (first | rw [c77b0] | (simp only [i64_w, i32_w]; rw [c77b0]) | skip)
        have H' := am H
        clear H
        go_wp2
        go_meet
        case rel => exact ⟨_, (true), sq, H', ⟨by have := HJ12.out; first | omega | exact Nat.le_refl _⟩, ⟨rm HO_330000⟩, ⟨rm HO_330001⟩, ⟨rm HO_337000⟩, ⟨rm HO_337001⟩, ⟨rm HO_345000⟩, ⟨rm HO_345001⟩, ⟨zq BK314⟩, ⟨zq BK329⟩, ⟨zq BK336⟩, ⟨zq BK344⟩, ⟨bq⟩⟩
       ·rw [if_neg c77] at H
        have c77b0 : decide (t353 < 0) = false := decide_eq_false c77
        clear c77
        (first | rw [c77b0] | (simp only [i64_w, i32_w]; rw [c77b0]) | skip)
        obtain ⟨t356, A78, H⟩ := bindq H
        try dsimp only at H
        by_cases c79 : t356 = true
        ·subst c79
         rw [if_pos rfl] at H
         try dsimp only at H
         have H' := am H
         clear H
         have hnb80 := NB344_314.out
         have hnc80 := NB314_344.out
         have hnb81 := NB344_329.out
         have hnc81 := NB329_344.out
         have hnb82 := NB344_336.out
         have hnc82 := NB336_344.out
         have ⟨hcz83_0, hcz83_1, hfz83_0, hfz83_1⟩ := bc2 BK344
         have hnb84 := NB329_314.out
         have hnc84 := NB314_329.out
         have hnb85 := NB329_336.out
         have hnc85 := NB336_329.out
         have ⟨hcz86_0, hcz86_1, hfz86_0, hfz86_1⟩ := bc2 BK329
         go_wp2_with (first | (go_at_call 11; (with_reducible refine (laws_eqShop.calls kj12 _ _ t337 _ _ t340 _ _ t322 _ _ t325 true _ ?s1 ?s2 ?s3 ?s4 ?s5 ?s6 ?s7 ?s8 A78.out).mono ?_); (case s1 => exact cr HO_345000); (case s2 => exact rq1 HO_345000); (case s3 => exact cr HO_345001); (case s4 => exact rq1 HO_345001); (case s5 => exact cr HO_330000); (case s6 => exact rq1 HO_330000); (case s7 => exact cr HO_330001); (case s8 => exact rq1 HO_330001); rintro e w87 ⟨rfl, hb⟩; replace HO_330000 := rb HO_330000 hb; replace HO_330001 := rb HO_330001 hb; replace HO_337000 := rb HO_337000 hb; replace HO_337001 := rb HO_337001 hb; replace HO_345000 := rb HO_345000 hb; replace HO_345001 := rb HO_345001 hb; replace HO348 := rb HO348 hb; replace HO351 := rb HO351 hb; replace BK314 := zb BK314 hb; replace BK329 := zb BK329 hb; replace BK336 := zb BK336 hb; replace BK344 := zb BK344 hb; replace HB := sb hb; (try clear hb)))
         go_meet
         case rel => exact ⟨_, ((t343 != t328)), sq, H', ⟨by have := HJ12.out; first | omega | exact Nat.le_refl _⟩, ⟨rm HO_330000⟩, ⟨rm HO_330001⟩, ⟨rm HO_337000⟩, ⟨rm HO_337001⟩, ⟨rm HO_345000⟩, ⟨rm HO_345001⟩, ⟨zq BK314⟩, ⟨zq BK329⟩, ⟨zq BK336⟩, ⟨zq BK344⟩, ⟨bq⟩⟩
        ·replace c79 := Bool.eq_false_iff.mpr c79
         subst c79
         rw [if_neg (show ¬ (false = true) by decide)] at H
         try dsimp only at H
         have H' := am H
         clear H
         have hnb88 := NB344_314.out
         have hnc88 := NB314_344.out
         have hnb89 := NB344_329.out
         have hnc89 := NB329_344.out
         have hnb90 := NB344_336.out
         have hnc90 := NB336_344.out
         have ⟨hcz91_0, hcz91_1, hfz91_0, hfz91_1⟩ := bc2 BK344
         have hnb92 := NB329_314.out
         have hnc92 := NB314_329.out
         have hnb93 := NB329_336.out
         have hnc93 := NB336_329.out
         have ⟨hcz94_0, hcz94_1, hfz94_0, hfz94_1⟩ := bc2 BK329
         go_wp2_with (first | (go_at_call 11; (with_reducible refine (laws_eqShop.calls kj12 _ _ t337 _ _ t340 _ _ t322 _ _ t325 false _ ?s1 ?s2 ?s3 ?s4 ?s5 ?s6 ?s7 ?s8 A78.out).mono ?_); (case s1 => exact cr HO_345000); (case s2 => exact rq1 HO_345000); (case s3 => exact cr HO_345001); (case s4 => exact rq1 HO_345001); (case s5 => exact cr HO_330000); (case s6 => exact rq1 HO_330000); (case s7 => exact cr HO_330001); (case s8 => exact rq1 HO_330001); rintro e w95 ⟨rfl, hb⟩; replace HO_330000 := rb HO_330000 hb; replace HO_330001 := rb HO_330001 hb; replace HO_337000 := rb HO_337000 hb; replace HO_337001 := rb HO_337001 hb; replace HO_345000 := rb HO_345000 hb; replace HO_345001 := rb HO_345001 hb; replace HO348 := rb HO348 hb; replace HO351 := rb HO351 hb; replace BK314 := zb BK314 hb; replace BK329 := zb BK329 hb; replace BK336 := zb BK336 hb; replace BK344 := zb BK344 hb; replace HB := sb hb; (try clear hb)))
         go_meet
         case rel => exact ⟨_, (true), sq, H', ⟨by have := HJ12.out; first | omega | exact Nat.le_refl _⟩, ⟨rm HO_330000⟩, ⟨rm HO_330001⟩, ⟨rm HO_337000⟩, ⟨rm HO_337001⟩, ⟨rm HO_345000⟩, ⟨rm HO_345001⟩, ⟨zq BK314⟩, ⟨zq BK329⟩, ⟨zq BK336⟩, ⟨zq BK344⟩, ⟨bq⟩⟩
      case rest =>
       clear HC66
       try clear c5b0
       try clear c44
       try clear c61
       try clear c64
       try clear c77b0
       try clear c79
       try clear hcz15_0 hcz15_1 hfz15_0 hfz15_1
       try clear hcz17_0 hcz17_1 hfz17_0 hfz17_1
       try clear hcz25_0 hcz25_1 hfz25_0 hfz25_1
       try clear hcz27_0 hcz27_1 hfz27_0 hfz27_1
       try clear hcz33_0 hcz33_1 hfz33_0 hfz33_1
       try clear hcz41_0 hcz41_1 hfz41_0 hfz41_1
       try clear hcz48_0 hcz48_1 hfz48_0 hfz48_1
       try clear hcz51_0 hcz51_1 hfz51_0 hfz51_1
       try clear hcz56_0 hcz56_1 hfz56_0 hfz56_1
       try clear hcz59_0 hcz59_1 hfz59_0 hfz59_1
       try clear hcz75_0 hcz75_1 hfz75_0 hfz75_1
       try clear hcz7_0 hcz7_1 hfz7_0 hfz7_1
       try clear hcz83_0 hcz83_1 hfz83_0 hfz83_1
       try clear hcz86_0 hcz86_1 hfz86_0 hfz86_1
       try clear hcz91_0 hcz91_1 hfz91_0 hfz91_1
       try clear hcz94_0 hcz94_1 hfz94_0 hfz94_1
       obtain ⟨kq, x69_65, rfl, HA, HJ65, HO_330000, HO_330001, HO_337000, HO_337001, HO_345000, HO_345001, BK314, BK329, BK336, BK344, HB⟩ := hcut
       have hl337000_65 := (Kd.R_reads' HO_337000.out).1
       rw [hl337000_65] at HO_337000
       (try simp only [hl337000_65])
       (try simp only [hl337000_65] at BK314)
       (try simp only [hl337000_65] at BK329)
       (try simp only [hl337000_65] at BK336)
       (try simp only [hl337000_65] at BK344)
       (try simp only [hl337000_65] at HO_330000)
       (try simp only [hl337000_65] at HO_330001)
       (try simp only [hl337000_65] at HO_337001)
       (try simp only [hl337000_65] at HO_345000)
       (try simp only [hl337000_65] at HO_345001)
       have hl337001_65 := (Kd.R_reads' HO_337001.out).1
       rw [hl337001_65] at HO_337001
       (try simp only [hl337001_65])
       (try simp only [hl337001_65] at BK314)
       (try simp only [hl337001_65] at BK329)
       (try simp only [hl337001_65] at BK336)
       (try simp only [hl337001_65] at BK344)
       (try simp only [hl337001_65] at HO_330000)
       (try simp only [hl337001_65] at HO_330001)
       (try simp only [hl337001_65] at HO_337000)
       (try simp only [hl337001_65] at HO_345000)
       (try simp only [hl337001_65] at HO_345001)
       cases kq with
       | zero => exact absurd HA.out (by simp [laws_FnExactExtendLoan.j1])
       | succ kj65 =>
        have H := HA.out
        clear HA
        simp only [laws_FnExactExtendLoan.j1] at H
        by_cases c96 : x69_65 = true
        ·subst c96
         rw [if_pos rfl] at H
         try dsimp only at H
         obtain rfl := Option.some.inj H
         go_wp2
         go_ret
         exact ⟨eq_, bq⟩
        ·replace c96 := Bool.eq_false_iff.mpr c96
         subst c96
         rw [if_neg (show ¬ (false = true) by decide)] at H
         try dsimp only at H
         obtain ⟨⟨t357, t358, t359⟩, A97, H⟩ := bindq H
         try dsimp only at H
         obtain ⟨t360, A98, H⟩ := bindq H
         try dsimp only at H
         by_cases c99 : t360 < 0
         ·rw [if_pos c99] at H
          have c99b0 : decide (t360 < 0) = true := decide_eq_true c99
          clear c99
          obtain rfl := Option.some.inj H
          have hnb100 := NB344_314.out
          have hnc100 := NB314_344.out
          have hnb101 := NB344_329.out
          have hnc101 := NB329_344.out
          have hnb102 := NB344_336.out
          have hnc102 := NB336_344.out
          have ⟨hcz103_0, hcz103_1, hfz103_0, hfz103_1⟩ := bc2 BK344
          go_wp2_with (first | ((with_reducible refine gate_callee (f := 12) rfl ?_); refine goesQ (some 72) Try.func12 #[.agg #[.slice Ao37 t337.length co37, .slice Ao42 t340.length co42], .int .i64 1] ?_; (with_reducible refine (laws_markShop.calls kj65 (fun k_ => some k_ = (.slice Ao37 t337.length co37 : Value).ownBlock) (.slice Ao37 t337.length co37) t337 (fun k_ => some k_ = (.slice Ao42 t340.length co42 : Value).ownBlock) (.slice Ao42 t340.length co42) t340 1 t357 t358 t359 w _ ?s1 ?s2 ?s3 A97.out).mono ?_); (case s1 => repeat (first | (with_reducible first | exact HB.out | apply below_alloc | apply pw_below_drewN | apply below_drew1 | refine below_set ?_ GE314.out | refine below_set ?_ GE329.out | refine below_set ?_ GE336.out | refine below_set ?_ GE344.out) | exact HB.out)); (case s2 => exact Kd.R_tight rfl HO_345000.out); (case s3 => exact Kd.R_tight rfl HO_345001.out); rintro e w104 ⟨rfl, hy0, hy1, hb, hkp⟩; refine ⟨_, rfl, ?_⟩; replace HO_330000 := am (Kd.R_mono (ok' := fun k_ => some k_ ≠ (.slice Ao30 t354.length co30 : Value).ownBlock ∧ some k_ ≠ (.slice Ao37 t337.length co37 : Value).ownBlock) (Kd.R_keptB ((Kd.R_apart' HO_330000.out (Kd.R_typed HO_345001.out) (by decide))) hkp (fun k_ hk_ hs_ => Or.elim hs_ (fun e_ => (hk_.1.2) e_) (fun e_ => (hk_.2) e_))) (fun k_ hk_ => ⟨hk_.1.1.1, hk_.1.1.2⟩)); replace HO_330001 := am (Kd.R_mono (ok' := fun k_ => some k_ ≠ (.slice Ao34 t355.length co34 : Value).ownBlock ∧ some k_ ≠ (.slice Ao42 t340.length co42 : Value).ownBlock) (Kd.R_keptB ((Kd.R_apart' HO_330001.out (Kd.R_typed HO_345000.out) (by decide))) hkp (fun k_ hk_ hs_ => Or.elim hs_ (fun e_ => (hk_.2) e_) (fun e_ => (hk_.1.2) e_))) (fun k_ hk_ => ⟨hk_.1.1.1, hk_.1.1.2⟩)); replace HO_337000 := am (Kd.R_mono (ok' := fun k_ => some k_ ≠ (.slice Ao23 t322.length co23 : Value).ownBlock ∧ some k_ ≠ (.slice Ao37 t337.length co37 : Value).ownBlock) (Kd.R_keptB ((Kd.R_apart' HO_337000.out (Kd.R_typed HO_345001.out) (by decide))) hkp (fun k_ hk_ hs_ => Or.elim hs_ (fun e_ => (hk_.1.2) e_) (fun e_ => (hk_.2) e_))) (fun k_ hk_ => ⟨hk_.1.1.1, hk_.1.1.2⟩)); replace HO_337001 := am (Kd.R_mono (ok' := fun k_ => some k_ ≠ (.slice Ao26 t325.length co26 : Value).ownBlock ∧ some k_ ≠ (.slice Ao42 t340.length co42 : Value).ownBlock) (Kd.R_keptB ((Kd.R_apart' HO_337001.out (Kd.R_typed HO_345000.out) (by decide))) hkp (fun k_ hk_ hs_ => Or.elim hs_ (fun e_ => (hk_.2) e_) (fun e_ => (hk_.1.2) e_))) (fun k_ hk_ => ⟨hk_.1.1.1, hk_.1.1.2⟩)); replace BK314 := am (blk_kept (zq BK314) hkp (fun hs_ => Or.elim hs_ (fun e_ => (fun e_ => (Kd.R_ne HO_345000.out BK314.out (by decide)) e_) e_) (fun e_ => (fun e_ => (Kd.R_ne HO_345001.out BK314.out (by decide)) e_) e_))); replace BK329 := am (blk_kept (zq BK329) hkp (fun hs_ => Or.elim hs_ (fun e_ => (fun e_ => (Kd.R_ne HO_345000.out BK329.out (by decide)) e_) e_) (fun e_ => (fun e_ => (Kd.R_ne HO_345001.out BK329.out (by decide)) e_) e_))); replace BK336 := am (blk_kept (zq BK336) hkp (fun hs_ => Or.elim hs_ (fun e_ => (fun e_ => (Kd.R_ne HO_345000.out BK336.out (by decide)) e_) e_) (fun e_ => (fun e_ => (Kd.R_ne HO_345001.out BK336.out (by decide)) e_) e_))); replace BK344 := am (blk_kept (zq BK344) hkp (fun hs_ => Or.elim hs_ (fun e_ => (fun e_ => (Kd.R_ne HO_345000.out BK344.out (by decide)) e_) e_) (fun e_ => (fun e_ => (Kd.R_ne HO_345001.out BK344.out (by decide)) e_) e_))); replace HO_345000 := am (Kd.R_reok rfl hy0 (fun k_ e_ => HO_345000.out.1 k_ e_)); replace HO_345001 := am (Kd.R_reok rfl hy1 (fun k_ e_ => HO_345001.out.1 k_ e_)); replace HB := am (hb); (try clear hb hkp hy0 hy1); have ⟨hcz105_0, hcz105_1, hfz105_0, hfz105_1⟩ := bc2 BK344) | ((with_reducible refine gate_callee (f := 13) rfl ?_); refine goesL_ (some 75) rfl rfl Try.func13 (by kernel_rfl) rfl #[.agg #[.slice Ao37 t358.length co37, .slice Ao42 t359.length co42], .int .i64 1] rfl (by (try simp only [List.map_toArray, List.map_cons, List.map_nil]); first | done | (rw [show t358.length = t337.length from (Kd.R_reads' HO_345000.out).1.symm, show t359.length = t340.length from (Kd.R_reads' HO_345001.out).1.symm] <;> rfl) | rfl | (simp only [List.length_drop, List.length_take]; rfl)) ?_; (with_reducible refine (laws_heldShop.calls kj65 _ _ t358 _ _ t359 1 t360 _ ?s1 ?s2 ?s3 ?s4 A98.out).mono ?_); (case s1 => exact cr HO_345000); (case s2 => rw [show t358.length = t337.length from (Kd.R_reads' HO_345000.out).1.symm]; exact rq1 HO_345000); (case s3 => exact cr HO_345001); (case s4 => rw [show t359.length = t340.length from (Kd.R_reads' HO_345001.out).1.symm]; exact rq1 HO_345001); rintro e w106 ⟨rfl, hb⟩; refine ⟨_, rfl, ?_⟩; replace HO_330000 := rb HO_330000 hb; replace HO_330001 := rb HO_330001 hb; replace HO_337000 := rb HO_337000 hb; replace HO_337001 := rb HO_337001 hb; replace HO_345000 := rb HO_345000 hb; replace HO_345001 := rb HO_345001 hb; replace BK314 := zb BK314 hb; replace BK329 := zb BK329 hb; replace BK336 := zb BK336 hb; replace BK344 := zb BK344 hb; replace HB := sb hb; (try clear hb)))
          go_ret
          exact ⟨eq_, bq⟩
         ·rw [if_neg c99] at H
          have c99b0 : decide (t360 < 0) = false := decide_eq_false c99
          clear c99
          by_cases c107 : t360 = t357
          ·rw [if_pos c107] at H
           have c107b0 : (t360 == t357) = true := beq_iff_eq.mpr c107
           have c107b1 : (t360 != t357) = false := bne_eq_false_iff_eq.mpr c107
           clear c107
           obtain ⟨⟨t361, t364⟩, A108, H⟩ := bindq H
           try dsimp only at H
           obtain ⟨⟨t367, t370, t373⟩, A109, H⟩ := bindq H
           try dsimp only at H
           have HC110 := am H
           clear H
           have hnb111 := NB344_314.out
           have hnc111 := NB314_344.out
           have hnb112 := NB344_329.out
           have hnc112 := NB329_344.out
           have hnb113 := NB344_336.out
           have hnc113 := NB336_344.out
           have ⟨hcz114_0, hcz114_1, hfz114_0, hfz114_1⟩ := bc2 BK344
           go_upto_region 25 with (first | ((with_reducible refine gate_callee (f := 12) rfl ?_); refine goesQ (some 72) Try.func12 #[.agg #[.slice Ao37 t337.length co37, .slice Ao42 t340.length co42], .int .i64 1] ?_; (with_reducible refine (laws_markShop.calls kj65 (fun k_ => some k_ = (.slice Ao37 t337.length co37 : Value).ownBlock) (.slice Ao37 t337.length co37) t337 (fun k_ => some k_ = (.slice Ao42 t340.length co42 : Value).ownBlock) (.slice Ao42 t340.length co42) t340 1 t357 t358 t359 w _ ?s1 ?s2 ?s3 A97.out).mono ?_); (case s1 => repeat (first | (with_reducible first | exact HB.out | apply below_alloc | apply pw_below_drewN | apply below_drew1 | refine below_set ?_ GE314.out | refine below_set ?_ GE329.out | refine below_set ?_ GE336.out | refine below_set ?_ GE344.out) | exact HB.out)); (case s2 => exact Kd.R_tight rfl HO_345000.out); (case s3 => exact Kd.R_tight rfl HO_345001.out); rintro e w115 ⟨rfl, hy0, hy1, hb, hkp⟩; refine ⟨_, rfl, ?_⟩; replace HO_330000 := am (Kd.R_mono (ok' := fun k_ => some k_ ≠ (.slice Ao30 t354.length co30 : Value).ownBlock ∧ some k_ ≠ (.slice Ao37 t337.length co37 : Value).ownBlock) (Kd.R_keptB ((Kd.R_apart' HO_330000.out (Kd.R_typed HO_345001.out) (by decide))) hkp (fun k_ hk_ hs_ => Or.elim hs_ (fun e_ => (hk_.1.2) e_) (fun e_ => (hk_.2) e_))) (fun k_ hk_ => ⟨hk_.1.1.1, hk_.1.1.2⟩)); replace HO_330001 := am (Kd.R_mono (ok' := fun k_ => some k_ ≠ (.slice Ao34 t355.length co34 : Value).ownBlock ∧ some k_ ≠ (.slice Ao42 t340.length co42 : Value).ownBlock) (Kd.R_keptB ((Kd.R_apart' HO_330001.out (Kd.R_typed HO_345000.out) (by decide))) hkp (fun k_ hk_ hs_ => Or.elim hs_ (fun e_ => (hk_.2) e_) (fun e_ => (hk_.1.2) e_))) (fun k_ hk_ => ⟨hk_.1.1.1, hk_.1.1.2⟩)); replace HO_337000 := am (Kd.R_mono (ok' := fun k_ => some k_ ≠ (.slice Ao23 t322.length co23 : Value).ownBlock ∧ some k_ ≠ (.slice Ao37 t337.length co37 : Value).ownBlock) (Kd.R_keptB ((Kd.R_apart' HO_337000.out (Kd.R_typed HO_345001.out) (by decide))) hkp (fun k_ hk_ hs_ => Or.elim hs_ (fun e_ => (hk_.1.2) e_) (fun e_ => (hk_.2) e_))) (fun k_ hk_ => ⟨hk_.1.1.1, hk_.1.1.2⟩)); replace HO_337001 := am (Kd.R_mono (ok' := fun k_ => some k_ ≠ (.slice Ao26 t325.length co26 : Value).ownBlock ∧ some k_ ≠ (.slice Ao42 t340.length co42 : Value).ownBlock) (Kd.R_keptB ((Kd.R_apart' HO_337001.out (Kd.R_typed HO_345000.out) (by decide))) hkp (fun k_ hk_ hs_ => Or.elim hs_ (fun e_ => (hk_.2) e_) (fun e_ => (hk_.1.2) e_))) (fun k_ hk_ => ⟨hk_.1.1.1, hk_.1.1.2⟩)); replace BK314 := am (blk_kept (zq BK314) hkp (fun hs_ => Or.elim hs_ (fun e_ => (fun e_ => (Kd.R_ne HO_345000.out BK314.out (by decide)) e_) e_) (fun e_ => (fun e_ => (Kd.R_ne HO_345001.out BK314.out (by decide)) e_) e_))); replace BK329 := am (blk_kept (zq BK329) hkp (fun hs_ => Or.elim hs_ (fun e_ => (fun e_ => (Kd.R_ne HO_345000.out BK329.out (by decide)) e_) e_) (fun e_ => (fun e_ => (Kd.R_ne HO_345001.out BK329.out (by decide)) e_) e_))); replace BK336 := am (blk_kept (zq BK336) hkp (fun hs_ => Or.elim hs_ (fun e_ => (fun e_ => (Kd.R_ne HO_345000.out BK336.out (by decide)) e_) e_) (fun e_ => (fun e_ => (Kd.R_ne HO_345001.out BK336.out (by decide)) e_) e_))); replace BK344 := am (blk_kept (zq BK344) hkp (fun hs_ => Or.elim hs_ (fun e_ => (fun e_ => (Kd.R_ne HO_345000.out BK344.out (by decide)) e_) e_) (fun e_ => (fun e_ => (Kd.R_ne HO_345001.out BK344.out (by decide)) e_) e_))); replace HO_345000 := am (Kd.R_reok rfl hy0 (fun k_ e_ => HO_345000.out.1 k_ e_)); replace HO_345001 := am (Kd.R_reok rfl hy1 (fun k_ e_ => HO_345001.out.1 k_ e_)); replace HB := am (hb); (try clear hb hkp hy0 hy1); have ⟨hcz116_0, hcz116_1, hfz116_0, hfz116_1⟩ := bc2 BK344) | ((with_reducible refine gate_callee (f := 13) rfl ?_); refine goesL_ (some 75) rfl rfl Try.func13 (by kernel_rfl) rfl #[.agg #[.slice Ao37 t358.length co37, .slice Ao42 t359.length co42], .int .i64 1] rfl (by (try simp only [List.map_toArray, List.map_cons, List.map_nil]); first | done | (rw [show t358.length = t337.length from (Kd.R_reads' HO_345000.out).1.symm, show t359.length = t340.length from (Kd.R_reads' HO_345001.out).1.symm] <;> rfl) | rfl | (simp only [List.length_drop, List.length_take]; rfl)) ?_; (with_reducible refine (laws_heldShop.calls kj65 _ _ t358 _ _ t359 1 t360 _ ?s1 ?s2 ?s3 ?s4 A98.out).mono ?_); (case s1 => exact cr HO_345000); (case s2 => rw [show t358.length = t337.length from (Kd.R_reads' HO_345000.out).1.symm]; exact rq1 HO_345000); (case s3 => exact cr HO_345001); (case s4 => rw [show t359.length = t340.length from (Kd.R_reads' HO_345001.out).1.symm]; exact rq1 HO_345001); rintro e w117 ⟨rfl, hb⟩; refine ⟨_, rfl, ?_⟩; replace HO_330000 := rb HO_330000 hb; replace HO_330001 := rb HO_330001 hb; replace HO_337000 := rb HO_337000 hb; replace HO_337001 := rb HO_337001 hb; replace HO_345000 := rb HO_345000 hb; replace HO_345001 := rb HO_345001 hb; replace BK314 := zb BK314 hb; replace BK329 := zb BK329 hb; replace BK336 := zb BK336 hb; replace BK344 := zb BK344 hb; replace HB := sb hb; (try clear hb); have hnb118 := NB314_329.out; have hnc118 := NB329_314.out; have hnb119 := NB314_336.out; have hnc119 := NB336_314.out; have ⟨hcz120_0, hcz120_1, hfz120_0, hfz120_1⟩ := bc2 BK314) | ((with_reducible refine gate_callee (f := 9) rfl ?_); refine goesQ (some 83) Try.func9 #[.agg #[.slice A0_0 l0_0.length c0_0, .slice A0_1 l0_1.length c0_1]] ?_; (with_reducible refine (laws_toShop.calls kj65 _ _ l0_0 _ _ l0_1 t361 t364 _ ?s1 ?s2 ?s3 ?s4 A108.out).mono ?_); (case s1 => exact cq (Kd.C_below HR0_0.out HB.out)); (case s2 => exact HC0_0.out); (case s3 => exact cq (Kd.C_below HR0_1.out HB.out)); (case s4 => exact HC0_1.out); rintro e w121 ⟨v362, v365, rfl, ho0, ho1, hb⟩; refine ⟨_, rfl, ?_⟩; have HO363 := rl (Kd.R_new' (Kd.R_new' (Kd.R_new' ho0 (lw HO_330000)) (lw HO_337000)) (lw HO_345000)); replace HO_330000 := am (Kd.R_elder' (rq HO_330000) (Kd.R_base ho0) hb); replace HO_337000 := am (Kd.R_elder' (rq HO_337000) (Kd.R_base ho0) hb); replace HO_345000 := am (Kd.R_elder' (rq HO_345000) (Kd.R_base ho0) hb); have HO366 := rl (Kd.R_new' (Kd.R_new' (Kd.R_new' ho1 (lw HO_330001)) (lw HO_337001)) (lw HO_345001)); replace HO_330001 := am (Kd.R_elder' (rq HO_330001) (Kd.R_base ho1) hb); replace HO_337001 := am (Kd.R_elder' (rq HO_337001) (Kd.R_base ho1) hb); replace HO_345001 := am (Kd.R_elder' (rq HO_345001) (Kd.R_base ho1) hb); replace BK314 := zb BK314 hb; replace BK329 := zb BK329 hb; replace BK336 := zb BK336 hb; replace BK344 := zb BK344 hb; replace HB := sb hb; (try clear hb ho0 ho1); obtain ⟨Ao122, co122, eo122⟩ := Kd.R_slice HO363.out; subst eo122; obtain ⟨Ao123, co123, eo123⟩ := Kd.R_slice HO366.out; subst eo123) | ((with_reducible refine gate_callee (f := 15) rfl ?_); refine goesQ (some 86) Try.func15 #[.agg #[.slice Ao122 t361.length co122, .slice Ao123 t364.length co123], .int .i64 a1, .int .i64 a2] ?_; (with_reducible refine (impl_ExtendLoan.calls kj65 _ _ t361 _ _ t364 a1 a2 t367 t370 t373 _ ?s1 ?s2 ?s3 ?s4 A109.out).mono ?_); (case s1 => exact cr HO363); (case s2 => exact rq1 HO363); (case s3 => exact cr HO366); (case s4 => exact rq1 HO366); rintro e w124 ⟨v368, v371, rfl, ho0, ho1, hb⟩; refine ⟨_, rfl, ?_⟩; have HO369 := rl (Kd.R_new' (Kd.R_new' (Kd.R_new' (Kd.R_new' ho0 (lw HO_330000)) (lw HO_337000)) (lw HO_345000)) (lw HO363)); replace HO_330000 := am (Kd.R_elder' (rq HO_330000) (Kd.R_base ho0) hb); replace HO_337000 := am (Kd.R_elder' (rq HO_337000) (Kd.R_base ho0) hb); replace HO_345000 := am (Kd.R_elder' (rq HO_345000) (Kd.R_base ho0) hb); have HO372 := rl (Kd.R_new' (Kd.R_new' (Kd.R_new' (Kd.R_new' ho1 (lw HO_330001)) (lw HO_337001)) (lw HO_345001)) (lw HO366)); replace HO_330001 := am (Kd.R_elder' (rq HO_330001) (Kd.R_base ho1) hb); replace HO_337001 := am (Kd.R_elder' (rq HO_337001) (Kd.R_base ho1) hb); replace HO_345001 := am (Kd.R_elder' (rq HO_345001) (Kd.R_base ho1) hb); replace BK314 := zb BK314 hb; replace BK329 := zb BK329 hb; replace BK336 := zb BK336 hb; replace BK344 := zb BK344 hb; replace HB := sb hb; (try clear hb ho0 ho1)) | ((with_reducible refine gate_dst (N := 16) rfl ?_); refine box_event ?hg (N := 16) ?hd (cs := #[.slice none 0 0, .slice none 0 0]) (t := 29) ?hr ?_; (case hd => rfl); (case hg => rfl); (case hr => first | (go_simp; done) | (go_simp; rfl)); intro gb374 hg w125 hbox hb; replace HO_330000 := rb HO_330000 hb; replace HO_330001 := rb HO_330001 hb; replace HO_337000 := rb HO_337000 hb; replace HO_337001 := rb HO_337001 hb; replace HO_345000 := rb HO_345000 hb; replace HO_345001 := rb HO_345001 hb; replace HO369 := rb HO369 hb; replace HO372 := rb HO372 hb; have BK374 := am (hbox); have GW374 := am (gq hg); have GE374 := am (gq hg); replace HB := sb hb; have NB314_374 := nl hg BK314; have NB374_314 := ng hg BK314; replace BK314 := zb BK314 hb; have NB329_374 := nl hg BK329; have NB374_329 := ng hg BK329; replace BK329 := zb BK329 hb; have NB336_374 := nl hg BK336; have NB374_336 := ng hg BK336; replace BK336 := zb BK336 hb; have NB344_374 := nl hg BK344; have NB374_344 := ng hg BK344; replace BK344 := zb BK344 hb; clear hb hbox hg; obtain ⟨Ao126, co126, eo126⟩ := Kd.R_slice HO369.out; subst eo126; have hnb127 := NB374_314.out; have hnc127 := NB314_374.out; have hnb128 := NB374_329.out; have hnc128 := NB329_374.out; have hnb129 := NB374_336.out; have hnc129 := NB336_374.out; have hnb130 := NB374_344.out; have hnc130 := NB344_374.out; have ⟨hcz131_0, hcz131_1, hfz131_0, hfz131_1⟩ := bc2 BK374; obtain ⟨Ao132, co132, eo132⟩ := Kd.R_slice HO372.out; subst eo132))
           (try simp only [Act.put, List.setIfInBounds_toArray, List.set_cons_zero, List.set_cons_succ])
           go_cut [97] (fun v97 wc => ∃ (kq : Nat) (x97_109 : Bool), v97 = .bool x97_109 ∧ Aside0 (laws_FnExactExtendLoan.j2 kq t357 x97_109 t358 t359 = some r) ∧ Aside0 (kq ≤ kj65) ∧ Aside0 (Kd.R (Kd.int .i64) 3 wc w.heap.size (fun k_ => some k_ ≠ ((.slice Ao30 t354.length co30) : Value).ownBlock ∧ some k_ ≠ ((.slice Ao37 t337.length co37) : Value).ownBlock ∧ some k_ ≠ ((.slice Ao126 t367.length co126) : Value).ownBlock) (.slice Ao23 t322.length co23) t322) ∧ Aside0 (Kd.R k41 41 wc w.heap.size (fun k_ => some k_ ≠ ((.slice Ao34 t355.length co34) : Value).ownBlock ∧ some k_ ≠ ((.slice Ao42 t340.length co42) : Value).ownBlock ∧ some k_ ≠ ((.slice Ao132 t370.length co132) : Value).ownBlock) (.slice Ao26 t325.length co26) t325) ∧ Aside0 (Kd.R (Kd.int .i64) 3 wc w.heap.size (fun k_ => some k_ ≠ ((.slice Ao23 t322.length co23) : Value).ownBlock ∧ some k_ ≠ ((.slice Ao37 t337.length co37) : Value).ownBlock ∧ some k_ ≠ ((.slice Ao126 t367.length co126) : Value).ownBlock) (.slice Ao30 t354.length co30) t354) ∧ Aside0 (Kd.R k41 41 wc w.heap.size (fun k_ => some k_ ≠ ((.slice Ao26 t325.length co26) : Value).ownBlock ∧ some k_ ≠ ((.slice Ao42 t340.length co42) : Value).ownBlock ∧ some k_ ≠ ((.slice Ao132 t370.length co132) : Value).ownBlock) (.slice Ao34 t355.length co34) t355) ∧ Aside0 (Kd.R (Kd.int .i64) 3 wc w.heap.size (fun k_ => some k_ ≠ ((.slice Ao23 t322.length co23) : Value).ownBlock ∧ some k_ ≠ ((.slice Ao30 t354.length co30) : Value).ownBlock ∧ some k_ ≠ ((.slice Ao126 t367.length co126) : Value).ownBlock) (.slice Ao37 t337.length co37) t358) ∧ Aside0 (Kd.R k41 41 wc w.heap.size (fun k_ => some k_ ≠ ((.slice Ao26 t325.length co26) : Value).ownBlock ∧ some k_ ≠ ((.slice Ao34 t355.length co34) : Value).ownBlock ∧ some k_ ≠ ((.slice Ao132 t370.length co132) : Value).ownBlock) (.slice Ao42 t340.length co42) t359) ∧ Aside0 (Kd.R (Kd.int .i64) 3 wc w.heap.size (fun k_ => some k_ ≠ ((.slice Ao23 t322.length co23) : Value).ownBlock ∧ some k_ ≠ ((.slice Ao30 t354.length co30) : Value).ownBlock ∧ some k_ ≠ ((.slice Ao37 t337.length co37) : Value).ownBlock) (.slice Ao126 t367.length co126) t367) ∧ Aside0 (Kd.R k41 41 wc w.heap.size (fun k_ => some k_ ≠ ((.slice Ao26 t325.length co26) : Value).ownBlock ∧ some k_ ≠ ((.slice Ao34 t355.length co34) : Value).ownBlock ∧ some k_ ≠ ((.slice Ao42 t340.length co42) : Value).ownBlock) (.slice Ao132 t370.length co132) t370) ∧ Aside0 (wc.heap[gb314]? = some (.cells #[(.slice A0_0 l0_0.length c0_0), (.slice A0_1 l0_1.length c0_1)] 25 (0, 0))) ∧ Aside0 (wc.heap[gb329]? = some (.cells #[(.slice Ao23 t322.length co23), (.slice Ao26 t325.length co26)] 29 (0, 0))) ∧ Aside0 (wc.heap[gb336]? = some (.cells #[(.slice Ao30 t354.length co30), (.slice Ao34 t355.length co34)] 29 (0, 0))) ∧ Aside0 (wc.heap[gb344]? = some (.cells #[(.slice Ao37 t337.length co37), (.slice Ao42 t340.length co42)] 29 (0, 0))) ∧ Aside0 (wc.heap[gb374]? = some (.cells #[(.slice Ao126 t367.length co126), (.slice Ao132 t370.length co132)] 29 (0, 0))) ∧ Aside0 (Below w.heap.size w wc))
           case first =>
            have H := HC110.out
            clear HC110
            obtain ⟨t375, A133, H⟩ := bindq H
            try dsimp only at H
            by_cases c134 : t375 = true
            ·subst c134
             rw [if_pos rfl] at H
             try dsimp only at H
             have H' := am H
             clear H
             have hnb135 := NB374_314.out
             have hnc135 := NB314_374.out
             have hnb136 := NB374_329.out
             have hnc136 := NB329_374.out
             have hnb137 := NB374_336.out
             have hnc137 := NB336_374.out
             have hnb138 := NB374_344.out
             have hnc138 := NB344_374.out
             have ⟨hcz139_0, hcz139_1, hfz139_0, hfz139_1⟩ := bc2 BK374
             have hnb140 := NB329_314.out
             have hnc140 := NB314_329.out
             have hnb141 := NB329_336.out
             have hnc141 := NB336_329.out
             have hnb142 := NB329_344.out
             have hnc142 := NB344_329.out
             have ⟨hcz143_0, hcz143_1, hfz143_0, hfz143_1⟩ := bc2 BK329
             go_wp2_with (first | ((with_reducible refine gate_callee (f := 11) rfl ?_); refine goesQ (some 91) Try.func11 #[.agg #[.slice Ao126 t367.length co126, .slice Ao132 t370.length co132], .agg #[.slice Ao23 t322.length co23, .slice Ao26 t325.length co26]] ?_; (with_reducible refine (laws_eqShop.calls kj65 _ _ t367 _ _ t370 _ _ t322 _ _ t325 true _ ?s1 ?s2 ?s3 ?s4 ?s5 ?s6 ?s7 ?s8 A133.out).mono ?_); (case s1 => exact cf HO369 BK374); (case s2 => exact rq1 HO369); (case s3 => exact cf HO372 BK374); (case s4 => exact rq1 HO372); (case s5 => exact cf HO_330000 BK374); (case s6 => exact rq1 HO_330000); (case s7 => exact cf HO_330001 BK374); (case s8 => exact rq1 HO_330001); rintro e w144 ⟨rfl, hb⟩; refine ⟨_, rfl, ?_⟩; replace HO_330000 := am (Kd.R_below (fq HO_330000 BK374) hb); replace HO_330001 := am (Kd.R_below (fq HO_330001 BK374) hb); replace HO_337000 := am (Kd.R_below (fq HO_337000 BK374) hb); replace HO_337001 := am (Kd.R_below (fq HO_337001 BK374) hb); replace HO_345000 := am (Kd.R_below (fq HO_345000 BK374) hb); replace HO_345001 := am (Kd.R_below (fq HO_345001 BK374) hb); replace HO369 := am (Kd.R_below (fq HO369 BK374) hb); replace HO372 := am (Kd.R_below (fq HO372 BK374) hb); replace BK314 := am (blk_below (g := gb314) (o := .cells #[.slice A0_0 l0_0.length c0_0, .slice A0_1 l0_1.length c0_1] 25 (0, 0)) (zp BK314) hb); replace BK329 := am (blk_below (g := gb329) (o := .cells #[.slice Ao23 t322.length co23, .slice Ao26 t325.length co26] 29 (0, 0)) (zp BK329) hb); replace BK336 := am (blk_below (g := gb336) (o := .cells #[.slice Ao30 t354.length co30, .slice Ao34 t355.length co34] 29 (0, 0)) (zp BK336) hb); replace BK344 := am (blk_below (g := gb344) (o := .cells #[.slice Ao37 t337.length co37, .slice Ao42 t340.length co42] 29 (0, 0)) (zp BK344) hb); replace BK374 := am (blk_below (g := gb374) (o := .cells #[.slice Ao126 t367.length co126, .slice Ao132 t370.length co132] 29 (0, 0)) (zp BK374) hb); replace HB := sb hb; (try clear hb)))
             go_meet
             case rel => exact ⟨_, ((t373 != t328)), sq, H', ⟨by have := HJ12.out; have := HJ65.out; first | omega | exact Nat.le_refl _⟩, ⟨by (try simp only [hl337000_65]); (try simp only [hl337001_65]); (with_reducible repeat (first | apply Kd.R_alloc | apply Kd.R_drewN | apply Kd.R_drew)); exact Kd.R_mono HO_330000.out (fun _ hk => ⟨hk.1.1.1, ⟨hk.1.1.2, hk.2⟩⟩)⟩, ⟨by (try simp only [hl337000_65]); (try simp only [hl337001_65]); (with_reducible repeat (first | apply Kd.R_alloc | apply Kd.R_drewN | apply Kd.R_drew)); exact Kd.R_mono HO_330001.out (fun _ hk => ⟨hk.1.1.1, ⟨hk.1.1.2, hk.2⟩⟩)⟩, ⟨by (try simp only [hl337000_65]); (try simp only [hl337001_65]); (with_reducible repeat (first | apply Kd.R_alloc | apply Kd.R_drewN | apply Kd.R_drew)); exact Kd.R_mono HO_337000.out (fun _ hk => ⟨hk.1.1.1, ⟨hk.1.1.2, hk.2⟩⟩)⟩, ⟨by (try simp only [hl337000_65]); (try simp only [hl337001_65]); (with_reducible repeat (first | apply Kd.R_alloc | apply Kd.R_drewN | apply Kd.R_drew)); exact Kd.R_mono HO_337001.out (fun _ hk => ⟨hk.1.1.1, ⟨hk.1.1.2, hk.2⟩⟩)⟩, ⟨by (try simp only [hl337000_65]); (try simp only [hl337001_65]); (with_reducible repeat (first | apply Kd.R_alloc | apply Kd.R_drewN | apply Kd.R_drew)); exact Kd.R_mono HO_345000.out (fun _ hk => ⟨hk.1.1.1, ⟨hk.1.1.2, hk.2⟩⟩)⟩, ⟨by (try simp only [hl337000_65]); (try simp only [hl337001_65]); (with_reducible repeat (first | apply Kd.R_alloc | apply Kd.R_drewN | apply Kd.R_drew)); exact Kd.R_mono HO_345001.out (fun _ hk => ⟨hk.1.1.1, ⟨hk.1.1.2, hk.2⟩⟩)⟩, ⟨by (try simp only [hl337000_65]); (try simp only [hl337001_65]); (with_reducible repeat (first | apply Kd.R_alloc | apply Kd.R_drewN | apply Kd.R_drew)); exact Kd.R_mono HO369.out (fun _ hk => ⟨hk.1.1.1.2, ⟨hk.1.1.2, hk.1.2⟩⟩)⟩, ⟨by (try simp only [hl337000_65]); (try simp only [hl337001_65]); (with_reducible repeat (first | apply Kd.R_alloc | apply Kd.R_drewN | apply Kd.R_drew)); exact Kd.R_mono HO372.out (fun _ hk => ⟨hk.1.1.1.2, ⟨hk.1.1.2, hk.1.2⟩⟩)⟩, ⟨by (try simp only [hl337000_65]); (try simp only [hl337001_65]); (with_reducible repeat (first | refine blk_drewN ?_ _ | refine blk_drew ?_ | refine blk_alloc ?_ _)); exact BK314.out⟩, ⟨by (try simp only [hl337000_65]); (try simp only [hl337001_65]); (with_reducible repeat (first | refine blk_drewN ?_ _ | refine blk_drew ?_ | refine blk_alloc ?_ _)); exact BK329.out⟩, ⟨by (try simp only [hl337000_65]); (try simp only [hl337001_65]); (with_reducible repeat (first | refine blk_drewN ?_ _ | refine blk_drew ?_ | refine blk_alloc ?_ _)); exact BK336.out⟩, ⟨by (try simp only [hl337000_65]); (try simp only [hl337001_65]); (with_reducible repeat (first | refine blk_drewN ?_ _ | refine blk_drew ?_ | refine blk_alloc ?_ _)); exact BK344.out⟩, ⟨by (try simp only [hl337000_65]); (try simp only [hl337001_65]); (with_reducible repeat (first | refine blk_drewN ?_ _ | refine blk_drew ?_ | refine blk_alloc ?_ _)); exact BK374.out⟩, ⟨bq⟩⟩
            ·replace c134 := Bool.eq_false_iff.mpr c134
             subst c134
             rw [if_neg (show ¬ (false = true) by decide)] at H
             try dsimp only at H
             have H' := am H
             clear H
             have hnb145 := NB374_314.out
             have hnc145 := NB314_374.out
             have hnb146 := NB374_329.out
             have hnc146 := NB329_374.out
             have hnb147 := NB374_336.out
             have hnc147 := NB336_374.out
             have hnb148 := NB374_344.out
             have hnc148 := NB344_374.out
             have ⟨hcz149_0, hcz149_1, hfz149_0, hfz149_1⟩ := bc2 BK374
             have hnb150 := NB329_314.out
             have hnc150 := NB314_329.out
             have hnb151 := NB329_336.out
             have hnc151 := NB336_329.out
             have hnb152 := NB329_344.out
             have hnc152 := NB344_329.out
             have ⟨hcz153_0, hcz153_1, hfz153_0, hfz153_1⟩ := bc2 BK329
             go_wp2_with (first | ((with_reducible refine gate_callee (f := 11) rfl ?_); refine goesQ (some 91) Try.func11 #[.agg #[.slice Ao126 t367.length co126, .slice Ao132 t370.length co132], .agg #[.slice Ao23 t322.length co23, .slice Ao26 t325.length co26]] ?_; (with_reducible refine (laws_eqShop.calls kj65 _ _ t367 _ _ t370 _ _ t322 _ _ t325 false _ ?s1 ?s2 ?s3 ?s4 ?s5 ?s6 ?s7 ?s8 A133.out).mono ?_); (case s1 => exact cf HO369 BK374); (case s2 => exact rq1 HO369); (case s3 => exact cf HO372 BK374); (case s4 => exact rq1 HO372); (case s5 => exact cf HO_330000 BK374); (case s6 => exact rq1 HO_330000); (case s7 => exact cf HO_330001 BK374); (case s8 => exact rq1 HO_330001); rintro e w154 ⟨rfl, hb⟩; refine ⟨_, rfl, ?_⟩; replace HO_330000 := am (Kd.R_below (fq HO_330000 BK374) hb); replace HO_330001 := am (Kd.R_below (fq HO_330001 BK374) hb); replace HO_337000 := am (Kd.R_below (fq HO_337000 BK374) hb); replace HO_337001 := am (Kd.R_below (fq HO_337001 BK374) hb); replace HO_345000 := am (Kd.R_below (fq HO_345000 BK374) hb); replace HO_345001 := am (Kd.R_below (fq HO_345001 BK374) hb); replace HO369 := am (Kd.R_below (fq HO369 BK374) hb); replace HO372 := am (Kd.R_below (fq HO372 BK374) hb); replace BK314 := am (blk_below (g := gb314) (o := .cells #[.slice A0_0 l0_0.length c0_0, .slice A0_1 l0_1.length c0_1] 25 (0, 0)) (zp BK314) hb); replace BK329 := am (blk_below (g := gb329) (o := .cells #[.slice Ao23 t322.length co23, .slice Ao26 t325.length co26] 29 (0, 0)) (zp BK329) hb); replace BK336 := am (blk_below (g := gb336) (o := .cells #[.slice Ao30 t354.length co30, .slice Ao34 t355.length co34] 29 (0, 0)) (zp BK336) hb); replace BK344 := am (blk_below (g := gb344) (o := .cells #[.slice Ao37 t337.length co37, .slice Ao42 t340.length co42] 29 (0, 0)) (zp BK344) hb); replace BK374 := am (blk_below (g := gb374) (o := .cells #[.slice Ao126 t367.length co126, .slice Ao132 t370.length co132] 29 (0, 0)) (zp BK374) hb); replace HB := sb hb; (try clear hb)))
             go_meet
             case rel => exact ⟨_, (true), sq, H', ⟨by have := HJ12.out; have := HJ65.out; first | omega | exact Nat.le_refl _⟩, ⟨by (try simp only [hl337000_65]); (try simp only [hl337001_65]); (with_reducible repeat (first | apply Kd.R_alloc | apply Kd.R_drewN | apply Kd.R_drew)); exact Kd.R_mono HO_330000.out (fun _ hk => ⟨hk.1.1.1, ⟨hk.1.1.2, hk.2⟩⟩)⟩, ⟨by (try simp only [hl337000_65]); (try simp only [hl337001_65]); (with_reducible repeat (first | apply Kd.R_alloc | apply Kd.R_drewN | apply Kd.R_drew)); exact Kd.R_mono HO_330001.out (fun _ hk => ⟨hk.1.1.1, ⟨hk.1.1.2, hk.2⟩⟩)⟩, ⟨by (try simp only [hl337000_65]); (try simp only [hl337001_65]); (with_reducible repeat (first | apply Kd.R_alloc | apply Kd.R_drewN | apply Kd.R_drew)); exact Kd.R_mono HO_337000.out (fun _ hk => ⟨hk.1.1.1, ⟨hk.1.1.2, hk.2⟩⟩)⟩, ⟨by (try simp only [hl337000_65]); (try simp only [hl337001_65]); (with_reducible repeat (first | apply Kd.R_alloc | apply Kd.R_drewN | apply Kd.R_drew)); exact Kd.R_mono HO_337001.out (fun _ hk => ⟨hk.1.1.1, ⟨hk.1.1.2, hk.2⟩⟩)⟩, ⟨by (try simp only [hl337000_65]); (try simp only [hl337001_65]); (with_reducible repeat (first | apply Kd.R_alloc | apply Kd.R_drewN | apply Kd.R_drew)); exact Kd.R_mono HO_345000.out (fun _ hk => ⟨hk.1.1.1, ⟨hk.1.1.2, hk.2⟩⟩)⟩, ⟨by (try simp only [hl337000_65]); (try simp only [hl337001_65]); (with_reducible repeat (first | apply Kd.R_alloc | apply Kd.R_drewN | apply Kd.R_drew)); exact Kd.R_mono HO_345001.out (fun _ hk => ⟨hk.1.1.1, ⟨hk.1.1.2, hk.2⟩⟩)⟩, ⟨by (try simp only [hl337000_65]); (try simp only [hl337001_65]); (with_reducible repeat (first | apply Kd.R_alloc | apply Kd.R_drewN | apply Kd.R_drew)); exact Kd.R_mono HO369.out (fun _ hk => ⟨hk.1.1.1.2, ⟨hk.1.1.2, hk.1.2⟩⟩)⟩, ⟨by (try simp only [hl337000_65]); (try simp only [hl337001_65]); (with_reducible repeat (first | apply Kd.R_alloc | apply Kd.R_drewN | apply Kd.R_drew)); exact Kd.R_mono HO372.out (fun _ hk => ⟨hk.1.1.1.2, ⟨hk.1.1.2, hk.1.2⟩⟩)⟩, ⟨by (try simp only [hl337000_65]); (try simp only [hl337001_65]); (with_reducible repeat (first | refine blk_drewN ?_ _ | refine blk_drew ?_ | refine blk_alloc ?_ _)); exact BK314.out⟩, ⟨by (try simp only [hl337000_65]); (try simp only [hl337001_65]); (with_reducible repeat (first | refine blk_drewN ?_ _ | refine blk_drew ?_ | refine blk_alloc ?_ _)); exact BK329.out⟩, ⟨by (try simp only [hl337000_65]); (try simp only [hl337001_65]); (with_reducible repeat (first | refine blk_drewN ?_ _ | refine blk_drew ?_ | refine blk_alloc ?_ _)); exact BK336.out⟩, ⟨by (try simp only [hl337000_65]); (try simp only [hl337001_65]); (with_reducible repeat (first | refine blk_drewN ?_ _ | refine blk_drew ?_ | refine blk_alloc ?_ _)); exact BK344.out⟩, ⟨by (try simp only [hl337000_65]); (try simp only [hl337001_65]); (with_reducible repeat (first | refine blk_drewN ?_ _ | refine blk_drew ?_ | refine blk_alloc ?_ _)); exact BK374.out⟩, ⟨bq⟩⟩
           case rest =>
            clear HC110
            try clear c5b0
            try clear c44
            try clear c61
            try clear c64
            try clear c77b0
            try clear c79
            try clear c96
            try clear c99b0
            try clear c107b0
            try clear c107b1
            try clear c134
            try clear hcz103_0 hcz103_1 hfz103_0 hfz103_1
            try clear hcz105_0 hcz105_1 hfz105_0 hfz105_1
            try clear hcz114_0 hcz114_1 hfz114_0 hfz114_1
            try clear hcz116_0 hcz116_1 hfz116_0 hfz116_1
            try clear hcz120_0 hcz120_1 hfz120_0 hfz120_1
            try clear hcz131_0 hcz131_1 hfz131_0 hfz131_1
            try clear hcz139_0 hcz139_1 hfz139_0 hfz139_1
            try clear hcz143_0 hcz143_1 hfz143_0 hfz143_1
            try clear hcz149_0 hcz149_1 hfz149_0 hfz149_1
            try clear hcz153_0 hcz153_1 hfz153_0 hfz153_1
            try clear hcz15_0 hcz15_1 hfz15_0 hfz15_1
            try clear hcz17_0 hcz17_1 hfz17_0 hfz17_1
            try clear hcz25_0 hcz25_1 hfz25_0 hfz25_1
            try clear hcz27_0 hcz27_1 hfz27_0 hfz27_1
            try clear hcz33_0 hcz33_1 hfz33_0 hfz33_1
            try clear hcz41_0 hcz41_1 hfz41_0 hfz41_1
            try clear hcz48_0 hcz48_1 hfz48_0 hfz48_1
            try clear hcz51_0 hcz51_1 hfz51_0 hfz51_1
            try clear hcz56_0 hcz56_1 hfz56_0 hfz56_1
            try clear hcz59_0 hcz59_1 hfz59_0 hfz59_1
            try clear hcz75_0 hcz75_1 hfz75_0 hfz75_1
            try clear hcz7_0 hcz7_1 hfz7_0 hfz7_1
            try clear hcz83_0 hcz83_1 hfz83_0 hfz83_1
            try clear hcz86_0 hcz86_1 hfz86_0 hfz86_1
            try clear hcz91_0 hcz91_1 hfz91_0 hfz91_1
            try clear hcz94_0 hcz94_1 hfz94_0 hfz94_1
            obtain ⟨kq, x97_109, rfl, HA, HJ109, HO_330000, HO_330001, HO_337000, HO_337001, HO_345000, HO_345001, HO_375000, HO_375001, BK314, BK329, BK336, BK344, BK374, HB⟩ := hcut
            have hl345000_109 := (Kd.R_reads' HO_345000.out).1
            rw [hl345000_109] at HO_345000
            (try simp only [hl345000_109])
            (try simp only [hl345000_109] at BK314)
            (try simp only [hl345000_109] at BK329)
            (try simp only [hl345000_109] at BK336)
            (try simp only [hl345000_109] at BK344)
            (try simp only [hl345000_109] at BK374)
            (try simp only [hl345000_109] at HO_330000)
            (try simp only [hl345000_109] at HO_330001)
            (try simp only [hl345000_109] at HO_337000)
            (try simp only [hl345000_109] at HO_337001)
            (try simp only [hl345000_109] at HO_345001)
            (try simp only [hl345000_109] at HO_375000)
            (try simp only [hl345000_109] at HO_375001)
            have hl345001_109 := (Kd.R_reads' HO_345001.out).1
            rw [hl345001_109] at HO_345001
            (try simp only [hl345001_109])
            (try simp only [hl345001_109] at BK314)
            (try simp only [hl345001_109] at BK329)
            (try simp only [hl345001_109] at BK336)
            (try simp only [hl345001_109] at BK344)
            (try simp only [hl345001_109] at BK374)
            (try simp only [hl345001_109] at HO_330000)
            (try simp only [hl345001_109] at HO_330001)
            (try simp only [hl345001_109] at HO_337000)
            (try simp only [hl345001_109] at HO_337001)
            (try simp only [hl345001_109] at HO_345000)
            (try simp only [hl345001_109] at HO_375000)
            (try simp only [hl345001_109] at HO_375001)
            cases kq with
            | zero => exact absurd HA.out (by simp [laws_FnExactExtendLoan.j2])
            | succ kj109 =>
             have H := HA.out
             clear HA
             simp only [laws_FnExactExtendLoan.j2] at H
             by_cases c155 : x97_109 = true
             ·subst c155
              rw [if_pos rfl] at H
              try dsimp only at H
              obtain rfl := Option.some.inj H
              go_wp2
              go_ret
              exact ⟨eq_, bq⟩
             ·replace c155 := Bool.eq_false_iff.mpr c155
              subst c155
              rw [if_neg (show ¬ (false = true) by decide)] at H
              try dsimp only at H
              obtain ⟨t376, A156, H⟩ := bindq H
              try dsimp only at H
              by_cases c157 : t376 < 0
              ·rw [if_pos c157] at H
               have c157b0 : decide (t376 < 0) = true := decide_eq_true c157
               clear c157
               obtain rfl := Option.some.inj H
               have hnb158 := NB344_314.out
               have hnc158 := NB314_344.out
               have hnb159 := NB344_329.out
               have hnc159 := NB329_344.out
               have hnb160 := NB344_336.out
               have hnc160 := NB336_344.out
               have hnb161 := NB344_374.out
               have hnc161 := NB374_344.out
               have ⟨hcz162_0, hcz162_1, hfz162_0, hfz162_1⟩ := bc2 BK344
               go_wp2_with (first | ((with_reducible refine gate_callee (f := 13) rfl ?_); refine goesQ (some 100) Try.func13 #[.agg #[.slice Ao37 t358.length co37, .slice Ao42 t359.length co42], .int .i64 1] ?_; (with_reducible refine (laws_heldShop.calls kj109 _ _ t358 _ _ t359 1 t376 _ ?s1 ?s2 ?s3 ?s4 A156.out).mono ?_); (case s1 => exact cr HO_345000); (case s2 => exact rq1 HO_345000); (case s3 => exact cr HO_345001); (case s4 => exact rq1 HO_345001); rintro e w163 ⟨rfl, hb⟩; refine ⟨_, rfl, ?_⟩; replace HO_330000 := rb HO_330000 hb; replace HO_330001 := rb HO_330001 hb; replace HO_337000 := rb HO_337000 hb; replace HO_337001 := rb HO_337001 hb; replace HO_345000 := rb HO_345000 hb; replace HO_345001 := rb HO_345001 hb; replace BK314 := zb BK314 hb; replace BK329 := zb BK329 hb; replace BK336 := zb BK336 hb; replace BK344 := zb BK344 hb; replace BK374 := zb BK374 hb; replace HB := sb hb; (try clear hb)))
               go_ret
               exact ⟨eq_, bq⟩
              ·rw [if_neg c157] at H
               have c157b0 : decide (t376 < 0) = false := decide_eq_false c157
               clear c157
               by_cases c164 : t376 = t357
               ·rw [if_pos c164] at H
                have c164b0 : (t376 == t357) = true := beq_iff_eq.mpr c164
                have c164b1 : (t376 != t357) = false := bne_eq_false_iff_eq.mpr c164
                clear c164
                obtain rfl := Option.some.inj H
                have hnb165 := NB344_314.out
                have hnc165 := NB314_344.out
                have hnb166 := NB344_329.out
                have hnc166 := NB329_344.out
                have hnb167 := NB344_336.out
                have hnc167 := NB336_344.out
                have hnb168 := NB344_374.out
                have hnc168 := NB374_344.out
                have ⟨hcz169_0, hcz169_1, hfz169_0, hfz169_1⟩ := bc2 BK344
                go_wp2_with (first | ((with_reducible refine gate_callee (f := 13) rfl ?_); refine goesQ (some 100) Try.func13 #[.agg #[.slice Ao37 t358.length co37, .slice Ao42 t359.length co42], .int .i64 1] ?_; (with_reducible refine (laws_heldShop.calls kj109 _ _ t358 _ _ t359 1 t376 _ ?s1 ?s2 ?s3 ?s4 A156.out).mono ?_); (case s1 => exact cr HO_345000); (case s2 => exact rq1 HO_345000); (case s3 => exact cr HO_345001); (case s4 => exact rq1 HO_345001); rintro e w170 ⟨rfl, hb⟩; refine ⟨_, rfl, ?_⟩; replace HO_330000 := rb HO_330000 hb; replace HO_330001 := rb HO_330001 hb; replace HO_337000 := rb HO_337000 hb; replace HO_337001 := rb HO_337001 hb; replace HO_345000 := rb HO_345000 hb; replace HO_345001 := rb HO_345001 hb; replace BK314 := zb BK314 hb; replace BK329 := zb BK329 hb; replace BK336 := zb BK336 hb; replace BK344 := zb BK344 hb; replace BK374 := zb BK374 hb; replace HB := sb hb; (try clear hb)))
                go_ret
                exact ⟨eq_, bq⟩
               ·rw [if_neg c164] at H
                have c164b0 : (t376 == t357) = false := beq_eq_false_iff_ne.mpr c164
                have c164b1 : (t376 != t357) = true := bne_iff_ne.mpr c164
                obtain rfl := Option.some.inj H
                have hnb171 := NB344_314.out
                have hnc171 := NB314_344.out
                have hnb172 := NB344_329.out
                have hnc172 := NB329_344.out
                have hnb173 := NB344_336.out
                have hnc173 := NB336_344.out
                have hnb174 := NB344_374.out
                have hnc174 := NB374_344.out
                have ⟨hcz175_0, hcz175_1, hfz175_0, hfz175_1⟩ := bc2 BK344
                go_wp2_with (first | ((with_reducible refine gate_callee (f := 13) rfl ?_); refine goesQ (some 100) Try.func13 #[.agg #[.slice Ao37 t358.length co37, .slice Ao42 t359.length co42], .int .i64 1] ?_; (with_reducible refine (laws_heldShop.calls kj109 _ _ t358 _ _ t359 1 t376 _ ?s1 ?s2 ?s3 ?s4 A156.out).mono ?_); (case s1 => exact cr HO_345000); (case s2 => exact rq1 HO_345000); (case s3 => exact cr HO_345001); (case s4 => exact rq1 HO_345001); rintro e w176 ⟨rfl, hb⟩; refine ⟨_, rfl, ?_⟩; replace HO_330000 := rb HO_330000 hb; replace HO_330001 := rb HO_330001 hb; replace HO_337000 := rb HO_337000 hb; replace HO_337001 := rb HO_337001 hb; replace HO_345000 := rb HO_345000 hb; replace HO_345001 := rb HO_345001 hb; replace BK314 := zb BK314 hb; replace BK329 := zb BK329 hb; replace BK336 := zb BK336 hb; replace BK344 := zb BK344 hb; replace BK374 := zb BK374 hb; replace HB := sb hb; (try clear hb)))
                go_ret
                exact ⟨eq_, bq⟩
          ·rw [if_neg c107] at H
           have c107b0 : (t360 == t357) = false := beq_eq_false_iff_ne.mpr c107
           have c107b1 : (t360 != t357) = true := bne_iff_ne.mpr c107
           obtain rfl := Option.some.inj H
           have hnb177 := NB344_314.out
           have hnc177 := NB314_344.out
           have hnb178 := NB344_329.out
           have hnc178 := NB329_344.out
           have hnb179 := NB344_336.out
           have hnc179 := NB336_344.out
           have ⟨hcz180_0, hcz180_1, hfz180_0, hfz180_1⟩ := bc2 BK344
           go_wp2_with (first | ((with_reducible refine gate_callee (f := 12) rfl ?_); refine goesQ (some 72) Try.func12 #[.agg #[.slice Ao37 t337.length co37, .slice Ao42 t340.length co42], .int .i64 1] ?_; (with_reducible refine (laws_markShop.calls kj65 (fun k_ => some k_ = (.slice Ao37 t337.length co37 : Value).ownBlock) (.slice Ao37 t337.length co37) t337 (fun k_ => some k_ = (.slice Ao42 t340.length co42 : Value).ownBlock) (.slice Ao42 t340.length co42) t340 1 t357 t358 t359 w _ ?s1 ?s2 ?s3 A97.out).mono ?_); (case s1 => repeat (first | (with_reducible first | exact HB.out | apply below_alloc | apply pw_below_drewN | apply below_drew1 | refine below_set ?_ GE314.out | refine below_set ?_ GE329.out | refine below_set ?_ GE336.out | refine below_set ?_ GE344.out) | exact HB.out)); (case s2 => exact Kd.R_tight rfl HO_345000.out); (case s3 => exact Kd.R_tight rfl HO_345001.out); rintro e w181 ⟨rfl, hy0, hy1, hb, hkp⟩; refine ⟨_, rfl, ?_⟩; replace HO_330000 := am (Kd.R_mono (ok' := fun k_ => some k_ ≠ (.slice Ao30 t354.length co30 : Value).ownBlock ∧ some k_ ≠ (.slice Ao37 t337.length co37 : Value).ownBlock) (Kd.R_keptB ((Kd.R_apart' HO_330000.out (Kd.R_typed HO_345001.out) (by decide))) hkp (fun k_ hk_ hs_ => Or.elim hs_ (fun e_ => (hk_.1.2) e_) (fun e_ => (hk_.2) e_))) (fun k_ hk_ => ⟨hk_.1.1.1, hk_.1.1.2⟩)); replace HO_330001 := am (Kd.R_mono (ok' := fun k_ => some k_ ≠ (.slice Ao34 t355.length co34 : Value).ownBlock ∧ some k_ ≠ (.slice Ao42 t340.length co42 : Value).ownBlock) (Kd.R_keptB ((Kd.R_apart' HO_330001.out (Kd.R_typed HO_345000.out) (by decide))) hkp (fun k_ hk_ hs_ => Or.elim hs_ (fun e_ => (hk_.2) e_) (fun e_ => (hk_.1.2) e_))) (fun k_ hk_ => ⟨hk_.1.1.1, hk_.1.1.2⟩)); replace HO_337000 := am (Kd.R_mono (ok' := fun k_ => some k_ ≠ (.slice Ao23 t322.length co23 : Value).ownBlock ∧ some k_ ≠ (.slice Ao37 t337.length co37 : Value).ownBlock) (Kd.R_keptB ((Kd.R_apart' HO_337000.out (Kd.R_typed HO_345001.out) (by decide))) hkp (fun k_ hk_ hs_ => Or.elim hs_ (fun e_ => (hk_.1.2) e_) (fun e_ => (hk_.2) e_))) (fun k_ hk_ => ⟨hk_.1.1.1, hk_.1.1.2⟩)); replace HO_337001 := am (Kd.R_mono (ok' := fun k_ => some k_ ≠ (.slice Ao26 t325.length co26 : Value).ownBlock ∧ some k_ ≠ (.slice Ao42 t340.length co42 : Value).ownBlock) (Kd.R_keptB ((Kd.R_apart' HO_337001.out (Kd.R_typed HO_345000.out) (by decide))) hkp (fun k_ hk_ hs_ => Or.elim hs_ (fun e_ => (hk_.2) e_) (fun e_ => (hk_.1.2) e_))) (fun k_ hk_ => ⟨hk_.1.1.1, hk_.1.1.2⟩)); replace BK314 := am (blk_kept (zq BK314) hkp (fun hs_ => Or.elim hs_ (fun e_ => (fun e_ => (Kd.R_ne HO_345000.out BK314.out (by decide)) e_) e_) (fun e_ => (fun e_ => (Kd.R_ne HO_345001.out BK314.out (by decide)) e_) e_))); replace BK329 := am (blk_kept (zq BK329) hkp (fun hs_ => Or.elim hs_ (fun e_ => (fun e_ => (Kd.R_ne HO_345000.out BK329.out (by decide)) e_) e_) (fun e_ => (fun e_ => (Kd.R_ne HO_345001.out BK329.out (by decide)) e_) e_))); replace BK336 := am (blk_kept (zq BK336) hkp (fun hs_ => Or.elim hs_ (fun e_ => (fun e_ => (Kd.R_ne HO_345000.out BK336.out (by decide)) e_) e_) (fun e_ => (fun e_ => (Kd.R_ne HO_345001.out BK336.out (by decide)) e_) e_))); replace BK344 := am (blk_kept (zq BK344) hkp (fun hs_ => Or.elim hs_ (fun e_ => (fun e_ => (Kd.R_ne HO_345000.out BK344.out (by decide)) e_) e_) (fun e_ => (fun e_ => (Kd.R_ne HO_345001.out BK344.out (by decide)) e_) e_))); replace HO_345000 := am (Kd.R_reok rfl hy0 (fun k_ e_ => HO_345000.out.1 k_ e_)); replace HO_345001 := am (Kd.R_reok rfl hy1 (fun k_ e_ => HO_345001.out.1 k_ e_)); replace HB := am (hb); (try clear hb hkp hy0 hy1); have ⟨hcz182_0, hcz182_1, hfz182_0, hfz182_1⟩ := bc2 BK344) | ((with_reducible refine gate_callee (f := 13) rfl ?_); refine goesL_ (some 75) rfl rfl Try.func13 (by kernel_rfl) rfl #[.agg #[.slice Ao37 t358.length co37, .slice Ao42 t359.length co42], .int .i64 1] rfl (by (try simp only [List.map_toArray, List.map_cons, List.map_nil]); first | done | (rw [show t358.length = t337.length from (Kd.R_reads' HO_345000.out).1.symm, show t359.length = t340.length from (Kd.R_reads' HO_345001.out).1.symm] <;> rfl) | rfl | (simp only [List.length_drop, List.length_take]; rfl)) ?_; (with_reducible refine (laws_heldShop.calls kj65 _ _ t358 _ _ t359 1 t360 _ ?s1 ?s2 ?s3 ?s4 A98.out).mono ?_); (case s1 => exact cr HO_345000); (case s2 => rw [show t358.length = t337.length from (Kd.R_reads' HO_345000.out).1.symm]; exact rq1 HO_345000); (case s3 => exact cr HO_345001); (case s4 => rw [show t359.length = t340.length from (Kd.R_reads' HO_345001.out).1.symm]; exact rq1 HO_345001); rintro e w183 ⟨rfl, hb⟩; refine ⟨_, rfl, ?_⟩; replace HO_330000 := rb HO_330000 hb; replace HO_330001 := rb HO_330001 hb; replace HO_337000 := rb HO_337000 hb; replace HO_337001 := rb HO_337001 hb; replace HO_345000 := rb HO_345000 hb; replace HO_345001 := rb HO_345001 hb; replace BK314 := zb BK314 hb; replace BK329 := zb BK329 hb; replace BK336 := zb BK336 hb; replace BK344 := zb BK344 hb; replace HB := sb hb; (try clear hb)))
           go_ret
           exact ⟨eq_, bq⟩
     ·replace c64 := Bool.eq_false_iff.mpr c64
      subst c64
      rw [if_neg (show ¬ (false = true) by decide)] at H
      try dsimp only at H
      obtain rfl := Option.some.inj H
      try go_wp2
      replace HO_330000 := am (Kd.R_drew HO_330000.out)
      replace HO_330001 := am (Kd.R_drew HO_330001.out)
      replace HO_337000 := am (Kd.R_drew HO_337000.out)
      replace HO_337001 := am (Kd.R_drew HO_337001.out)
      replace HO_345000 := am (Kd.R_drew HO_345000.out)
      replace HO_345001 := am (Kd.R_drew HO_345001.out)
      replace BK314 := am (blk_drew BK314.out)
      replace BK329 := am (blk_drew BK329.out)
      replace BK336 := am (blk_drew BK336.out)
      replace BK344 := am (blk_drew BK344.out)
      replace HB := am (below_drew1 HB.out)
      refine start_ (n := 5) (S := fun w' => w'.cell? ⟨gb336, 0, none⟩ = some (.slice Ao30 t330.length co30) ∧ w'.cell? ⟨gb336, 1, none⟩ = some (.slice Ao34 t333.length co34) ∧ w'.cell? ⟨gb314, 0, none⟩ = some (.slice A0_0 l0_0.length c0_0) ∧ w'.cell? ⟨gb314, 1, none⟩ = some (.slice A0_1 l0_1.length c0_1)) (ds := []) #[false, false, false, false, false] (by kernel_rfl) rfl rfl cl (fun hHeld => ?_)
      generalize wc.drew = w184 at HO_330000 HO_330001 HO_337000 HO_337001 HO_345000 HO_345001 BK314 BK329 BK336 BK344 HB hHeld ⊢
      refine take_ (i := 0) (N := some 49) (v := ?_) (a' := ?_) #[true, false, false, false, false] rfl rfl (by kernel_rfl) (fun _ _ _ h => h) (Or.inl ⟨by rfl, ?_⟩) hHeld ?_ ?_
      rotate_left
      ·rintro w' ⟨s0, s1, s2, s3⟩
       go_simp
       with_reducible rfl
      rotate_left
      ·simp only [Act.put, List.setIfInBounds_toArray, List.set_cons_zero, List.set_cons_succ, i64_w, i32_w]
       rfl
      refine take_ (i := 1) (N := some 50) (v := ?_) (a' := ?_) #[true, true, false, false, false] rfl rfl (by kernel_rfl) (fun _ _ _ h => h) (Or.inl ⟨by rfl, ?_⟩) hHeld ?_ ?_
      rotate_left
      ·rintro w' ⟨s0, s1, s2, s3⟩
       go_simp
       with_reducible rfl
      rotate_left
      ·simp only [Act.put, List.setIfInBounds_toArray, List.set_cons_zero, List.set_cons_succ, i64_w, i32_w]
       rfl
      refine one_ (i := 2) (N := some 51) #[true, true, true, false, false] rfl rfl (by kernel_rfl) (by decide) (fun K hK => ?_)
      refine goes_ Try.func9 (by kernel_rfl) rfl #[.agg #[.slice A0_0 l0_0.length c0_0, .slice A0_1 l0_1.length c0_1]] (by rfl) rfl rfl mq ?_
      with_reducible refine (laws_toShop.calls kj12 _ _ l0_0 _ _ l0_1 t346 t349 _ ?s1 ?s2 ?s3 ?s4 A62.out).mono ?_
      (case s1 => exact cq (Kd.C_below HR0_0.out HB.out))
      (case s2 => exact HC0_0.out)
      (case s3 => exact cq (Kd.C_below HR0_1.out HB.out))
      (case s4 => exact HC0_1.out)
      rintro e w185 ⟨v347, v350, rfl, ho0, ho1, hb⟩
      refine ⟨_, rfl, ?_⟩
      have HO348 := rl (Kd.R_new' (Kd.R_new' (Kd.R_new' ho0 (lw HO_330000)) (lw HO_337000)) (lw HO_345000))
      replace HO_337000 := am (Kd.R_elder' (rq HO_337000) (Kd.R_base ho0) hb)
      have HO351 := rl (Kd.R_new' (Kd.R_new' (Kd.R_new' ho1 (lw HO_330001)) (lw HO_337001)) (lw HO_345001))
      replace HO_337001 := am (Kd.R_elder' (rq HO_337001) (Kd.R_base ho1) hb)
      replace BK314 := zb BK314 hb
      replace BK329 := zb BK329 hb
      replace BK336 := zb BK336 hb
      replace BK344 := zb BK344 hb
      replace HB := sb hb
      (try clear hb ho0 ho1)
      obtain ⟨Ao186, co186, eo186⟩ := Kd.R_slice HO348.out
      (first | subst eo186 | (injection eo186 with f1_ f2_ f3_; have f4_ := f1_.symm; have f5_ := f3_.symm; clear f1_ f2_ f3_; subst f4_; subst f5_))
      obtain ⟨Ao187, co187, eo187⟩ := Kd.R_slice HO351.out
      (first | subst eo187 | (injection eo187 with f1_ f2_ f3_; have f4_ := f1_.symm; have f5_ := f3_.symm; clear f1_ f2_ f3_; subst f4_; subst f5_))
      refine hK.out _ _ cl (fun hHeld => ?_)
      clear hK K
      refine norm_ (a' := ?_) ?_ ?_
      rotate_left
      ·show Act.put _ (some 51) _ = _
       simp only [Act.put, List.setIfInBounds_toArray, List.set_cons_zero, List.set_cons_succ, i64_w, i32_w]
       rfl
      refine one_ (i := 3) (N := some 52) #[true, true, true, true, false] rfl rfl (by kernel_rfl) (by decide) (fun K hK => ?_)
      refine goes_ Try.func11 (by kernel_rfl) rfl #[.agg #[.slice Ao30 t330.length co30, .slice Ao34 t333.length co34], .agg #[.slice Ao186 t346.length co186, .slice Ao187 t349.length co187]] (by rfl) rfl rfl mq ?_
      with_reducible refine (laws_eqShop.calls kj12 _ _ t330 _ _ t333 _ _ t346 _ _ t349 false _ ?s1 ?s2 ?s3 ?s4 ?s5 ?s6 ?s7 ?s8 A63.out).mono ?_
      (case s1 => exact cr HO_337000)
      (case s2 => exact rq1 HO_337000)
      (case s3 => exact cr HO_337001)
      (case s4 => exact rq1 HO_337001)
      (case s5 => exact cr HO348)
      (case s6 => exact rq1 HO348)
      (case s7 => exact cr HO351)
      (case s8 => exact rq1 HO351)
      rintro e w188 ⟨rfl, hb⟩
      refine ⟨_, rfl, ?_⟩
      replace BK314 := zb BK314 hb
      replace BK329 := zb BK329 hb
      replace BK336 := zb BK336 hb
      replace BK344 := zb BK344 hb
      replace HB := sb hb
      (try clear hb)
      refine hK.out _ _ cl (fun hHeld => ?_)
      clear hK K
      refine norm_ (a' := ?_) ?_ ?_
      rotate_left
      ·show Act.put _ (some 52) _ = _
       simp only [Act.put, List.setIfInBounds_toArray, List.set_cons_zero, List.set_cons_succ, i64_w, i32_w]
       rfl
      refine pure_ (i := 4) (N := some 53) (v := ?_) (a' := ?_) #[true, true, true, true, true] rfl rfl (by kernel_rfl) (fun _ _ _ h => h) (Or.inl ⟨by rfl, ?_⟩) ?_ ?_
      rotate_left
      ·intro w'
       go_simp
       with_reducible rfl
      rotate_left
      ·simp only [Act.put, List.setIfInBounds_toArray, List.set_cons_zero, List.set_cons_succ, i64_w, i32_w]
       rfl
      refine done_ (by kernel_rfl) ?_
      try go_wp2
      go_ret
      exact ⟨eq_, bq⟩




end Go.Proofs.Ytokigipkoeeddaa.Pall
