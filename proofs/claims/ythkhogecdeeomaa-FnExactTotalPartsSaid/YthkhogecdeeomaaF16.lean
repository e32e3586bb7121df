-- written by the kit's print program, cut into a text a function by a program
import Derived.Test.YthkhogecdeeomaaF46
namespace Go.Proofs.Ythkhogecdeeomaa.Pall
open Go.RowKit Go.Proofs.YthkhogecdeeomaaW.PrintWords Go.Proofs.YthkhogecdeeomaaW.PrintLast Go.Proofs.YthkhogecdeeomaaW.PrintMore
attribute [local go_sem] max2_int min2_int max_two min_two max_three min_three max_four min_four   -- for this text's walks alone
set_option linter.unusedVariables false
set_option linter.unusedSimpArgs false
/-! ### impl_TotalParts: function 16 -/
def impl_TotalParts.l0 : Nat → List Int → List (S50) → Int → Int → Option (List Int × Bool)
  | 0, _, _, _, _ => none
  | k + 1, x4, x15, x16, x17 => if x17 < x16 then (if 0 ≤ x17 then (if x17 < (x15.length : Int) then (if 0 ≤ ((rd_T50 x15 x17).f1) then (if ((rd_T50 x15 x17).f1) < (x4.length : Int) then (impl_TotalParts.l0 k (x4.set (((rd_T50 x15 x17).f1) : Int).toNat (wrap64 ((rd x4 ((rd_T50 x15 x17).f1)) + ((rd_T50 x15 x17).f2)))) x15 x16 (wrap64 (x17 + 1))) else (none)) else (none)) else (none)) else (none)) else (some (x4, true))
def impl_TotalParts.f (k : Nat) (l0_0 : List Int) (l0_1 : List (S50)) : Option (List Int × Bool) := (impl_IsShop.f k l0_0 l0_1).bind fun t876 => (if t876 = true then ((some (([] : List Int) : List Int)).bind fun y877 => (if y877.length + l0_0.length < 17592186044416 then (impl_TotalParts.l0 k (y877 ++ l0_0) l0_1 (l0_1.length : Int) 0) else (none))) else (some (([] : List Int), false)))
theorem impl_TotalParts.mono_l : ∀ k, (∀ y0 y1 y2 y3, LeO (impl_TotalParts.l0 k y0 y1 y2 y3) (impl_TotalParts.l0 (k + 1) y0 y1 y2 y3))
  | 0 => fun _ _ _ _ r h => by simp [impl_TotalParts.l0] at h
  | k + 1 => by
    have ih0 := impl_TotalParts.mono_l k
    · intro y0 y1 y2 y3
      unfold impl_TotalParts.l0
      repeat' first
      | (with_reducible exact ih0 _ _ _ _)
      | (with_reducible exact impl_IsShop.mono _ _ _)
      | (with_reducible exact LeO.refl _)
      | (with_reducible exact LeO.none _)
      | (with_reducible refine LeO.ite ?_ ?_)
      | (with_reducible refine LeO.bind ?_ (fun _ => ?_))
      | exact ih0 _ _ _ _
      | exact impl_IsShop.mono _ _ _
      | exact LeO.none _
      | refine LeO.ite ?_ ?_
      | refine LeO.bind ?_ (fun _ => ?_)
theorem impl_TotalParts.mono : ∀ a0 a1 k, LeO (impl_TotalParts.f k a0 a1) (impl_TotalParts.f (k + 1) a0 a1) := by
  intro a0 a1 k
  have ih0 := impl_TotalParts.mono_l k
  unfold impl_TotalParts.f
  repeat' first
      | (with_reducible exact ih0 _ _ _ _)
      | (with_reducible exact impl_IsShop.mono _ _ _)
      | (with_reducible exact LeO.refl _)
      | (with_reducible exact LeO.none _)
      | (with_reducible refine LeO.ite ?_ ?_)
      | (with_reducible refine LeO.bind ?_ (fun _ => ?_))
      | exact ih0 _ _ _ _
      | exact impl_IsShop.mono _ _ _
      | exact LeO.none _
      | refine LeO.ite ?_ ?_
      | refine LeO.bind ?_ (fun _ => ?_)
def impl_TotalParts.T7 : Bool × List (List Nat × List Nat) := (true, [([], []), ([], []), ([1], [1]), ([0, 2], [0, 2]), ([3], [3]), ([], []), ([5], [5]), ([4, 6], [4, 6]), ([0, 2, 0, 1, 2, 3, 4, 5, 6, 7], [0, 2]), ([8, 7, 0, 1, 2, 3, 4, 5, 6, 7], [7, 8])])
def impl_TotalParts.B7 : List Nat := [0, 0, 2, 7, 15, 0, 32, 127, 255, 511]
theorem impl_TotalParts.tab7 : rtab .any (opsOf Try.f16 7) = impl_TotalParts.T7 := by kernel_rfl
theorem impl_TotalParts.bits7 : waitsOk impl_TotalParts.T7.2 impl_TotalParts.B7 = true := by kernel_rfl
set_option maxHeartbeats 8000000 in
set_option maxRecDepth 100000 in
theorem impl_TotalParts.calls (k : Nat) (A0_0 : Option Addr) (c0_0 : Nat) (l0_0 : List Int) (A0_1 : Option Addr) (c0_1 : Nat) (l0_1 : List (S50)) (r1 : List Int) (r2 : Bool) (w : World) (hr0_0 : Kd.C (Kd.int .i64) w A0_0 l0_0.length l0_0) (hc0_0 : l0_0.length ≤ c0_0) (hr0_1 : Kd.C k50 w A0_1 l0_1.length l0_1) (hc0_1 : l0_1.length ≤ c0_1) (h : impl_TotalParts.f k l0_0 l0_1 = some (r1, r2)) :
    Calls Try.prog 16 #[.agg #[.slice A0_0 l0_0.length c0_0, .slice A0_1 l0_1.length c0_1]] w fun e w' => ∃ v0_ : Value, e = .returned (.tuple #[v0_, .bool r2]) ∧ Kd.R (Kd.int .i64) 3 w' w.heap.size (fun _ => True) v0_ r1 ∧ Below w.heap.size w w' := by
  have hu31 := Try.underlying31
  have hu50 := Try.underlying50
  have HR0_0 := Aside0.mk hr0_0
  have HC0_0 := Aside0.mk hc0_0
  clear hr0_0 hc0_0
  have HR0_1 := Aside0.mk hr0_1
  have HC0_1 := Aside0.mk hc0_1
  clear hr0_1 hc0_1
  have HB := Aside0.mk (Below.refl w.heap.size w)
  have H : ((impl_IsShop.f k l0_0 l0_1).bind fun t876 => (if t876 = true then ((some (([] : List Int) : List Int)).bind fun y877 => (if y877.length + l0_0.length < 17592186044416 then (impl_TotalParts.l0 k (y877 ++ l0_0) l0_1 (l0_1.length : Int) 0) else (none))) else (some (([] : List Int), false)))) = some (r1, r2) := h
  clear h
  replace H := Option.bind_eq_some_iff.mp H
  obtain ⟨t876, A20, H⟩ := H
  replace H : (if t876 = true then ((some (([] : List Int) : List Int)).bind fun y877 => (if y877.length + l0_0.length < 17592186044416 then (impl_TotalParts.l0 k (y877 ++ l0_0) l0_1 (l0_1.length : Int) 0) else (none))) else (some (([] : List Int), false))) = some (r1, r2) := H
  have A2 := Aside0.mk A20
  clear A20
  by_cases c3 : t876 = true
  · subst c3
    have H1 : ((some (([] : List Int) : List Int)).bind fun y877 => (if y877.length + l0_0.length < 17592186044416 then (impl_TotalParts.l0 k (y877 ++ l0_0) l0_1 (l0_1.length : Int) 0) else (none))) = some (r1, r2) := by rw [if_pos rfl] at H; exact H
    clear H
    have H := H1
    clear H1
    obtain ⟨y877, hy877⟩ : ∃ y_ : List Int, y_ = (([] : List Int)) := ⟨_, rfl⟩
    replace H : (if y877.length + l0_0.length < 17592186044416 then (impl_TotalParts.l0 k (y877 ++ l0_0) l0_1 (l0_1.length : Int) 0) else (none)) = some (r1, r2) := by first | (rw [hy877]; with_reducible exact H) | (have H2_ := (Option.bind_some _ _).symm.trans H; rw [hy877]; with_reducible exact H2_) | (have H2_ := (Option.bind_some _ _).symm.trans H; with_reducible exact H2_) | with_reducible exact H | (rw [hy877]; exact H) | exact H
    have Ny877 := Aside0.mk hy877
    clear hy877
    by_cases c4 : y877.length + l0_0.length < 17592186044416
    · rw [if_pos c4] at H
      have LMc4 := Aside0.mk c4
      clear c4
      obtain ⟨y880, hy880⟩ : ∃ y_ : List Int, y_ = (y877 ++ l0_0) := ⟨_, rfl⟩
      replace H : (impl_TotalParts.l0 k y880 l0_1 (l0_1.length : Int) 0) = some (r1, r2) := by first | (rw [hy880]; with_reducible exact H) | (have H2_ := (Option.bind_some _ _).symm.trans H; rw [hy880]; with_reducible exact H2_) | (have H2_ := (Option.bind_some _ _).symm.trans H; with_reducible exact H2_) | with_reducible exact H | (rw [hy880]; exact H) | exact H
      have Ny880 := Aside0.mk hy880
      clear hy880
      have H' := Aside0.mk H
      clear H
      go_enter Try.func16, Try.ntmps16
      go_wp2_with (first | ((with_reducible refine gate_dst (N := 1) rfl ?_); refine box_event ?hg (N := 1) ?hd (cs := #[.slice A0_0 l0_0.length c0_0, .slice A0_1 l0_1.length c0_1]) (t := 31) ?hr ?_; (case hd => rfl); (case hg => rfl); (case hr => first | (go_simp; done) | (go_simp; rfl)); intro gb875 hg w5 hbox hb; have n0_ := Aside0.mk (below_step (by repeat (first | (with_reducible first | exact HB.out | apply below_alloc | apply pw_below_drewN | apply below_drew1) | exact HB.out)) hb); have n1_ := Aside0.mk (hbox); have n2_ := Aside0.mk ((by rw [hg]; exact (below_size (by repeat (first | (with_reducible first | exact HB.out | apply below_alloc | apply pw_below_drewN | apply below_drew1) | exact HB.out))) : w.heap.size ≤ gb875)); have n3_ := Aside0.mk ((by rw [hg]; exact (below_size (by repeat (first | (with_reducible first | exact HB.out | apply below_alloc | apply pw_below_drewN | apply below_drew1) | exact HB.out))) : w.heap.size ≤ gb875)); clear HB; have HB := n0_; have BK875 := n1_; have GW875 := n2_; have GE875 := n3_; clear n0_ n1_ n2_ n3_; clear hb hbox hg; have hcz6_0 : w5.cell? ⟨gb875, 0, none⟩ = some (.slice A0_0 l0_0.length c0_0) := (blk_cell BK875.out 0).trans rfl; have hcz6_1 : w5.cell? ⟨gb875, 1, none⟩ = some (.slice A0_1 l0_1.length c0_1) := (blk_cell BK875.out 1).trans rfl; have hfz6_0 := blk_frozen BK875.out 0; have hfz6_1 := blk_frozen BK875.out 1) | ((with_reducible refine gate_callee (f := 46) rfl ?_); refine goesL_ (some 8) rfl rfl Try.func46 (by kernel_rfl) rfl #[.agg #[.slice A0_0 l0_0.length c0_0, .slice A0_1 l0_1.length c0_1]] rfl (by (try simp only [List.map_toArray, List.map_cons, List.map_nil]); first | done | rfl | (simp only [List.length_drop, List.length_take]; rfl)) ?_; (with_reducible refine (impl_IsShop.calls k _ _ l0_0 _ _ l0_1 true _ ?side1 ?side2 ?side3 ?side4 A2.out).mono ?_); (case side1 => repeat (first | exact (Kd.C_below HR0_0.out HB.out) | (with_reducible refine Kd.C_alloc ?_ _) | (with_reducible refine Kd.C_drewN ?_ _) | (with_reducible refine Kd.C_drew ?_))); (case side2 => exact HC0_0.out); (case side3 => repeat (first | exact (Kd.C_below HR0_1.out HB.out) | (with_reducible refine Kd.C_alloc ?_ _) | (with_reducible refine Kd.C_drewN ?_ _) | (with_reducible refine Kd.C_drew ?_))); (case side4 => exact HC0_1.out); rintro e w7 ⟨rfl, hb⟩; refine ⟨_, rfl, ?_⟩; have n0_ := Aside0.mk (blk_below (g := gb875) (o := .cells #[.slice A0_0 l0_0.length c0_0, .slice A0_1 l0_1.length c0_1] 31 (0, 0)) (by (with_reducible repeat (first | refine blk_drewN ?_ _ | refine blk_drew ?_ | refine blk_alloc ?_ _)); exact BK875.out) hb); have n1_ := Aside0.mk (below_step (by repeat (first | (with_reducible first | exact HB.out | apply below_alloc | apply pw_below_drewN | apply below_drew1 | refine below_set ?_ GE875.out) | exact HB.out)) hb); clear BK875; clear HB; have BK875 := n0_; have HB := n1_; clear n0_ n1_; (try clear hb); (try clear hb2); (try clear hk); (try clear hi)) | ((with_reducible refine gate_dst (N := 10) rfl ?_); refine Kd.R_lit (Kd.int .i64) _ 3 ?hg (N := 10) ?hd (xs := ([] : List Int)) (inner := []) (ok := fun _ => True) (okp := fun _ => True) ?hr ?hp (fun _ hk => hk) trivial (Below.refl _ _) (Nat.le_refl _) (by simp) ?_; (case hd => rfl); (case hg => rfl); (case hr => first | (go_simp; done) | (go_simp; rfl)); (case hp => exact (Reps.none _ _)); intro v878 w8 ho9 hb hg_ hnew_; clear hg_ hnew_; (first | rw [← Ny877.out] at ho9 | (simp only [Int.reduceToNat] at ho9; rw [← Ny877.out] at ho9)); have n0_ := Aside0.mk (Kd.R_lower ho9 (below_size (by repeat (first | (with_reducible first | exact HB.out | apply below_alloc | apply pw_below_drewN | apply below_drew1 | refine below_set ?_ GE875.out) | exact HB.out)))); have n1_ := Aside0.mk (blk_below (g := gb875) (o := .cells #[.slice A0_0 l0_0.length c0_0, .slice A0_1 l0_1.length c0_1] 31 (0, 0)) (by (with_reducible repeat (first | refine blk_drewN ?_ _ | refine blk_drew ?_ | refine blk_alloc ?_ _)); exact BK875.out) hb); have n2_ := Aside0.mk (below_step (by repeat (first | (with_reducible first | exact HB.out | apply below_alloc | apply pw_below_drewN | apply below_drew1 | refine below_set ?_ GE875.out) | exact HB.out)) hb); clear BK875; clear HB; have HO879 := n0_; have BK875 := n1_; have HB := n2_; clear n0_ n1_ n2_; clear hb ho9; have hcz10_0 : w8.cell? ⟨gb875, 0, none⟩ = some (.slice A0_0 l0_0.length c0_0) := (blk_cell BK875.out 0).trans rfl; have hcz10_1 : w8.cell? ⟨gb875, 1, none⟩ = some (.slice A0_1 l0_1.length c0_1) := (blk_cell BK875.out 1).trans rfl; have hfz10_0 := blk_frozen BK875.out 0; have hfz10_1 := blk_frozen BK875.out 1) | ((with_reducible refine gate_builtin (b := .append) (xs := #[.tmp 10, .tmp 12]) rfl ?_); at_builtin; refine Kd.R_append_rows (Kd.int .i64) (w0 := w) w.heap.size rfl (.tmp 10) (.tmp 12) 22 3 (.int .i64 0) 8 rfl Try.underlying22 info3 rfl (by decide) (by omega) v878 y877 l0_0 _ _ _ (fun _ => True) (fun _ => False) rfl rfl ?aO ?aR (fun _ _ h => h) (fun _ h => h.elim) ?aF ?aB ?aS ?aL ?_; (case aR => repeat (first | exact (Kd.C_below HR0_0.out HB.out) | (with_reducible refine Kd.C_alloc ?_ _) | (with_reducible refine Kd.C_drewN ?_ _) | (with_reducible refine Kd.C_drew ?_))); (case aB => exact (by repeat (first | (with_reducible first | exact HB.out | apply below_alloc | apply pw_below_drewN | apply below_drew1 | refine below_set ?_ GE875.out) | exact HB.out))); (case aF => exact (fun _ _ => trivial)); (case aO => exact (by (with_reducible repeat (first | apply Kd.R_alloc | apply Kd.R_drewN | apply Kd.R_drew)); exact HO879.out)); (case aS => exact (below_size (by repeat (first | (with_reducible first | exact HB.out | apply below_alloc | apply pw_below_drewN | apply below_drew1 | refine below_set ?_ GE875.out) | exact HB.out)))); (case aL => have := LMc4.out; omega); intro v881 w11 ho hb hg hat; rw [← Ny880.out] at ho; have n0_ := Aside0.mk (blk_grown (g := gb875) (o := .cells #[.slice A0_0 l0_0.length c0_0, .slice A0_1 l0_1.length c0_1] 31 (0, 0)) (by (with_reducible repeat (first | refine blk_drewN ?_ _ | refine blk_drew ?_ | refine blk_alloc ?_ _)); exact BK875.out) hg (Kd.R_ne HO879.out BK875.out (by decide))); have n1_ := Aside0.mk (hb); have n2_ := Aside0.mk (ho); clear BK875; clear HB; clear HO879; have BK875 := n0_; have HB := n1_; have HO882 := n2_; clear n0_ n1_ n2_; clear ho hb hg hat; have hcz12_0 : w11.cell? ⟨gb875, 0, none⟩ = some (.slice A0_0 l0_0.length c0_0) := (blk_cell BK875.out 0).trans rfl; have hcz12_1 : w11.cell? ⟨gb875, 1, none⟩ = some (.slice A0_1 l0_1.length c0_1) := (blk_cell BK875.out 1).trans rfl; have hfz12_0 := blk_frozen BK875.out 0; have hfz12_1 := blk_frozen BK875.out 1))
      go_loopg [17] k (fun kq v17 w' => ∃ (x4_1 : List Int) (x17_1 : Int), v17 = .int .i64 x17_1 ∧ Aside0 (impl_TotalParts.l0 kq x4_1 l0_1 (l0_1.length : Int) x17_1 = some (r1, r2)) ∧ Aside0 (kq ≤ k) ∧ Aside0 (Kd.R (Kd.int .i64) 3 w' w.heap.size (fun _ => True) v881 x4_1) ∧ Aside0 (w'.heap[gb875]? = some (.cells #[(.slice A0_0 l0_0.length c0_0), (.slice A0_1 l0_1.length c0_1)] 31 (0, 0))) ∧ Aside0 (Below w.heap.size w w'))
      case atStart => exact ⟨(y880), (0), (by first | rfl | (simp; done) | (simp [*]; done)), H', ⟨Nat.le_refl _⟩, ⟨by (with_reducible repeat (first | apply Kd.R_alloc | apply Kd.R_drewN | apply Kd.R_drew)); exact HO882.out⟩, ⟨by (with_reducible repeat (first | refine blk_drewN ?_ _ | refine blk_drew ?_ | refine blk_alloc ?_ _)); exact BK875.out⟩, ⟨by repeat (first | (with_reducible first | exact HB.out | apply below_alloc | apply pw_below_drewN | apply below_drew1 | refine below_set ?_ GE875.out) | exact HB.out)⟩⟩
      case round =>
        clear H'
        try clear c1
        try clear p2
        try clear c3
        try clear c4
        try clear hcz10_0
        try clear hcz10_1
        try clear hcz12_0
        try clear hcz12_1
        try clear hcz6_0
        try clear hcz6_1
        try clear hfz10_0
        try clear hfz10_1
        try clear hfz12_0
        try clear hfz12_1
        try clear hfz6_0
        try clear hfz6_1
        obtain ⟨x4_1, x17_1, rfl, HA, HK1, HO_4, BK875, HB⟩ := hrel
        cases gk with
        | zero => exact absurd HA.out (by simp [impl_TotalParts.l0])
        | succ k1 =>
          have H := HA.out
          clear HA
          simp only [impl_TotalParts.l0] at H
          by_cases c13 : x17_1 < (l0_1.length : Int)
          · rw [if_pos c13] at H
            have c13b0 : decide (x17_1 < (l0_1.length : Int)) = true := decide_eq_true c13
            clear c13
            by_cases c14 : 0 ≤ x17_1
            · rw [if_pos c14] at H
              have c14b0 : decide (0 ≤ x17_1) = true := decide_eq_true c14
              clear c14
              by_cases c15 : x17_1 < (l0_1.length : Int)
              · rw [if_pos c15] at H
                have c15b0 : decide (x17_1 < (l0_1.length : Int)) = true := decide_eq_true c15
                clear c15
                by_cases c16 : 0 ≤ ((rd_T50 l0_1 x17_1).f1)
                · rw [if_pos c16] at H
                  have c16b0 : decide (0 ≤ ((rd_T50 l0_1 x17_1).f1)) = true := decide_eq_true c16
                  clear c16
                  by_cases c17 : ((rd_T50 l0_1 x17_1).f1) < (x4_1.length : Int)
                  · rw [if_pos c17] at H
                    have c17b0 : decide (((rd_T50 l0_1 x17_1).f1) < (x4_1.length : Int)) = true := decide_eq_true c17
                    clear c17
                    obtain ⟨y886, hy886⟩ : ∃ y_ : List Int, y_ = (x4_1.set (((rd_T50 l0_1 x17_1).f1) : Int).toNat (wrap64 ((rd x4_1 ((rd_T50 l0_1 x17_1).f1)) + ((rd_T50 l0_1 x17_1).f2)))) := ⟨_, rfl⟩
                    replace H : (impl_TotalParts.l0 k1 y886 l0_1 (l0_1.length : Int) (wrap64 (x17_1 + 1))) = some (r1, r2) := by first | (rw [hy886]; with_reducible exact H) | (have H2_ := (Option.bind_some _ _).symm.trans H; rw [hy886]; with_reducible exact H2_) | (have H2_ := (Option.bind_some _ _).symm.trans H; with_reducible exact H2_) | with_reducible exact H | (rw [hy886]; exact H) | exact H
                    have Ny886 := Aside0.mk hy886
                    clear hy886
                    have H' := Aside0.mk H
                    clear H
                    have p883 : 0 ≤ (x17_1 : Int) := of_decide_eq_true (by first | (with_reducible assumption) | assumption)
                    have q883 : x17_1 < (l0_1.length : Int) := of_decide_eq_true (by first | (with_reducible assumption) | assumption)
                    obtain ⟨ad883, e883, hx883_0, hx883_1, hx883_2, hx883_3⟩ := at_T50 HR0_1.out x17_1 p883 q883
                    cases e883
                    replace hx883_0 := (HB.out.cell (World.block_lt_of_cell? w _ hx883_0)).trans hx883_0
                    replace hx883_1 := (HB.out.cell (World.block_lt_of_cell? w _ hx883_1)).trans hx883_1
                    replace hx883_2 := (HB.out.cell (World.block_lt_of_cell? w _ hx883_2)).trans hx883_2
                    replace hx883_3 := (HB.out.cell (World.block_lt_of_cell? w _ hx883_3)).trans hx883_3
                    replace p883 := eq_true p883
                    replace q883 := eq_true q883
                    try go_wp2_with (first | ((with_reducible refine gate_dst (N := 6) rfl ?_); refine box_event ?hg (N := 6) ?hd (cs := #[.int .i64 0, .int .i64 0, .int .i64 0, .int .i64 0]) (t := 50) ?hr ?_; (case hd => rfl); (case hg => rfl); (case hr => first | (go_simp; done) | (go_simp; rfl)); intro gb884 hg w19 hbox hb; have n0_ := Aside0.mk (Kd.R_below (by (with_reducible repeat (first | apply Kd.R_alloc | apply Kd.R_drewN | apply Kd.R_drew)); exact HO_4.out) hb); have n1_ := Aside0.mk (blk_below (g := gb875) (o := .cells #[.slice A0_0 l0_0.length c0_0, .slice (some ad883) l0_1.length c0_1] 31 (0, 0)) (by (with_reducible repeat (first | refine blk_drewN ?_ _ | refine blk_drew ?_ | refine blk_alloc ?_ _)); exact BK875.out) hb); have n2_ := Aside0.mk (below_step (by repeat (first | (with_reducible first | exact HB.out | apply below_alloc | apply pw_below_drewN | apply below_drew1 | refine below_set ?_ GE875.out) | exact HB.out)) hb); have n3_ := Aside0.mk (hbox); have n4_ := Aside0.mk ((by rw [hg]; exact (below_size (by repeat (first | (with_reducible first | exact HB.out | apply below_alloc | apply pw_below_drewN | apply below_drew1 | refine below_set ?_ GE875.out) | exact HB.out))) : w.heap.size ≤ gb884)); have n5_ := Aside0.mk ((by rw [hg]; exact (below_size (by repeat (first | (with_reducible first | exact HB.out | apply below_alloc | apply pw_below_drewN | apply below_drew1 | refine below_set ?_ GE875.out) | exact HB.out))) : w.heap.size ≤ gb884)); have n6_ := Aside0.mk ((by rw [hg]; exact Nat.ne_of_lt (blk_lt (g := gb875) (o := .cells #[.slice A0_0 l0_0.length c0_0, .slice (some ad883) l0_1.length c0_1] 31 (0, 0)) (by (with_reducible repeat (first | refine blk_drewN ?_ _ | refine blk_drew ?_ | refine blk_alloc ?_ _)); exact BK875.out)) : gb875 ≠ gb884)); have n7_ := Aside0.mk ((by rw [hg]; exact Nat.ne_of_gt (blk_lt (g := gb875) (o := .cells #[.slice A0_0 l0_0.length c0_0, .slice (some ad883) l0_1.length c0_1] 31 (0, 0)) (by (with_reducible repeat (first | refine blk_drewN ?_ _ | refine blk_drew ?_ | refine blk_alloc ?_ _)); exact BK875.out)) : gb884 ≠ gb875)); clear HO_4; clear BK875; clear HB; have HO_4 := n0_; have BK875 := n1_; have HB := n2_; have BK884 := n3_; have GW884 := n4_; have GE884 := n5_; have NB875_884 := n6_; have NB884_875 := n7_; clear n0_ n1_ n2_ n3_ n4_ n5_ n6_ n7_; clear hb hbox hg; have hnb20 := NB884_875.out; have hnc20 := NB875_884.out; have hcz21_0 : w19.cell? ⟨gb884, 0, none⟩ = some (.int .i64 0) := (blk_cell BK884.out 0).trans rfl; have hcz21_1 : w19.cell? ⟨gb884, 1, none⟩ = some (.int .i64 0) := (blk_cell BK884.out 1).trans rfl; have hcz21_2 : w19.cell? ⟨gb884, 2, none⟩ = some (.int .i64 0) := (blk_cell BK884.out 2).trans rfl; have hcz21_3 : w19.cell? ⟨gb884, 3, none⟩ = some (.int .i64 0) := (blk_cell BK884.out 3).trans rfl; have hfz21_0 := blk_frozen BK884.out 0; have hfz21_1 := blk_frozen BK884.out 1; have hfz21_2 := blk_frozen BK884.out 2; have hfz21_3 := blk_frozen BK884.out 3))
                    have n0_ : Aside0 (Kd.R (Kd.int .i64) 3 ((((w19.setCell ⟨gb884, 0, none⟩ (.int .i64 ((rd_T50 l0_1 x17_1).f0))).setCell ⟨gb884, 1, none⟩ (.int .i64 ((rd_T50 l0_1 x17_1).f1))).setCell ⟨gb884, 2, none⟩ (.int .i64 ((rd_T50 l0_1 x17_1).f2))).setCell ⟨gb884, 3, none⟩ (.int .i64 ((rd_T50 l0_1 x17_1).f3))) w.heap.size (fun _ => True) v881 x4_1) := ⟨by (with_reducible repeat (first | apply Kd.R_alloc | apply Kd.R_drewN | apply Kd.R_drew)); exact Kd.R_mono (Kd.R_far (p := ⟨gb884, 3, none⟩) (Kd.R_far (p := ⟨gb884, 2, none⟩) (Kd.R_far (p := ⟨gb884, 1, none⟩) (Kd.R_far (p := ⟨gb884, 0, none⟩) (Kd.R_types HO_4.out BK884.out (by decide)) (fun _ hk => hk.2) (.int .i64 ((rd_T50 l0_1 x17_1).f0))) (fun _ hk => hk.2) (.int .i64 ((rd_T50 l0_1 x17_1).f1))) (fun _ hk => hk.2) (.int .i64 ((rd_T50 l0_1 x17_1).f2))) (fun _ hk => hk.2) (.int .i64 ((rd_T50 l0_1 x17_1).f3))) (fun _ hk => trivial)⟩
                    have n1_ : Aside0 (((((w19.setCell ⟨gb884, 0, none⟩ (.int .i64 ((rd_T50 l0_1 x17_1).f0))).setCell ⟨gb884, 1, none⟩ (.int .i64 ((rd_T50 l0_1 x17_1).f1))).setCell ⟨gb884, 2, none⟩ (.int .i64 ((rd_T50 l0_1 x17_1).f2))).setCell ⟨gb884, 3, none⟩ (.int .i64 ((rd_T50 l0_1 x17_1).f3))).heap[gb875]? = some (.cells #[.slice A0_0 l0_0.length c0_0, .slice (some ad883) l0_1.length c0_1] 31 (0, 0))) := ⟨by (with_reducible repeat (first | refine blk_drewN ?_ _ | refine blk_drew ?_ | refine blk_alloc ?_ _)); refine blk_far ?_ NB875_884.out _; (with_reducible repeat (first | refine blk_drewN ?_ _ | refine blk_drew ?_ | refine blk_alloc ?_ _)); refine blk_far ?_ NB875_884.out _; (with_reducible repeat (first | refine blk_drewN ?_ _ | refine blk_drew ?_ | refine blk_alloc ?_ _)); refine blk_far ?_ NB875_884.out _; (with_reducible repeat (first | refine blk_drewN ?_ _ | refine blk_drew ?_ | refine blk_alloc ?_ _)); refine blk_far ?_ NB875_884.out _; (with_reducible repeat (first | refine blk_drewN ?_ _ | refine blk_drew ?_ | refine blk_alloc ?_ _)); exact BK875.out⟩
                    have n2_ : Aside0 (((((w19.setCell ⟨gb884, 0, none⟩ (.int .i64 ((rd_T50 l0_1 x17_1).f0))).setCell ⟨gb884, 1, none⟩ (.int .i64 ((rd_T50 l0_1 x17_1).f1))).setCell ⟨gb884, 2, none⟩ (.int .i64 ((rd_T50 l0_1 x17_1).f2))).setCell ⟨gb884, 3, none⟩ (.int .i64 ((rd_T50 l0_1 x17_1).f3))).heap[gb884]? = some (.cells #[.int .i64 ((rd_T50 l0_1 x17_1).f0), .int .i64 ((rd_T50 l0_1 x17_1).f1), .int .i64 ((rd_T50 l0_1 x17_1).f2), .int .i64 ((rd_T50 l0_1 x17_1).f3)] 50 (0, 0))) := ⟨by (with_reducible repeat (first | refine blk_drewN ?_ _ | refine blk_drew ?_ | refine blk_alloc ?_ _)); refine blk_put (cs := #[.int .i64 ((rd_T50 l0_1 x17_1).f0), .int .i64 ((rd_T50 l0_1 x17_1).f1), .int .i64 ((rd_T50 l0_1 x17_1).f2), .int .i64 0]) ?_ 3 _ rfl; (with_reducible repeat (first | refine blk_drewN ?_ _ | refine blk_drew ?_ | refine blk_alloc ?_ _)); refine blk_put (cs := #[.int .i64 ((rd_T50 l0_1 x17_1).f0), .int .i64 ((rd_T50 l0_1 x17_1).f1), .int .i64 0, .int .i64 0]) ?_ 2 _ rfl; (with_reducible repeat (first | refine blk_drewN ?_ _ | refine blk_drew ?_ | refine blk_alloc ?_ _)); refine blk_put (cs := #[.int .i64 ((rd_T50 l0_1 x17_1).f0), .int .i64 0, .int .i64 0, .int .i64 0]) ?_ 1 _ rfl; (with_reducible repeat (first | refine blk_drewN ?_ _ | refine blk_drew ?_ | refine blk_alloc ?_ _)); refine blk_put (cs := #[.int .i64 0, .int .i64 0, .int .i64 0, .int .i64 0]) ?_ 0 _ rfl; (with_reducible repeat (first | refine blk_drewN ?_ _ | refine blk_drew ?_ | refine blk_alloc ?_ _)); exact BK884.out⟩
                    have n3_ : Aside0 (Below w.heap.size w ((((w19.setCell ⟨gb884, 0, none⟩ (.int .i64 ((rd_T50 l0_1 x17_1).f0))).setCell ⟨gb884, 1, none⟩ (.int .i64 ((rd_T50 l0_1 x17_1).f1))).setCell ⟨gb884, 2, none⟩ (.int .i64 ((rd_T50 l0_1 x17_1).f2))).setCell ⟨gb884, 3, none⟩ (.int .i64 ((rd_T50 l0_1 x17_1).f3)))) := ⟨by repeat (first | (with_reducible first | exact HB.out | apply below_alloc | apply pw_below_drewN | apply below_drew1 | refine below_set ?_ GE875.out | refine below_set ?_ GE884.out) | exact HB.out)⟩
                    (try clear HO_4)
                    (try clear BK875)
                    (try clear BK884)
                    (try clear HB)
                    generalize ((((w19.setCell ⟨gb884, 0, none⟩ (.int .i64 ((rd_T50 l0_1 x17_1).f0))).setCell ⟨gb884, 1, none⟩ (.int .i64 ((rd_T50 l0_1 x17_1).f1))).setCell ⟨gb884, 2, none⟩ (.int .i64 ((rd_T50 l0_1 x17_1).f2))).setCell ⟨gb884, 3, none⟩ (.int .i64 ((rd_T50 l0_1 x17_1).f3))) = w22 at n0_ n1_ n2_ n3_ ⊢
                    have HO_4 := n0_
                    have BK875 := n1_
                    have BK884 := n2_
                    have HB := n3_
                    clear n0_ n1_ n2_ n3_
                    have n0_ := Aside0.mk (Kd.R_drew HO_4.out)
                    have n1_ := Aside0.mk (blk_drew BK875.out)
                    have n2_ := Aside0.mk (blk_drew BK884.out)
                    have n3_ := Aside0.mk (below_drew1 HB.out)
                    clear HO_4
                    clear BK875
                    clear BK884
                    clear HB
                    have HO_4 := n0_
                    have BK875 := n1_
                    have BK884 := n2_
                    have HB := n3_
                    clear n0_ n1_ n2_ n3_
                    obtain ⟨Ao24, co24, eo24⟩ := Kd.R_slice HO_4.out
                    (first | subst eo24 | (injection eo24 with f1_ f2_ f3_; have f4_ := f1_.symm; have f5_ := f3_.symm; clear f1_ f2_ f3_; subst f4_; subst f5_))
                    have p885 : 0 ≤ (((rd_T50 l0_1 x17_1).f1) : Int) := of_decide_eq_true (by first | (with_reducible assumption) | assumption)
                    have q885 : ((rd_T50 l0_1 x17_1).f1) < (x4_1.length : Int) := of_decide_eq_true (by first | (with_reducible assumption) | assumption)
                    obtain ⟨ad885, e885, hx885_0⟩ := Kd.at_int (Kd.R_reads' HO_4.out).2.2 ((rd_T50 l0_1 x17_1).f1) p885 q885
                    cases e885
                    replace p885 := eq_true p885
                    replace q885 := eq_true q885
                    have p18 : 0 ≤ (((rd_T50 l0_1 x17_1).f1) : Int) := of_decide_eq_true (by first | (with_reducible assumption) | assumption)
                    have q18 : (((rd_T50 l0_1 x17_1).f1) : Int) < ((x4_1.length : Int) : Int) := of_decide_eq_true (by first | (with_reducible assumption) | assumption)
                    obtain ⟨go18, co18, eo18, gb18, gl18, cl18, HG18⟩ := Kd.R_form HO_4.out (by omega)
                    (first | cases eo18 | (injection eo18 with ea_ en_ ec_; (first | subst ea_ | (injection ea_ with ea_; subst ea_)); subst ec_; clear en_))
                    have GB18 := Aside0.mk gb18
                    have GG18 := Aside0.mk HG18
                    clear gb18 gl18 HG18
                    (first | simp only [add_plain] at hx885_0 | skip)
                    obtain ⟨hx18_0, hf18_0⟩ := Kd.R_celln 0 HO_4.out (((rd_T50 l0_1 x17_1).f1) : Int) p18 q18
                    replace p18 := eq_true p18
                    replace q18 := eq_true q18
                    have HP25 := Kd.R_putn HO_4.out (((rd_T50 l0_1 x17_1).f1) : Int) (wrap64 ((rd x4_1 ((rd_T50 l0_1 x17_1).f1)) + ((rd_T50 l0_1 x17_1).f2)))
                    rw [← Ny886.out] at HP25
                    have HQ25 := Aside0.mk HP25
                    clear HP25
                    refine start_ (n := 10) (S := fun w' => w'.cell? ⟨gb884, 0, none⟩ = some (.int .i64 ((rd_T50 l0_1 x17_1).f0)) ∧ w'.cell? ⟨gb884, 1, none⟩ = some (.int .i64 ((rd_T50 l0_1 x17_1).f1)) ∧ w'.cell? ⟨gb884, 2, none⟩ = some (.int .i64 ((rd_T50 l0_1 x17_1).f2)) ∧ w'.cell? ⟨gb884, 3, none⟩ = some (.int .i64 ((rd_T50 l0_1 x17_1).f3)) ∧ w'.cell? ⟨go18, ((rd_T50 l0_1 x17_1).f1).toNat, none⟩ = some (.int .i64 (rd x4_1 ((rd_T50 l0_1 x17_1).f1)))) (ds := [9]) #[false, false, false, false, false, false, false, false, false, false] (by kernel_rfl) rfl rfl ⟨(blk_cell BK884.out 0).trans rfl, (blk_cell BK884.out 1).trans rfl, (blk_cell BK884.out 2).trans rfl, (blk_cell BK884.out 3).trans rfl, hx885_0⟩ (fun hHeld => ?_); refine with_tabW impl_TotalParts.tab7 impl_TotalParts.bits7 (fun HT_ HW_ => ?_)
                    generalize w22.drew = w23 at HO_4 BK875 BK884 HB GG18 HQ25 hf18_0 hx18_0 hx885_0 hHeld ⊢
                    refine pure_ (i := 0) (N := some 21) (v := ?_) (a' := ?_) #[true, false, false, false, false, false, false, false, false, false] rfl rfl (any_of HT_.out (by kernel_rfl)) (fun _ _ _ h => h) (Or.inl ⟨by rfl, ?_⟩) ?_ ?_
                    rotate_left
                    · intro w'
                      go_simp
                      with_reducible rfl
                    rotate_left
                    · simp only [Act.put, List.setIfInBounds_toArray, List.set_cons_zero, List.set_cons_succ, i64_w, i32_w]
                      rfl
                    refine pure_ (i := 1) (N := some 22) (v := ?_) (a' := ?_) #[true, true, false, false, false, false, false, false, false, false] rfl rfl (any_of HT_.out (by kernel_rfl)) (fun _ _ _ h => h) (Or.inl ⟨by rfl, ?_⟩) ?_ ?_
                    rotate_left
                    · intro w'
                      go_simp
                      with_reducible rfl
                    rotate_left
                    · simp only [Act.put, List.setIfInBounds_toArray, List.set_cons_zero, List.set_cons_succ, i64_w, i32_w]
                      rfl
                    refine pure_ (i := 5) (N := some 26) (v := ?_) (a' := ?_) #[true, true, false, false, false, true, false, false, false, false] rfl rfl (any_of HT_.out (by kernel_rfl)) (fun _ _ _ h => h) (Or.inl ⟨by rfl, ?_⟩) ?_ ?_
                    rotate_left
                    · intro w'
                      go_simp
                      with_reducible rfl
                    rotate_left
                    · simp only [Act.put, List.setIfInBounds_toArray, List.set_cons_zero, List.set_cons_succ, i64_w, i32_w]
                      rfl
                    refine take_ (i := 2) (N := some 23) (v := ?_) (a' := ?_) #[true, true, true, false, false, true, false, false, false, false] rfl rfl (take_ofW HT_.out HW_.out (by kernel_rfl)) (fun _ _ _ h => h) (Or.inl ⟨by rfl, ?_⟩) hHeld ?_ ?_
                    rotate_left
                    · rintro w' ⟨s0, s1, s2, s3, s4⟩
                      go_simp
                      with_reducible rfl
                    rotate_left
                    · simp only [Act.put, List.setIfInBounds_toArray, List.set_cons_zero, List.set_cons_succ, i64_w, i32_w]
                      rfl
                    refine pure_ (i := 3) (N := some 24) (v := ?_) (a' := ?_) #[true, true, true, true, false, true, false, false, false, false] rfl rfl (any_of HT_.out (by kernel_rfl)) (fun _ _ _ h => h) (Or.inl ⟨by rfl, ?_⟩) ?_ ?_
                    rotate_left
                    · intro w'
                      go_simp
                      with_reducible rfl
                    rotate_left
                    · simp only [Act.put, List.setIfInBounds_toArray, List.set_cons_zero, List.set_cons_succ, i64_w, i32_w]
                      rfl
                    refine take_ (i := 4) (N := some 25) (v := ?_) (a' := ?_) #[true, true, true, true, true, true, false, false, false, false] rfl rfl (take_ofW HT_.out HW_.out (by kernel_rfl)) (fun _ _ _ h => h) (Or.inl ⟨by rfl, ?_⟩) hHeld ?_ ?_
                    rotate_left
                    · rintro w' ⟨s0, s1, s2, s3, s4⟩
                      go_simp
                      with_reducible rfl
                    rotate_left
                    · simp only [Act.put, List.setIfInBounds_toArray, List.set_cons_zero, List.set_cons_succ, i64_w, i32_w]
                      rfl
                    refine take_ (i := 6) (N := some 27) (v := ?_) (a' := ?_) #[true, true, true, true, true, true, true, false, false, false] rfl rfl (take_ofW HT_.out HW_.out (by kernel_rfl)) (fun _ _ _ h => h) (Or.inl ⟨by rfl, ?_⟩) hHeld ?_ ?_
                    rotate_left
                    · rintro w' ⟨s0, s1, s2, s3, s4⟩
                      go_simp
                      with_reducible rfl
                    rotate_left
                    · simp only [Act.put, List.setIfInBounds_toArray, List.set_cons_zero, List.set_cons_succ, i64_w, i32_w]
                      rfl
                    refine pure_ (i := 7) (N := some 28) (v := ?_) (a' := ?_) #[true, true, true, true, true, true, true, true, false, false] rfl rfl (any_of HT_.out (by kernel_rfl)) (fun _ _ _ h => h) (Or.inl ⟨by rfl, ?_⟩) ?_ ?_
                    rotate_left
                    · intro w'
                      go_simp
                      with_reducible rfl
                    rotate_left
                    · simp only [Act.put, List.setIfInBounds_toArray, List.set_cons_zero, List.set_cons_succ, i64_w, i32_w]
                      rfl
                    refine pure_ (i := 8) (N := some 29) (v := ?_) (a' := ?_) #[true, true, true, true, true, true, true, true, true, false] rfl rfl (any_of HT_.out (by kernel_rfl)) (fun _ _ _ h => h) (Or.inl ⟨by rfl, ?_⟩) ?_ ?_
                    rotate_left
                    · intro w'
                      go_simp
                      with_reducible rfl
                    rotate_left
                    · simp only [Act.put, List.setIfInBounds_toArray, List.set_cons_zero, List.set_cons_succ, i64_w, i32_w]
                      rfl
                    refine last_ (i := 9) (N := none) #[true, true, true, true, true, true, true, true, true, true] rfl rfl (one_of HT_.out (by kernel_rfl)) (by decide) (fun K hK => ?_)
                    refine skip_ (w1 := ?_) (by rfl) rfl ?_ ?_
                    rotate_left
                    · go_simp
                      rfl
                    refine hK.out _ _ ?_
                    clear hK K
                    refine done_ (done_of HT_.out (by kernel_rfl)) ?_
                    try go_wp2
                    go_roundg k1
                    case measure => have := HK1.out; omega
                    case rel => exact ⟨(y886), (wrap64 (x17_1 + 1)), (by first | rfl | (simp; done) | (simp [*]; done)), H', ⟨by have := HK1.out; omega⟩, ⟨by (with_reducible repeat (first | apply Kd.R_alloc | apply Kd.R_drewN | apply Kd.R_drew)); exact HQ25.out⟩, ⟨by (with_reducible repeat (first | refine blk_drewN ?_ _ | refine blk_drew ?_ | refine blk_alloc ?_ _)); refine blk_far ?_ (by have h_ := Kd.R_ne HO_4.out BK875.out (by decide); intro e_; exact h_ (by rw [e_]; rfl)) _; (with_reducible repeat (first | refine blk_drewN ?_ _ | refine blk_drew ?_ | refine blk_alloc ?_ _)); exact BK875.out⟩, ⟨by repeat (first | (with_reducible first | exact HB.out | apply below_alloc | apply pw_below_drewN | apply below_drew1 | refine below_set ?_ GB18.out | refine below_set ?_ GE875.out | refine below_set ?_ GE884.out) | exact HB.out)⟩⟩
                  · rw [if_neg c17] at H
                    exact absurd H (by simp)
                · rw [if_neg c16] at H
                  exact absurd H (by simp)
              · rw [if_neg c15] at H
                exact absurd H (by simp)
            · rw [if_neg c14] at H
              exact absurd H (by simp)
          · rw [if_neg c13] at H
            have c13b0 : decide (x17_1 < (l0_1.length : Int)) = false := decide_eq_false c13
            clear c13
            simp only [Option.some.injEq, Prod.mk.injEq] at H
            obtain ⟨rfl, rfl⟩ := H
            go_wp2
            go_ret2
            exact ⟨_, by first | rfl | (simp [errW_none, errW_some] <;> rfl) | (simp [*, errW_none, errW_some] <;> rfl), by (with_reducible repeat (first | apply Kd.R_alloc | apply Kd.R_drewN | apply Kd.R_drew)); exact HO_4.out, by repeat (first | (with_reducible first | exact HB.out | apply below_alloc | apply pw_below_drewN | apply below_drew1 | refine below_set ?_ GE875.out) | exact HB.out)⟩
    · rw [if_neg c4] at H
      exact absurd H (by simp)
  · replace c3 := Bool.eq_false_iff.mpr c3
    subst c3
    have H1 : (some (([] : List Int), false)) = some (r1, r2) := by rw [if_neg (show ¬ (false = true) by decide)] at H; exact H
    clear H
    have H := H1
    clear H1
    simp only [Option.some.injEq, Prod.mk.injEq] at H
    obtain ⟨rfl, rfl⟩ := H
    go_enter Try.func16, Try.ntmps16
    go_wp2_with (first | ((with_reducible refine gate_dst (N := 1) rfl ?_); refine box_event ?hg (N := 1) ?hd (cs := #[.slice A0_0 l0_0.length c0_0, .slice A0_1 l0_1.length c0_1]) (t := 31) ?hr ?_; (case hd => rfl); (case hg => rfl); (case hr => first | (go_simp; done) | (go_simp; rfl)); intro gb875 hg w26 hbox hb; have n0_ := Aside0.mk (below_step (by repeat (first | (with_reducible first | exact HB.out | apply below_alloc | apply pw_below_drewN | apply below_drew1) | exact HB.out)) hb); have n1_ := Aside0.mk (hbox); have n2_ := Aside0.mk ((by rw [hg]; exact (below_size (by repeat (first | (with_reducible first | exact HB.out | apply below_alloc | apply pw_below_drewN | apply below_drew1) | exact HB.out))) : w.heap.size ≤ gb875)); have n3_ := Aside0.mk ((by rw [hg]; exact (below_size (by repeat (first | (with_reducible first | exact HB.out | apply below_alloc | apply pw_below_drewN | apply below_drew1) | exact HB.out))) : w.heap.size ≤ gb875)); clear HB; have HB := n0_; have BK875 := n1_; have GW875 := n2_; have GE875 := n3_; clear n0_ n1_ n2_ n3_; clear hb hbox hg; have hcz27_0 : w26.cell? ⟨gb875, 0, none⟩ = some (.slice A0_0 l0_0.length c0_0) := (blk_cell BK875.out 0).trans rfl; have hcz27_1 : w26.cell? ⟨gb875, 1, none⟩ = some (.slice A0_1 l0_1.length c0_1) := (blk_cell BK875.out 1).trans rfl; have hfz27_0 := blk_frozen BK875.out 0; have hfz27_1 := blk_frozen BK875.out 1) | ((with_reducible refine gate_callee (f := 46) rfl ?_); refine goesL_ (some 8) rfl rfl Try.func46 (by kernel_rfl) rfl #[.agg #[.slice A0_0 l0_0.length c0_0, .slice A0_1 l0_1.length c0_1]] rfl (by (try simp only [List.map_toArray, List.map_cons, List.map_nil]); first | done | rfl | (simp only [List.length_drop, List.length_take]; rfl)) ?_; (with_reducible refine (impl_IsShop.calls k _ _ l0_0 _ _ l0_1 false _ ?side1 ?side2 ?side3 ?side4 A2.out).mono ?_); (case side1 => repeat (first | exact (Kd.C_below HR0_0.out HB.out) | (with_reducible refine Kd.C_alloc ?_ _) | (with_reducible refine Kd.C_drewN ?_ _) | (with_reducible refine Kd.C_drew ?_))); (case side2 => exact HC0_0.out); (case side3 => repeat (first | exact (Kd.C_below HR0_1.out HB.out) | (with_reducible refine Kd.C_alloc ?_ _) | (with_reducible refine Kd.C_drewN ?_ _) | (with_reducible refine Kd.C_drew ?_))); (case side4 => exact HC0_1.out); rintro e w28 ⟨rfl, hb⟩; refine ⟨_, rfl, ?_⟩; have n0_ := Aside0.mk (blk_below (g := gb875) (o := .cells #[.slice A0_0 l0_0.length c0_0, .slice A0_1 l0_1.length c0_1] 31 (0, 0)) (by (with_reducible repeat (first | refine blk_drewN ?_ _ | refine blk_drew ?_ | refine blk_alloc ?_ _)); exact BK875.out) hb); have n1_ := Aside0.mk (below_step (by repeat (first | (with_reducible first | exact HB.out | apply below_alloc | apply pw_below_drewN | apply below_drew1 | refine below_set ?_ GE875.out) | exact HB.out)) hb); clear BK875; clear HB; have BK875 := n0_; have HB := n1_; clear n0_ n1_; (try clear hb); (try clear hb2); (try clear hk); (try clear hi)))
    go_ret2
    exact ⟨_, by first | rfl | (simp [errW_none, errW_some] <;> rfl) | (simp [*, errW_none, errW_some] <;> rfl), by first | exact Kd.R_nil _ _ _ _ _ | exact Kd.N_nil _ _ _ _ _ | exact Kd.V_nil _ _ _ _ _ | exact Kd.Q_nil _ _ _ _ _ | exact Kd.S_nil _ _ _ _ _, by repeat (first | (with_reducible first | exact HB.out | apply below_alloc | apply pw_below_drewN | apply below_drew1 | refine below_set ?_ GE875.out) | exact HB.out)⟩



end Go.Proofs.Ythkhogecdeeomaa.Pall
