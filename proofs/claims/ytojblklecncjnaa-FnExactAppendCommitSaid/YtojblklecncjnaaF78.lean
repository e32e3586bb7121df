-- written by the kit's print program, cut into a text a function by a program
import Derived.Test.YtojblklecncjnaaF18
import Derived.Test.YtojblklecncjnaaF62
import Derived.Test.YtojblklecncjnaaF90
namespace Go.Proofs.Ytojblklecncjnaa.Pall
open Go.RowKit Go.Proofs.YtojblklecncjnaaW.PrintWords Go.Proofs.YtojblklecncjnaaW.PrintLast Go.Proofs.YtojblklecncjnaaW.PrintMore
attribute [local go_sem] max2_int min2_int max_two min_two max_three min_three max_four min_four   -- for this text's walks alone
set_option linter.unusedVariables false
set_option linter.unusedSimpArgs false
/-! ### impl_recovered: function 78 -/
mutual
def impl_recovered.l0 : Nat → List Int → List (S25) → Int → Option ((List (S25)))
  | 0, _, _, _ => none
  | k + 1, x0, x3, x4 => if x4 < 40 then (impl_recovered.j1 k x0 x3 x4 (decide ((wrap64 ((wrap64 (5 * x4)) + 5)) ≤ (x0.length : Int)))) else (impl_recovered.j1 k x0 x3 x4 false)
def impl_recovered.j1 : Nat → List Int → List (S25) → Int → Bool → Option ((List (S25)))
  | 0, _, _, _, _ => none
  | k + 1, x0, x3, x4, x17 => if x17 = true then (if 0 ≤ (wrap64 (5 * x4)) then (if (wrap64 (5 * x4)) ≤ (wrap64 ((wrap64 (5 * x4)) + 5)) then (if (wrap64 ((wrap64 (5 * x4)) + 5)) ≤ (x0.length : Int) then (if 0 < (((x0.take ((wrap64 ((wrap64 (5 * x4)) + 5)) : Int).toNat).drop ((wrap64 (5 * x4)) : Int).toNat).length : Int) then (if 1 < (((x0.take ((wrap64 ((wrap64 (5 * x4)) + 5)) : Int).toNat).drop ((wrap64 (5 * x4)) : Int).toNat).length : Int) then (if 2 < (((x0.take ((wrap64 ((wrap64 (5 * x4)) + 5)) : Int).toNat).drop ((wrap64 (5 * x4)) : Int).toNat).length : Int) then ((impl_IsJournalRecord.f (rd ((x0.take ((wrap64 ((wrap64 (5 * x4)) + 5)) : Int).toNat).drop ((wrap64 (5 * x4)) : Int).toNat) 0) (rd ((x0.take ((wrap64 ((wrap64 (5 * x4)) + 5)) : Int).toNat).drop ((wrap64 (5 * x4)) : Int).toNat) 1) (rd ((x0.take ((wrap64 ((wrap64 (5 * x4)) + 5)) : Int).toNat).drop ((wrap64 (5 * x4)) : Int).toNat) 2)).bind fun t196 => (if t196 = true then ((impl_recordNumbers.f (rd ((x0.take ((wrap64 ((wrap64 (5 * x4)) + 5)) : Int).toNat).drop ((wrap64 (5 * x4)) : Int).toNat) 0) (rd ((x0.take ((wrap64 ((wrap64 (5 * x4)) + 5)) : Int).toNat).drop ((wrap64 (5 * x4)) : Int).toNat) 1) (rd ((x0.take ((wrap64 ((wrap64 (5 * x4)) + 5)) : Int).toNat).drop ((wrap64 (5 * x4)) : Int).toNat) 2) x4).bind fun t197 => ((slices_Equal_int_int.f k t197 ((x0.take ((wrap64 ((wrap64 (5 * x4)) + 5)) : Int).toNat).drop ((wrap64 (5 * x4)) : Int).toNat)).bind fun t200 => (if t200 = true then (if x3.length < 5864062014805 then (impl_recovered.l0 k x0 (x3 ++ [(⟨rd ((x0.take ((wrap64 ((wrap64 (5 * x4)) + 5)) : Int).toNat).drop ((wrap64 (5 * x4)) : Int).toNat) 0, rd ((x0.take ((wrap64 ((wrap64 (5 * x4)) + 5)) : Int).toNat).drop ((wrap64 (5 * x4)) : Int).toNat) 1, rd ((x0.take ((wrap64 ((wrap64 (5 * x4)) + 5)) : Int).toNat).drop ((wrap64 (5 * x4)) : Int).toNat) 2⟩ : S25)]) (wrap64 (x4 + 1))) else (none)) else (some x3)))) else (some x3))) else (none)) else (none)) else (none)) else (none)) else (none)) else (none)) else (some x3)
end
def impl_recovered.f (k : Nat) (l0 : List Int) : Option ((List (S25))) := impl_recovered.l0 k l0 (([] : List (S25))) 0
theorem impl_recovered.mono_l : ∀ k, (∀ y0 y1 y2, LeO (impl_recovered.l0 k y0 y1 y2) (impl_recovered.l0 (k + 1) y0 y1 y2)) ∧ (∀ y0 y1 y2 y3, LeO (impl_recovered.j1 k y0 y1 y2 y3) (impl_recovered.j1 (k + 1) y0 y1 y2 y3))
  | 0 => ⟨fun _ _ _ r h => by simp [impl_recovered.l0] at h, fun _ _ _ _ r h => by simp [impl_recovered.j1] at h⟩
  | k + 1 => by
    obtain ⟨ih0, ih1⟩ := impl_recovered.mono_l k
    refine ⟨?_, ?_⟩
    · intro y0 y1 y2
      unfold impl_recovered.l0
      repeat' first
      | (with_reducible exact ih0 _ _ _)
      | (with_reducible exact ih1 _ _ _ _)
      | (with_reducible exact slices_Equal_int_int.mono _ _ _)
      | (with_reducible exact LeO.refl _)
      | (with_reducible exact LeO.none _)
      | (with_reducible refine LeO.ite ?_ ?_)
      | (with_reducible refine LeO.bind ?_ (fun _ => ?_))
      | exact ih0 _ _ _
      | exact ih1 _ _ _ _
      | exact slices_Equal_int_int.mono _ _ _
      | exact LeO.none _
      | refine LeO.ite ?_ ?_
      | refine LeO.bind ?_ (fun _ => ?_)
    · intro y0 y1 y2 y3
      unfold impl_recovered.j1
      repeat' first
      | (with_reducible exact ih0 _ _ _)
      | (with_reducible exact ih1 _ _ _ _)
      | (with_reducible exact slices_Equal_int_int.mono _ _ _)
      | (with_reducible exact LeO.refl _)
      | (with_reducible exact LeO.none _)
      | (with_reducible refine LeO.ite ?_ ?_)
      | (with_reducible refine LeO.bind ?_ (fun _ => ?_))
      | exact ih0 _ _ _
      | exact ih1 _ _ _ _
      | exact slices_Equal_int_int.mono _ _ _
      | exact LeO.none _
      | refine LeO.ite ?_ ?_
      | refine LeO.bind ?_ (fun _ => ?_)
theorem impl_recovered.mono : ∀ a0 k, LeO (impl_recovered.f k a0) (impl_recovered.f (k + 1) a0) := by
  intro a0 k
  obtain ⟨ih0, ih1⟩ := impl_recovered.mono_l k
  unfold impl_recovered.f
  repeat' first
      | (with_reducible exact ih0 _ _ _)
      | (with_reducible exact ih1 _ _ _ _)
      | (with_reducible exact slices_Equal_int_int.mono _ _ _)
      | (with_reducible exact LeO.refl _)
      | (with_reducible exact LeO.none _)
      | (with_reducible refine LeO.ite ?_ ?_)
      | (with_reducible refine LeO.bind ?_ (fun _ => ?_))
      | exact ih0 _ _ _
      | exact ih1 _ _ _ _
      | exact slices_Equal_int_int.mono _ _ _
      | exact LeO.none _
      | refine LeO.ite ?_ ?_
      | refine LeO.bind ?_ (fun _ => ?_)
def impl_recovered.T6 : Bool × List (List Nat × List Nat) := (true, [([], []), ([0], [0]), ([1], [1]), ([], []), ([3], [3]), ([4], [4]), ([], []), ([6], [6]), ([7], [7]), ([2, 5, 8], [2, 5, 8]), ([], []), ([10, 9, 0, 1, 2, 3, 4, 5, 6, 7, 8, 9, 10], [9, 10])])
def impl_recovered.B6 : List Nat := [0, 1, 3, 0, 8, 24, 0, 64, 192, 511, 0, 2047]
theorem impl_recovered.tab6 : rtab .any (opsOf Try.f78 6) = impl_recovered.T6 := by kernel_rfl
theorem impl_recovered.bits6 : waitsOk impl_recovered.T6.2 impl_recovered.B6 = true := by kernel_rfl
set_option maxHeartbeats 8000000 in
set_option maxRecDepth 100000 in
theorem impl_recovered.calls (k : Nat) (A0 : Option Addr) (c0 : Nat) (l0 : List Int) (r : List (S25)) (w : World) (hr0 : Kd.C (Kd.int .i64) w A0 l0.length l0) (hc0 : l0.length ≤ c0) (h : impl_recovered.f k l0 = some r) :
    Calls Try.prog 78 #[.slice A0 l0.length c0] w fun e w' => ∃ v0_ : Value, e = .returned (v0_) ∧ Kd.R k25 25 w' w.heap.size (fun _ => True) v0_ r ∧ Below w.heap.size w w' := by
  have hu25 := Try.underlying25
  have HR0 := Aside0.mk hr0
  have HC0 := Aside0.mk hc0
  clear hr0 hc0
  have HB := Aside0.mk (Below.refl w.heap.size w)
  have H : (impl_recovered.l0 k l0 (([] : List (S25))) 0) = some r := h
  clear h
  obtain ⟨y188, hy188⟩ : ∃ y_ : List (S25), y_ = (([] : List (S25))) := ⟨_, rfl⟩
  replace H : (impl_recovered.l0 k l0 y188 0) = some r := by first | (rw [hy188]; with_reducible exact H) | (have H2_ := (Option.bind_some _ _).symm.trans H; rw [hy188]; with_reducible exact H2_) | (have H2_ := (Option.bind_some _ _).symm.trans H; with_reducible exact H2_) | with_reducible exact H | (rw [hy188]; exact H) | exact H
  have Ny188 := Aside0.mk hy188
  clear hy188
  have H' := Aside0.mk H
  clear H
  go_enter Try.func78, Try.ntmps78
  go_wp2_with (first | ((with_reducible refine gate_dst (N := 7) rfl ?_); (try (refine gate_guard (by rfl) ?_; dsimp only)); refine Kd.R_lit k25 _ 25 ?hg (N := 7) ?hd (xs := ([] : List (S25))) (inner := []) (ok := fun _ => True) (okp := fun _ => True) ?hr ?hp (fun _ hk => hk) trivial (Below.refl _ _) (Nat.le_refl _) (by simp) ?_; (case hd => rfl); (case hg => rfl); (case hr => first | (go_simp; done) | (go_simp; rfl)); (case hp => exact (Reps.none _ _)); intro v189 w2 ho3 hb hg_ hnew_; clear hg_ hnew_; (first | rw [← Ny188.out] at ho3 | (simp only [Int.reduceToNat] at ho3; rw [← Ny188.out] at ho3)); have n0_ := Aside0.mk (Kd.R_lower ho3 (below_size (by repeat (first | (with_reducible first | exact HB.out | apply below_alloc | apply pw_below_drewN | apply below_drew1) | exact HB.out)))); have n1_ := Aside0.mk (below_step (by repeat (first | (with_reducible first | exact HB.out | apply below_alloc | apply pw_below_drewN | apply below_drew1) | exact HB.out)) hb); clear HB; have HO190 := n0_; have HB := n1_; clear n0_ n1_; clear hb ho3))
  go_loopg [3, 4] k (fun kq v3 v4 w' => ∃ (x3_1 : List (S25)) (x4_1 : Int), v4 = .int .i64 x4_1 ∧ Aside0 (impl_recovered.l0 kq l0 x3_1 x4_1 = some r) ∧ Aside0 (kq ≤ k) ∧ Aside0 (Kd.R k25 25 w' w.heap.size (fun _ => True) v3 x3_1) ∧ Aside0 (Below w.heap.size w w'))
  case atStart => exact ⟨(y188), (0), (by first | rfl | (simp; done) | (simp [*]; done)), H', ⟨Nat.le_refl _⟩, ⟨by (with_reducible repeat (first | apply Kd.R_alloc | apply Kd.R_drewN | apply Kd.R_drew)); exact HO190.out⟩, ⟨by repeat (first | (with_reducible first | exact HB.out | apply below_alloc | apply pw_below_drewN | apply below_drew1) | exact HB.out)⟩⟩
  case round =>
    clear H'
    try clear p2
    obtain ⟨x3_1, x4_1, rfl, HA, HK1, HO_3, HB⟩ := hrel
    cases gk with
    | zero => exact absurd HA.out (by simp [impl_recovered.l0])
    | succ k1 =>
      have H := HA.out
      clear HA
      simp only [impl_recovered.l0] at H
      have HC4 := Aside0.mk H
      clear H
      go_upto_region 3 with (fail)
      go_cut [17] (fun v17 wc => ∃ (kq : Nat) (x17_3 : Bool), v17 = .bool x17_3 ∧ Aside0 (impl_recovered.j1 kq l0 x3_1 x4_1 x17_3 = some r) ∧ Aside0 (kq ≤ k1) ∧ Aside0 (Kd.R k25 25 wc w.heap.size (fun _ => True) u3 x3_1) ∧ Aside0 (Below w.heap.size w wc))
      case first =>
        have H := HC4.out
        clear HC4
        by_cases c5 : x4_1 < 40
        · rw [if_pos c5] at H
          have c5b0 : decide (x4_1 < 40) = true := decide_eq_true c5
          clear c5
          (first | rw [c5b0] | (simp only [i64_w, i32_w]; rw [c5b0]) | skip)
          have H' := Aside0.mk H
          clear H
          go_wp2
          go_meet
          case rel => exact ⟨_, (decide ((wrap64 ((wrap64 (5 * x4_1)) + 5)) ≤ (l0.length : Int))), (by first | rfl | (simp; done) | (simp [*]; done)), H', ⟨by have := HK1.out; first | omega | exact Nat.le_refl _⟩, ⟨by (with_reducible repeat (first | apply Kd.R_alloc | apply Kd.R_drewN | apply Kd.R_drew)); exact HO_3.out⟩, ⟨by repeat (first | (with_reducible first | exact HB.out | apply below_alloc | apply pw_below_drewN | apply below_drew1) | exact HB.out)⟩⟩
        · rw [if_neg c5] at H
          have c5b0 : decide (x4_1 < 40) = false := decide_eq_false c5
          clear c5
          (first | rw [c5b0] | (simp only [i64_w, i32_w]; rw [c5b0]) | skip)
          have H' := Aside0.mk H
          clear H
          go_wp2
          go_meet
          case rel => exact ⟨_, (false), (by first | rfl | (simp; done) | (simp [*]; done)), H', ⟨by have := HK1.out; first | omega | exact Nat.le_refl _⟩, ⟨by (with_reducible repeat (first | apply Kd.R_alloc | apply Kd.R_drewN | apply Kd.R_drew)); exact HO_3.out⟩, ⟨by repeat (first | (with_reducible first | exact HB.out | apply below_alloc | apply pw_below_drewN | apply below_drew1) | exact HB.out)⟩⟩
      case rest =>
        clear HC4
        try clear p2
        try clear c5
        try clear c5b0
        try clear p2
        obtain ⟨kq, x17_3, rfl, HA, HJ3, HO_3, HB⟩ := hcut
        cases kq with
        | zero => exact absurd HA.out (by simp [impl_recovered.j1])
        | succ kj3 =>
          have H := HA.out
          clear HA
          simp only [impl_recovered.j1] at H
          by_cases c6 : x17_3 = true
          · subst c6
            have H1 : (if 0 ≤ (wrap64 (5 * x4_1)) then (if (wrap64 (5 * x4_1)) ≤ (wrap64 ((wrap64 (5 * x4_1)) + 5)) then (if (wrap64 ((wrap64 (5 * x4_1)) + 5)) ≤ (l0.length : Int) then (if 0 < (((l0.take ((wrap64 ((wrap64 (5 * x4_1)) + 5)) : Int).toNat).drop ((wrap64 (5 * x4_1)) : Int).toNat).length : Int) then (if 1 < (((l0.take ((wrap64 ((wrap64 (5 * x4_1)) + 5)) : Int).toNat).drop ((wrap64 (5 * x4_1)) : Int).toNat).length : Int) then (if 2 < (((l0.take ((wrap64 ((wrap64 (5 * x4_1)) + 5)) : Int).toNat).drop ((wrap64 (5 * x4_1)) : Int).toNat).length : Int) then ((impl_IsJournalRecord.f (rd ((l0.take ((wrap64 ((wrap64 (5 * x4_1)) + 5)) : Int).toNat).drop ((wrap64 (5 * x4_1)) : Int).toNat) 0) (rd ((l0.take ((wrap64 ((wrap64 (5 * x4_1)) + 5)) : Int).toNat).drop ((wrap64 (5 * x4_1)) : Int).toNat) 1) (rd ((l0.take ((wrap64 ((wrap64 (5 * x4_1)) + 5)) : Int).toNat).drop ((wrap64 (5 * x4_1)) : Int).toNat) 2)).bind fun t196 => (if t196 = true then ((impl_recordNumbers.f (rd ((l0.take ((wrap64 ((wrap64 (5 * x4_1)) + 5)) : Int).toNat).drop ((wrap64 (5 * x4_1)) : Int).toNat) 0) (rd ((l0.take ((wrap64 ((wrap64 (5 * x4_1)) + 5)) : Int).toNat).drop ((wrap64 (5 * x4_1)) : Int).toNat) 1) (rd ((l0.take ((wrap64 ((wrap64 (5 * x4_1)) + 5)) : Int).toNat).drop ((wrap64 (5 * x4_1)) : Int).toNat) 2) x4_1).bind fun t197 => ((slices_Equal_int_int.f kj3 t197 ((l0.take ((wrap64 ((wrap64 (5 * x4_1)) + 5)) : Int).toNat).drop ((wrap64 (5 * x4_1)) : Int).toNat)).bind fun t200 => (if t200 = true then (if x3_1.length < 5864062014805 then (impl_recovered.l0 kj3 l0 (x3_1 ++ [(⟨rd ((l0.take ((wrap64 ((wrap64 (5 * x4_1)) + 5)) : Int).toNat).drop ((wrap64 (5 * x4_1)) : Int).toNat) 0, rd ((l0.take ((wrap64 ((wrap64 (5 * x4_1)) + 5)) : Int).toNat).drop ((wrap64 (5 * x4_1)) : Int).toNat) 1, rd ((l0.take ((wrap64 ((wrap64 (5 * x4_1)) + 5)) : Int).toNat).drop ((wrap64 (5 * x4_1)) : Int).toNat) 2⟩ : S25)]) (wrap64 (x4_1 + 1))) else (none)) else (some x3_1)))) else (some x3_1))) else (none)) else (none)) else (none)) else (none)) else (none)) else (none)) = some r := by rw [if_pos rfl] at H; exact H
            clear H
            have H := H1
            clear H1
            obtain ⟨ji7, hji7⟩ : ∃ j_ : Int, (wrap64 (5 * x4_1)) = j_ := ⟨_, rfl⟩
            replace H : (if 0 ≤ (ji7) then (if (ji7) ≤ (wrap64 ((ji7) + 5)) then (if (wrap64 ((ji7) + 5)) ≤ (l0.length : Int) then (if 0 < (((l0.take ((wrap64 ((ji7) + 5)) : Int).toNat).drop ((ji7) : Int).toNat).length : Int) then (if 1 < (((l0.take ((wrap64 ((ji7) + 5)) : Int).toNat).drop ((ji7) : Int).toNat).length : Int) then (if 2 < (((l0.take ((wrap64 ((ji7) + 5)) : Int).toNat).drop ((ji7) : Int).toNat).length : Int) then ((impl_IsJournalRecord.f (rd ((l0.take ((wrap64 ((ji7) + 5)) : Int).toNat).drop ((ji7) : Int).toNat) 0) (rd ((l0.take ((wrap64 ((ji7) + 5)) : Int).toNat).drop ((ji7) : Int).toNat) 1) (rd ((l0.take ((wrap64 ((ji7) + 5)) : Int).toNat).drop ((ji7) : Int).toNat) 2)).bind fun t196 => (if t196 = true then ((impl_recordNumbers.f (rd ((l0.take ((wrap64 ((ji7) + 5)) : Int).toNat).drop ((ji7) : Int).toNat) 0) (rd ((l0.take ((wrap64 ((ji7) + 5)) : Int).toNat).drop ((ji7) : Int).toNat) 1) (rd ((l0.take ((wrap64 ((ji7) + 5)) : Int).toNat).drop ((ji7) : Int).toNat) 2) x4_1).bind fun t197 => ((slices_Equal_int_int.f kj3 t197 ((l0.take ((wrap64 ((ji7) + 5)) : Int).toNat).drop ((ji7) : Int).toNat)).bind fun t200 => (if t200 = true then (if x3_1.length < 5864062014805 then (impl_recovered.l0 kj3 l0 (x3_1 ++ [(⟨rd ((l0.take ((wrap64 ((ji7) + 5)) : Int).toNat).drop ((ji7) : Int).toNat) 0, rd ((l0.take ((wrap64 ((ji7) + 5)) : Int).toNat).drop ((ji7) : Int).toNat) 1, rd ((l0.take ((wrap64 ((ji7) + 5)) : Int).toNat).drop ((ji7) : Int).toNat) 2⟩ : S25)]) (wrap64 (x4_1 + 1))) else (none)) else (some x3_1)))) else (some x3_1))) else (none)) else (none)) else (none)) else (none)) else (none)) else (none)) = some r := by first | (rw [hji7] at H; exact H) | (simp only [hji7] at H ⊢; exact H)
            have hji7w : (IntKind.i64.wrap (5 * x4_1)) = ji7 := (i64_w _).trans hji7
            by_cases c8 : 0 ≤ (ji7)
            · rw [if_pos c8] at H
              have c8b0 := eq_true c8
              have c8b1 : decide (0 ≤ (ji7)) = true := decide_eq_true c8
              clear c8
              by_cases c9 : (ji7) ≤ (wrap64 ((ji7) + 5))
              · rw [if_pos c9] at H
                have c9b0 := eq_true c9
                have c9b1 : decide ((ji7) ≤ (wrap64 ((ji7) + 5))) = true := decide_eq_true c9
                by_cases c10 : (wrap64 ((ji7) + 5)) ≤ (l0.length : Int)
                · rw [if_pos c10] at H
                  have c10b0 := eq_true c10
                  have c10b1 : decide ((wrap64 ((ji7) + 5)) ≤ (l0.length : Int)) = true := decide_eq_true c10
                  by_cases c11 : 0 < (((l0.take ((wrap64 ((ji7) + 5)) : Int).toNat).drop ((ji7) : Int).toNat).length : Int)
                  · rw [if_pos c11] at H
                    have c11b0 : decide (0 < (((l0.take ((wrap64 ((ji7) + 5)) : Int).toNat).drop ((ji7) : Int).toNat).length : Int)) = true := decide_eq_true c11
                    have c11b1 : decide (0 < ((l0.take ((wrap64 ((ji7) + 5)) : Int).toNat).drop ((ji7) : Int).toNat).length) = true := decide_eq_true (by omega)
                    clear c11
                    by_cases c12 : 1 < (((l0.take ((wrap64 ((ji7) + 5)) : Int).toNat).drop ((ji7) : Int).toNat).length : Int)
                    · rw [if_pos c12] at H
                      have c12b0 : decide (1 < (((l0.take ((wrap64 ((ji7) + 5)) : Int).toNat).drop ((ji7) : Int).toNat).length : Int)) = true := decide_eq_true c12
                      have c12b1 : decide (1 < ((l0.take ((wrap64 ((ji7) + 5)) : Int).toNat).drop ((ji7) : Int).toNat).length) = true := decide_eq_true (by omega)
                      clear c12
                      by_cases c13 : 2 < (((l0.take ((wrap64 ((ji7) + 5)) : Int).toNat).drop ((ji7) : Int).toNat).length : Int)
                      · rw [if_pos c13] at H
                        have c13b0 : decide (2 < (((l0.take ((wrap64 ((ji7) + 5)) : Int).toNat).drop ((ji7) : Int).toNat).length : Int)) = true := decide_eq_true c13
                        have c13b1 : decide (2 < ((l0.take ((wrap64 ((ji7) + 5)) : Int).toNat).drop ((ji7) : Int).toNat).length) = true := decide_eq_true (by omega)
                        clear c13
                        replace H := Option.bind_eq_some_iff.mp H
                        obtain ⟨t196, A140, H⟩ := H
                        replace H : (if t196 = true then ((impl_recordNumbers.f (rd ((l0.take ((wrap64 ((ji7) + 5)) : Int).toNat).drop ((ji7) : Int).toNat) 0) (rd ((l0.take ((wrap64 ((ji7) + 5)) : Int).toNat).drop ((ji7) : Int).toNat) 1) (rd ((l0.take ((wrap64 ((ji7) + 5)) : Int).toNat).drop ((ji7) : Int).toNat) 2) x4_1).bind fun t197 => ((slices_Equal_int_int.f kj3 t197 ((l0.take ((wrap64 ((ji7) + 5)) : Int).toNat).drop ((ji7) : Int).toNat)).bind fun t200 => (if t200 = true then (if x3_1.length < 5864062014805 then (impl_recovered.l0 kj3 l0 (x3_1 ++ [(⟨rd ((l0.take ((wrap64 ((ji7) + 5)) : Int).toNat).drop ((ji7) : Int).toNat) 0, rd ((l0.take ((wrap64 ((ji7) + 5)) : Int).toNat).drop ((ji7) : Int).toNat) 1, rd ((l0.take ((wrap64 ((ji7) + 5)) : Int).toNat).drop ((ji7) : Int).toNat) 2⟩ : S25)]) (wrap64 (x4_1 + 1))) else (none)) else (some x3_1)))) else (some x3_1)) = some r := H
                        have A14 := Aside0.mk A140
                        clear A140
                        by_cases c15 : t196 = true
                        · subst c15
                          have H1 : ((impl_recordNumbers.f (rd ((l0.take ((wrap64 ((ji7) + 5)) : Int).toNat).drop ((ji7) : Int).toNat) 0) (rd ((l0.take ((wrap64 ((ji7) + 5)) : Int).toNat).drop ((ji7) : Int).toNat) 1) (rd ((l0.take ((wrap64 ((ji7) + 5)) : Int).toNat).drop ((ji7) : Int).toNat) 2) x4_1).bind fun t197 => ((slices_Equal_int_int.f kj3 t197 ((l0.take ((wrap64 ((ji7) + 5)) : Int).toNat).drop ((ji7) : Int).toNat)).bind fun t200 => (if t200 = true then (if x3_1.length < 5864062014805 then (impl_recovered.l0 kj3 l0 (x3_1 ++ [(⟨rd ((l0.take ((wrap64 ((ji7) + 5)) : Int).toNat).drop ((ji7) : Int).toNat) 0, rd ((l0.take ((wrap64 ((ji7) + 5)) : Int).toNat).drop ((ji7) : Int).toNat) 1, rd ((l0.take ((wrap64 ((ji7) + 5)) : Int).toNat).drop ((ji7) : Int).toNat) 2⟩ : S25)]) (wrap64 (x4_1 + 1))) else (none)) else (some x3_1)))) = some r := by rw [if_pos rfl] at H; exact H
                          clear H
                          have H := H1
                          clear H1
                          replace H := Option.bind_eq_some_iff.mp H
                          obtain ⟨t197, A160, H⟩ := H
                          replace H : ((slices_Equal_int_int.f kj3 t197 ((l0.take ((wrap64 ((ji7) + 5)) : Int).toNat).drop ((ji7) : Int).toNat)).bind fun t200 => (if t200 = true then (if x3_1.length < 5864062014805 then (impl_recovered.l0 kj3 l0 (x3_1 ++ [(⟨rd ((l0.take ((wrap64 ((ji7) + 5)) : Int).toNat).drop ((ji7) : Int).toNat) 0, rd ((l0.take ((wrap64 ((ji7) + 5)) : Int).toNat).drop ((ji7) : Int).toNat) 1, rd ((l0.take ((wrap64 ((ji7) + 5)) : Int).toNat).drop ((ji7) : Int).toNat) 2⟩ : S25)]) (wrap64 (x4_1 + 1))) else (none)) else (some x3_1))) = some r := H
                          have A16 := Aside0.mk A160
                          clear A160
                          replace H := Option.bind_eq_some_iff.mp H
                          obtain ⟨t200, A170, H⟩ := H
                          replace H : (if t200 = true then (if x3_1.length < 5864062014805 then (impl_recovered.l0 kj3 l0 (x3_1 ++ [(⟨rd ((l0.take ((wrap64 ((ji7) + 5)) : Int).toNat).drop ((ji7) : Int).toNat) 0, rd ((l0.take ((wrap64 ((ji7) + 5)) : Int).toNat).drop ((ji7) : Int).toNat) 1, rd ((l0.take ((wrap64 ((ji7) + 5)) : Int).toNat).drop ((ji7) : Int).toNat) 2⟩ : S25)]) (wrap64 (x4_1 + 1))) else (none)) else (some x3_1)) = some r := H
                          have A17 := Aside0.mk A170
                          clear A170
                          by_cases c18 : t200 = true
                          · subst c18
                            have H1 : (if x3_1.length < 5864062014805 then (impl_recovered.l0 kj3 l0 (x3_1 ++ [(⟨rd ((l0.take ((wrap64 ((ji7) + 5)) : Int).toNat).drop ((ji7) : Int).toNat) 0, rd ((l0.take ((wrap64 ((ji7) + 5)) : Int).toNat).drop ((ji7) : Int).toNat) 1, rd ((l0.take ((wrap64 ((ji7) + 5)) : Int).toNat).drop ((ji7) : Int).toNat) 2⟩ : S25)]) (wrap64 (x4_1 + 1))) else (none)) = some r := by rw [if_pos rfl] at H; exact H
                            clear H
                            have H := H1
                            clear H1
                            by_cases c19 : x3_1.length < 5864062014805
                            · rw [if_pos c19] at H
                              have LMc19 := Aside0.mk c19
                              clear c19
                              obtain ⟨y201, hy201⟩ : ∃ y_ : List (S25), y_ = (x3_1 ++ [(⟨rd ((l0.take ((wrap64 ((ji7) + 5)) : Int).toNat).drop ((ji7) : Int).toNat) 0, rd ((l0.take ((wrap64 ((ji7) + 5)) : Int).toNat).drop ((ji7) : Int).toNat) 1, rd ((l0.take ((wrap64 ((ji7) + 5)) : Int).toNat).drop ((ji7) : Int).toNat) 2⟩ : S25)]) := ⟨_, rfl⟩
                              replace H : (impl_recovered.l0 kj3 l0 y201 (wrap64 (x4_1 + 1))) = some r := by first | (rw [hy201]; with_reducible exact H) | (have H2_ := (Option.bind_some _ _).symm.trans H; rw [hy201]; with_reducible exact H2_) | (have H2_ := (Option.bind_some _ _).symm.trans H; with_reducible exact H2_) | with_reducible exact H | (rw [hy201]; exact H) | exact H
                              have Ny201 := Aside0.mk hy201
                              clear hy201
                              have H' := Aside0.mk H
                              clear H
                              obtain ⟨i020, hi020, _, hsz20, _⟩ := info_parts info3
                              obtain ⟨A20, hcut20, hA20, hC20⟩ := print_mid_of (P := Try.prog) (Value.int .i64) 0 28 3 .i64 .i64 Try.underlying28 hi020 hsz20 A0 c0 l0 (ji7) (wrap64 ((ji7) + 5)) (of_decide_eq_true (by first | (with_reducible assumption) | assumption)) (by first | omega | exact of_decide_eq_true (by first | (with_reducible assumption) | assumption)) (of_decide_eq_true (by first | (with_reducible assumption) | assumption)) HC0.out
                              have HR191 := Aside0.mk (Kd.C_of_reads (h1 := fun _ => rfl) (hA20 _ (Kd.reads_of_C HR0.out)))
                              have HC191 := Aside0.mk hC20
                              clear hA20 hC20 hi020 hsz20
                              try go_wp2
                              have n0_ := Aside0.mk (Kd.R_drew HO_3.out)
                              have n1_ := Aside0.mk (below_drew1 HB.out)
                              clear HO_3
                              clear HB
                              have HO_3 := n0_
                              have HB := n1_
                              clear n0_ n1_
                              have p192 : 0 ≤ (0 : Int) := (by omega)
                              have q192 : 0 < (((l0.take ((wrap64 ((ji7) + 5)) : Int).toNat).drop ((ji7) : Int).toNat).length : Int) := of_decide_eq_true (by first | (with_reducible assumption) | assumption)
                              obtain ⟨ad192, e192, hx192_0⟩ := Kd.at_int HR191.out 0 p192 q192
                              have hw192_0 := hx192_0
                              (try rw [show ((0 : Int)).toNat = 0 from rfl] at hw192_0)
                              (try rw [show 0 * 1 = 0 from rfl] at hw192_0)
                              (try rw [Addr.add_zero'] at hw192_0)
                              cases e192
                              have qi192 : (0 < ((l0.take ((wrap64 ((ji7) + 5)) : Int).toNat).drop ((ji7) : Int).toNat).length) = True := eq_true (by omega)
                              (try rw [show ((0 : Int)).toNat = 0 from rfl] at hx192_0)
                              (try rw [Addr.add_zero'] at hx192_0)
                              replace hx192_0 := (HB.out.cell (World.block_lt_of_cell? w _ hx192_0)).trans hx192_0
                              replace p192 := eq_true p192
                              replace q192 := eq_true q192
                              have p193 : 0 ≤ (1 : Int) := (by omega)
                              have q193 : 1 < (((l0.take ((wrap64 ((ji7) + 5)) : Int).toNat).drop ((ji7) : Int).toNat).length : Int) := of_decide_eq_true (by first | (with_reducible assumption) | assumption)
                              obtain ⟨ad193, e193, hx193_0⟩ := Kd.at_int HR191.out 1 p193 q193
                              have hw193_0 := hx193_0
                              (try rw [show ((1 : Int)).toNat = 1 from rfl] at hw193_0)
                              (try rw [show 1 * 1 = 1 from rfl] at hw193_0)
                              (try simp only [Nat.reduceMul, Nat.reduceEqDiff, Go.Addr.add, ↓reduceIte] at hw193_0)
                              obtain rfl : ad192 = ad193 := (by injection e193)
                              (try simp only [show (1 : Int).toNat = 1 from rfl, Nat.reduceMul, Nat.reduceEqDiff, Go.Addr.add, ↓reduceIte] at hx193_0)
                              have qi193 : (1 < ((l0.take ((wrap64 ((ji7) + 5)) : Int).toNat).drop ((ji7) : Int).toNat).length) = True := eq_true (by omega)
                              (try rw [show ((1 : Int)).toNat = 1 from rfl] at hx193_0)
                              replace hx193_0 := (HB.out.cell (World.block_lt_of_cell? w _ hx193_0)).trans hx193_0
                              replace p193 := eq_true p193
                              replace q193 := eq_true q193
                              have p194 : 0 ≤ (2 : Int) := (by omega)
                              have q194 : 2 < (((l0.take ((wrap64 ((ji7) + 5)) : Int).toNat).drop ((ji7) : Int).toNat).length : Int) := of_decide_eq_true (by first | (with_reducible assumption) | assumption)
                              obtain ⟨ad194, e194, hx194_0⟩ := Kd.at_int HR191.out 2 p194 q194
                              have hw194_0 := hx194_0
                              (try rw [show ((2 : Int)).toNat = 2 from rfl] at hw194_0)
                              (try rw [show 2 * 1 = 2 from rfl] at hw194_0)
                              (try simp only [Nat.reduceMul, Nat.reduceEqDiff, Go.Addr.add, ↓reduceIte] at hw194_0)
                              obtain rfl : ad192 = ad194 := (by injection e194)
                              (try simp only [show (2 : Int).toNat = 2 from rfl, Nat.reduceMul, Nat.reduceEqDiff, Go.Addr.add, ↓reduceIte] at hx194_0)
                              have qi194 : (2 < ((l0.take ((wrap64 ((ji7) + 5)) : Int).toNat).drop ((ji7) : Int).toNat).length) = True := eq_true (by omega)
                              have qw0 : (0 < (wrap64 ((ji7) + 5)).toNat - (ji7).toNat) = True := eq_true (by have h_ := of_eq_true qi194; rw [List.length_drop, List.length_take] at h_; omega)
                              have qw1 : ((1 : Int) < (((wrap64 ((ji7) + 5)).toNat - (ji7).toNat : Nat) : Int)) = True := eq_true (by have h_ := of_eq_true qi194; rw [List.length_drop, List.length_take] at h_; omega)
                              have qw2 : ((2 : Int) < (((wrap64 ((ji7) + 5)).toNat - (ji7).toNat : Nat) : Int)) = True := eq_true (by have h_ := of_eq_true qi194; rw [List.length_drop, List.length_take] at h_; omega)
                              (try rw [show ((2 : Int)).toNat = 2 from rfl] at hx194_0)
                              replace hx194_0 := (HB.out.cell (World.block_lt_of_cell? w _ hx194_0)).trans hx194_0
                              replace p194 := eq_true p194
                              replace q194 := eq_true q194
                              refine start_ (n := 12) (S := fun w' => w'.cell? ad192 = some (.int .i64 (rd ((l0.take ((wrap64 ((ji7) + 5)) : Int).toNat).drop ((ji7) : Int).toNat) 0)) ∧ w'.cell? ⟨ad192.block, ad192.off + 1, none⟩ = some (.int .i64 (rd ((l0.take ((wrap64 ((ji7) + 5)) : Int).toNat).drop ((ji7) : Int).toNat) 1)) ∧ w'.cell? ⟨ad192.block, ad192.off + 2, none⟩ = some (.int .i64 (rd ((l0.take ((wrap64 ((ji7) + 5)) : Int).toNat).drop ((ji7) : Int).toNat) 2))) (ds := []) #[false, false, false, false, false, false, false, false, false, false, false, false] (by kernel_rfl) rfl rfl ⟨((HB.out.cell (World.block_lt_of_cell? w _ hw192_0)).trans hw192_0), ((HB.out.cell (World.block_lt_of_cell? w _ hw193_0)).trans hw193_0), ((HB.out.cell (World.block_lt_of_cell? w _ hw194_0)).trans hw194_0)⟩ (fun hHeld => ?_); refine with_tabW impl_recovered.tab6 impl_recovered.bits6 (fun HT_ HW_ => ?_)
                              generalize wc.drew = w21 at HO_3 HB hx192_0 hx193_0 hx194_0 hHeld ⊢
                              refine pure_ (i := 0) (N := some 27) (v := ?_) (a' := ?_) #[true, false, false, false, false, false, false, false, false, false, false, false] rfl rfl (any_of HT_.out (by kernel_rfl)) (fun _ _ _ h => h) (Or.inl ⟨by rfl, ?_⟩) ?_ ?_
                              rotate_left
                              · intro w'
                                go_simp
                                with_reducible rfl
                              rotate_left
                              · simp only [Act.put, List.setIfInBounds_toArray, List.set_cons_zero, List.set_cons_succ, i64_w, i32_w]
                                rfl
                              refine pure_ (i := 1) (N := some 28) (v := ?_) (a' := ?_) #[true, true, false, false, false, false, false, false, false, false, false, false] rfl rfl (any_of HT_.out (by kernel_rfl)) (fun _ _ _ h => h) (Or.inl ⟨by rfl, ?_⟩) ?_ ?_
                              rotate_left
                              · intro w'
                                go_simp
                                with_reducible rfl
                              rotate_left
                              · simp only [Act.put, List.setIfInBounds_toArray, List.set_cons_zero, List.set_cons_succ, i64_w, i32_w]
                                rfl
                              refine pure_ (i := 3) (N := some 30) (v := ?_) (a' := ?_) #[true, true, false, true, false, false, false, false, false, false, false, false] rfl rfl (any_of HT_.out (by kernel_rfl)) (fun _ _ _ h => h) (Or.inl ⟨by rfl, ?_⟩) ?_ ?_
                              rotate_left
                              · intro w'
                                go_simp
                                with_reducible rfl
                              rotate_left
                              · simp only [Act.put, List.setIfInBounds_toArray, List.set_cons_zero, List.set_cons_succ, i64_w, i32_w]
                                rfl
                              refine pure_ (i := 4) (N := some 31) (v := ?_) (a' := ?_) #[true, true, false, true, true, false, false, false, false, false, false, false] rfl rfl (any_of HT_.out (by kernel_rfl)) (fun _ _ _ h => h) (Or.inl ⟨by rfl, ?_⟩) ?_ ?_
                              rotate_left
                              · intro w'
                                go_simp
                                with_reducible rfl
                              rotate_left
                              · simp only [Act.put, List.setIfInBounds_toArray, List.set_cons_zero, List.set_cons_succ, i64_w, i32_w]
                                rfl
                              refine pure_ (i := 6) (N := some 33) (v := ?_) (a' := ?_) #[true, true, false, true, true, false, true, false, false, false, false, false] rfl rfl (any_of HT_.out (by kernel_rfl)) (fun _ _ _ h => h) (Or.inl ⟨by rfl, ?_⟩) ?_ ?_
                              rotate_left
                              · intro w'
                                go_simp
                                with_reducible rfl
                              rotate_left
                              · simp only [Act.put, List.setIfInBounds_toArray, List.set_cons_zero, List.set_cons_succ, i64_w, i32_w]
                                rfl
                              refine pure_ (i := 7) (N := some 34) (v := ?_) (a' := ?_) #[true, true, false, true, true, false, true, true, false, false, false, false] rfl rfl (any_of HT_.out (by kernel_rfl)) (fun _ _ _ h => h) (Or.inl ⟨by rfl, ?_⟩) ?_ ?_
                              rotate_left
                              · intro w'
                                go_simp
                                with_reducible rfl
                              rotate_left
                              · simp only [Act.put, List.setIfInBounds_toArray, List.set_cons_zero, List.set_cons_succ, i64_w, i32_w]
                                rfl
                              refine take_ (i := 2) (N := some 29) (v := ?_) (a' := ?_) #[true, true, true, true, true, false, true, true, false, false, false, false] rfl rfl (take_ofW HT_.out HW_.out (by kernel_rfl)) (fun _ _ _ h => h) (Or.inl ⟨by rfl, ?_⟩) hHeld ?_ ?_
                              rotate_left
                              · rintro w' ⟨s0, s1, s2⟩
                                go_simp
                                with_reducible rfl
                              rotate_left
                              · simp only [Act.put, List.setIfInBounds_toArray, List.set_cons_zero, List.set_cons_succ, i64_w, i32_w]
                                rfl
                              refine take_ (i := 5) (N := some 32) (v := ?_) (a' := ?_) #[true, true, true, true, true, true, true, true, false, false, false, false] rfl rfl (take_ofW HT_.out HW_.out (by kernel_rfl)) (fun _ _ _ h => h) (Or.inl ⟨by rfl, ?_⟩) hHeld ?_ ?_
                              rotate_left
                              · rintro w' ⟨s0, s1, s2⟩
                                go_simp
                                with_reducible rfl
                              rotate_left
                              · simp only [Act.put, List.setIfInBounds_toArray, List.set_cons_zero, List.set_cons_succ, i64_w, i32_w]
                                rfl
                              refine take_ (i := 8) (N := some 35) (v := ?_) (a' := ?_) #[true, true, true, true, true, true, true, true, true, false, false, false] rfl rfl (take_ofW HT_.out HW_.out (by kernel_rfl)) (fun _ _ _ h => h) (Or.inl ⟨by rfl, ?_⟩) hHeld ?_ ?_
                              rotate_left
                              · rintro w' ⟨s0, s1, s2⟩
                                go_simp
                                with_reducible rfl
                              rotate_left
                              · simp only [Act.put, List.setIfInBounds_toArray, List.set_cons_zero, List.set_cons_succ, i64_w, i32_w]
                                rfl
                              refine pure_ (i := 9) (N := some 36) (v := ?_) (a' := ?_) #[true, true, true, true, true, true, true, true, true, true, false, false] rfl rfl (any_of HT_.out (by kernel_rfl)) (fun _ _ _ h => h) (Or.inl ⟨by rfl, ?_⟩) ?_ ?_
                              rotate_left
                              · intro w'
                                go_simp
                                with_reducible rfl
                              rotate_left
                              · simp only [Act.put, List.setIfInBounds_toArray, List.set_cons_zero, List.set_cons_succ, i64_w, i32_w]
                                rfl
                              refine one_ (i := 10) (N := some 6) #[true, true, true, true, true, true, true, true, true, true, true, false] rfl rfl (one_of HT_.out (by kernel_rfl)) (by decide) (fun K hK => ?_)
                              refine box_step ?hg (N := 6) ?hd (cs := #[.int .i64 0, .int .i64 0, .int .i64 0]) (t := 25) ?hr ?_; (case hd => rfl); (case hg => rfl); (case hr => first | (go_simp; done) | (go_simp; rfl))
                              intro gb195 hg w22 hbox hb
                              have n0_ := Aside0.mk (Kd.R_below (Kd.R_elderB (by (with_reducible repeat (first | apply Kd.R_alloc | apply Kd.R_drewN | apply Kd.R_drew)); exact HO_3.out) gb195 (Nat.le_of_eq hg.symm)) hb)
                              have n1_ := Aside0.mk (below_step (by repeat (first | (with_reducible first | exact HB.out | apply below_alloc | apply pw_below_drewN | apply below_drew1) | exact HB.out)) hb)
                              have n2_ := Aside0.mk (hbox)
                              have n3_ := Aside0.mk ((by rw [hg]; exact (below_size (by repeat (first | (with_reducible first | exact HB.out | apply below_alloc | apply pw_below_drewN | apply below_drew1) | exact HB.out))) : w.heap.size ≤ gb195))
                              have n4_ := Aside0.mk ((by rw [hg]; exact (below_size (by repeat (first | (with_reducible first | exact HB.out | apply below_alloc | apply pw_below_drewN | apply below_drew1) | exact HB.out))) : w.heap.size ≤ gb195))
                              clear HO_3
                              clear HB
                              have HO_3 := n0_
                              have HB := n1_
                              have BK195 := n2_
                              have GW195 := n3_
                              have GE195 := n4_
                              clear n0_ n1_ n2_ n3_ n4_
                              clear hb hbox hg
                              refine hK.out _ _ ⟨((HB.out.cell (World.block_lt_of_cell? w _ hw192_0)).trans hw192_0), ((HB.out.cell (World.block_lt_of_cell? w _ hw193_0)).trans hw193_0), ((HB.out.cell (World.block_lt_of_cell? w _ hw194_0)).trans hw194_0)⟩ (fun hHeld => ?_)
                              clear hK K
                              refine norm_ (a' := ?_) ?_ ?_
                              rotate_left
                              · show Act.put _ (some 6) _ = _
                                simp only [Act.put, List.setIfInBounds_toArray, List.set_cons_zero, List.set_cons_succ, i64_w, i32_w]
                                rfl
                              refine one_ (i := 11) (N := none) #[true, true, true, true, true, true, true, true, true, true, true, true] rfl rfl (one_of HT_.out (by kernel_rfl)) (by decide) (fun K hK => ?_)
                              have hs23 : w22.cell? ⟨gb195, 0, none⟩ = some (.int .i64 0) := (blk_cell BK195.out 0).trans rfl
                              have hfs23 := blk_frozen BK195.out 0
                              have hs24 : w22.cell? ⟨gb195, 1, none⟩ = some (.int .i64 0) := (blk_cell BK195.out 1).trans rfl
                              have hfs24 := blk_frozen BK195.out 1
                              have hs25 : w22.cell? ⟨gb195, 2, none⟩ = some (.int .i64 0) := (blk_cell BK195.out 2).trans rfl
                              have hfs25 := blk_frozen BK195.out 2
                              refine skip_ (w1 := ?_) (by rfl) rfl ?_ ?_
                              rotate_left
                              · go_simp
                                rfl
                              refine hK.out _ _ ⟨((cell_far (p := ⟨gb195, _, none⟩) (by first | exact Nat.ne_of_lt (Nat.lt_of_lt_of_le (by have := World.block_lt_of_cell? _ _ hw192_0; first | rwa [add_block] at this | exact this) GW195.out) | (rw [add_block]; exact Nat.ne_of_lt (Nat.lt_of_lt_of_le (by have := World.block_lt_of_cell? _ _ hw192_0; first | rwa [add_block] at this | exact this) GW195.out)) | (show (Addr.add _ _).block ≠ _; rw [add_block]; exact Nat.ne_of_lt (Nat.lt_of_lt_of_le (by have := World.block_lt_of_cell? _ _ hw192_0; first | rwa [add_block] at this | exact this) GW195.out)) | (dsimp only; exact Nat.ne_of_lt (Nat.lt_of_lt_of_le (by have := World.block_lt_of_cell? _ _ hw192_0; first | rwa [add_block] at this | exact this) GW195.out))) _).trans (((cell_far (p := ⟨gb195, _, none⟩) (by first | exact Nat.ne_of_lt (Nat.lt_of_lt_of_le (by have := World.block_lt_of_cell? _ _ hw192_0; first | rwa [add_block] at this | exact this) GW195.out) | (rw [add_block]; exact Nat.ne_of_lt (Nat.lt_of_lt_of_le (by have := World.block_lt_of_cell? _ _ hw192_0; first | rwa [add_block] at this | exact this) GW195.out)) | (show (Addr.add _ _).block ≠ _; rw [add_block]; exact Nat.ne_of_lt (Nat.lt_of_lt_of_le (by have := World.block_lt_of_cell? _ _ hw192_0; first | rwa [add_block] at this | exact this) GW195.out)) | (dsimp only; exact Nat.ne_of_lt (Nat.lt_of_lt_of_le (by have := World.block_lt_of_cell? _ _ hw192_0; first | rwa [add_block] at this | exact this) GW195.out))) _).trans (((cell_far (p := ⟨gb195, _, none⟩) (by first | exact Nat.ne_of_lt (Nat.lt_of_lt_of_le (by have := World.block_lt_of_cell? _ _ hw192_0; first | rwa [add_block] at this | exact this) GW195.out) | (rw [add_block]; exact Nat.ne_of_lt (Nat.lt_of_lt_of_le (by have := World.block_lt_of_cell? _ _ hw192_0; first | rwa [add_block] at this | exact this) GW195.out)) | (show (Addr.add _ _).block ≠ _; rw [add_block]; exact Nat.ne_of_lt (Nat.lt_of_lt_of_le (by have := World.block_lt_of_cell? _ _ hw192_0; first | rwa [add_block] at this | exact this) GW195.out)) | (dsimp only; exact Nat.ne_of_lt (Nat.lt_of_lt_of_le (by have := World.block_lt_of_cell? _ _ hw192_0; first | rwa [add_block] at this | exact this) GW195.out))) _).trans (hHeld.1)))))), ((cell_far (p := ⟨gb195, _, none⟩) (by first | exact Nat.ne_of_lt (Nat.lt_of_lt_of_le (by have := World.block_lt_of_cell? _ _ hw193_0; first | rwa [add_block] at this | exact this) GW195.out) | (rw [add_block]; exact Nat.ne_of_lt (Nat.lt_of_lt_of_le (by have := World.block_lt_of_cell? _ _ hw193_0; first | rwa [add_block] at this | exact this) GW195.out)) | (show (Addr.add _ _).block ≠ _; rw [add_block]; exact Nat.ne_of_lt (Nat.lt_of_lt_of_le (by have := World.block_lt_of_cell? _ _ hw193_0; first | rwa [add_block] at this | exact this) GW195.out)) | (dsimp only; exact Nat.ne_of_lt (Nat.lt_of_lt_of_le (by have := World.block_lt_of_cell? _ _ hw193_0; first | rwa [add_block] at this | exact this) GW195.out))) _).trans (((cell_far (p := ⟨gb195, _, none⟩) (by first | exact Nat.ne_of_lt (Nat.lt_of_lt_of_le (by have := World.block_lt_of_cell? _ _ hw193_0; first | rwa [add_block] at this | exact this) GW195.out) | (rw [add_block]; exact Nat.ne_of_lt (Nat.lt_of_lt_of_le (by have := World.block_lt_of_cell? _ _ hw193_0; first | rwa [add_block] at this | exact this) GW195.out)) | (show (Addr.add _ _).block ≠ _; rw [add_block]; exact Nat.ne_of_lt (Nat.lt_of_lt_of_le (by have := World.block_lt_of_cell? _ _ hw193_0; first | rwa [add_block] at this | exact this) GW195.out)) | (dsimp only; exact Nat.ne_of_lt (Nat.lt_of_lt_of_le (by have := World.block_lt_of_cell? _ _ hw193_0; first | rwa [add_block] at this | exact this) GW195.out))) _).trans (((cell_far (p := ⟨gb195, _, none⟩) (by first | exact Nat.ne_of_lt (Nat.lt_of_lt_of_le (by have := World.block_lt_of_cell? _ _ hw193_0; first | rwa [add_block] at this | exact this) GW195.out) | (rw [add_block]; exact Nat.ne_of_lt (Nat.lt_of_lt_of_le (by have := World.block_lt_of_cell? _ _ hw193_0; first | rwa [add_block] at this | exact this) GW195.out)) | (show (Addr.add _ _).block ≠ _; rw [add_block]; exact Nat.ne_of_lt (Nat.lt_of_lt_of_le (by have := World.block_lt_of_cell? _ _ hw193_0; first | rwa [add_block] at this | exact this) GW195.out)) | (dsimp only; exact Nat.ne_of_lt (Nat.lt_of_lt_of_le (by have := World.block_lt_of_cell? _ _ hw193_0; first | rwa [add_block] at this | exact this) GW195.out))) _).trans (hHeld.2.1)))))), ((cell_far (p := ⟨gb195, _, none⟩) (by first | exact Nat.ne_of_lt (Nat.lt_of_lt_of_le (by have := World.block_lt_of_cell? _ _ hw194_0; first | rwa [add_block] at this | exact this) GW195.out) | (rw [add_block]; exact Nat.ne_of_lt (Nat.lt_of_lt_of_le (by have := World.block_lt_of_cell? _ _ hw194_0; first | rwa [add_block] at this | exact this) GW195.out)) | (show (Addr.add _ _).block ≠ _; rw [add_block]; exact Nat.ne_of_lt (Nat.lt_of_lt_of_le (by have := World.block_lt_of_cell? _ _ hw194_0; first | rwa [add_block] at this | exact this) GW195.out)) | (dsimp only; exact Nat.ne_of_lt (Nat.lt_of_lt_of_le (by have := World.block_lt_of_cell? _ _ hw194_0; first | rwa [add_block] at this | exact this) GW195.out))) _).trans (((cell_far (p := ⟨gb195, _, none⟩) (by first | exact Nat.ne_of_lt (Nat.lt_of_lt_of_le (by have := World.block_lt_of_cell? _ _ hw194_0; first | rwa [add_block] at this | exact this) GW195.out) | (rw [add_block]; exact Nat.ne_of_lt (Nat.lt_of_lt_of_le (by have := World.block_lt_of_cell? _ _ hw194_0; first | rwa [add_block] at this | exact this) GW195.out)) | (show (Addr.add _ _).block ≠ _; rw [add_block]; exact Nat.ne_of_lt (Nat.lt_of_lt_of_le (by have := World.block_lt_of_cell? _ _ hw194_0; first | rwa [add_block] at this | exact this) GW195.out)) | (dsimp only; exact Nat.ne_of_lt (Nat.lt_of_lt_of_le (by have := World.block_lt_of_cell? _ _ hw194_0; first | rwa [add_block] at this | exact this) GW195.out))) _).trans (((cell_far (p := ⟨gb195, _, none⟩) (by first | exact Nat.ne_of_lt (Nat.lt_of_lt_of_le (by have := World.block_lt_of_cell? _ _ hw194_0; first | rwa [add_block] at this | exact this) GW195.out) | (rw [add_block]; exact Nat.ne_of_lt (Nat.lt_of_lt_of_le (by have := World.block_lt_of_cell? _ _ hw194_0; first | rwa [add_block] at this | exact this) GW195.out)) | (show (Addr.add _ _).block ≠ _; rw [add_block]; exact Nat.ne_of_lt (Nat.lt_of_lt_of_le (by have := World.block_lt_of_cell? _ _ hw194_0; first | rwa [add_block] at this | exact this) GW195.out)) | (dsimp only; exact Nat.ne_of_lt (Nat.lt_of_lt_of_le (by have := World.block_lt_of_cell? _ _ hw194_0; first | rwa [add_block] at this | exact this) GW195.out))) _).trans (hHeld.2.2))))))⟩ (fun hHeld => ?_)
                              clear hK K
                              refine done_ (done_of HT_.out (by kernel_rfl)) ?_
                              have hcz26_0 : w22.cell? ⟨gb195, 0, none⟩ = some (.int .i64 0) := (blk_cell BK195.out 0).trans rfl
                              have hcz26_1 : w22.cell? ⟨gb195, 1, none⟩ = some (.int .i64 0) := (blk_cell BK195.out 1).trans rfl
                              have hcz26_2 : w22.cell? ⟨gb195, 2, none⟩ = some (.int .i64 0) := (blk_cell BK195.out 2).trans rfl
                              have hfz26_0 := blk_frozen BK195.out 0
                              have hfz26_1 := blk_frozen BK195.out 1
                              have hfz26_2 := blk_frozen BK195.out 2
                              try go_wp2_with (first | ((with_reducible refine gate_callee (f := 18) rfl ?_); refine goesL_ (some 38) rfl rfl Try.func18 (by kernel_rfl) rfl #[.agg #[.int .i64 (rd ((l0.take ((wrap64 ((ji7) + 5)) : Int).toNat).drop ((ji7) : Int).toNat) 0), .int .i64 (rd ((l0.take ((wrap64 ((ji7) + 5)) : Int).toNat).drop ((ji7) : Int).toNat) 1), .int .i64 (rd ((l0.take ((wrap64 ((ji7) + 5)) : Int).toNat).drop ((ji7) : Int).toNat) 2)]] rfl (by (try simp only [List.map_toArray, List.map_cons, List.map_nil]); first | done | (simp only [hji7]; rfl) | rfl | (simp only [List.length_drop, List.length_take]; rfl)) ?_; (with_reducible refine (impl_IsJournalRecord.calls (rd ((l0.take ((wrap64 ((ji7) + 5)) : Int).toNat).drop ((ji7) : Int).toNat) 0) (rd ((l0.take ((wrap64 ((ji7) + 5)) : Int).toNat).drop ((ji7) : Int).toNat) 1) (rd ((l0.take ((wrap64 ((ji7) + 5)) : Int).toNat).drop ((ji7) : Int).toNat) 2) true _ A14.out).mono ?_); rintro e w27 ⟨rfl, hb⟩; refine ⟨_, rfl, ?_⟩; have n0_ := Aside0.mk (Kd.R_below (by (with_reducible repeat (first | apply Kd.R_alloc | apply Kd.R_drewN | apply Kd.R_drew)); exact (Kd.R_mono (Kd.R_far (p := ⟨gb195, 2, none⟩) (Kd.R_far (p := ⟨gb195, 1, none⟩) (Kd.R_far (p := ⟨gb195, 0, none⟩) (Kd.R_mono HO_3.out (fun k_ hk => (⟨hk, hk.2⟩ : _ ∧ k_ ≠ gb195))) (fun _ hk => hk.2) (.int .i64 (rd ((l0.take ((wrap64 ((ji7) + 5)) : Int).toNat).drop ((ji7) : Int).toNat) 0))) (fun _ hk => hk.2) (.int .i64 (rd ((l0.take ((wrap64 ((ji7) + 5)) : Int).toNat).drop ((ji7) : Int).toNat) 1))) (fun _ hk => hk.2) (.int .i64 (rd ((l0.take ((wrap64 ((ji7) + 5)) : Int).toNat).drop ((ji7) : Int).toNat) 2))) (fun _ h_ => h_.1))) hb); have n1_ := Aside0.mk (blk_below (g := gb195) (o := .cells #[.int .i64 (rd ((l0.take ((wrap64 ((ji7) + 5)) : Int).toNat).drop ((ji7) : Int).toNat) 0), .int .i64 (rd ((l0.take ((wrap64 ((ji7) + 5)) : Int).toNat).drop ((ji7) : Int).toNat) 1), .int .i64 (rd ((l0.take ((wrap64 ((ji7) + 5)) : Int).toNat).drop ((ji7) : Int).toNat) 2)] 25 (0, 0)) (by (with_reducible repeat (first | refine blk_drewN ?_ _ | refine blk_drew ?_ | refine blk_alloc ?_ _)); refine blk_put (cs := #[.int .i64 (rd ((l0.take ((wrap64 ((ji7) + 5)) : Int).toNat).drop ((ji7) : Int).toNat) 0), .int .i64 (rd ((l0.take ((wrap64 ((ji7) + 5)) : Int).toNat).drop ((ji7) : Int).toNat) 1), .int .i64 0]) ?_ 2 _ rfl; (with_reducible repeat (first | refine blk_drewN ?_ _ | refine blk_drew ?_ | refine blk_alloc ?_ _)); refine blk_put (cs := #[.int .i64 (rd ((l0.take ((wrap64 ((ji7) + 5)) : Int).toNat).drop ((ji7) : Int).toNat) 0), .int .i64 0, .int .i64 0]) ?_ 1 _ rfl; (with_reducible repeat (first | refine blk_drewN ?_ _ | refine blk_drew ?_ | refine blk_alloc ?_ _)); refine blk_put (cs := #[.int .i64 0, .int .i64 0, .int .i64 0]) ?_ 0 _ rfl; (with_reducible repeat (first | refine blk_drewN ?_ _ | refine blk_drew ?_ | refine blk_alloc ?_ _)); exact BK195.out) hb); have n2_ := Aside0.mk (below_step (by repeat (first | (with_reducible first | exact HB.out | apply below_alloc | apply pw_below_drewN | apply below_drew1 | refine below_set ?_ GE195.out) | exact HB.out)) hb); clear HO_3; clear BK195; clear HB; have HO_3 := n0_; have BK195 := n1_; have HB := n2_; clear n0_ n1_ n2_; (try clear hb); (try clear hb2); (try clear hk); (try clear hi); have hcz28_0 : w27.cell? ⟨gb195, 0, none⟩ = some (.int .i64 (rd ((l0.take ((wrap64 ((ji7) + 5)) : Int).toNat).drop ((ji7) : Int).toNat) 0)) := (blk_cell BK195.out 0).trans rfl; have hcz28_1 : w27.cell? ⟨gb195, 1, none⟩ = some (.int .i64 (rd ((l0.take ((wrap64 ((ji7) + 5)) : Int).toNat).drop ((ji7) : Int).toNat) 1)) := (blk_cell BK195.out 1).trans rfl; have hcz28_2 : w27.cell? ⟨gb195, 2, none⟩ = some (.int .i64 (rd ((l0.take ((wrap64 ((ji7) + 5)) : Int).toNat).drop ((ji7) : Int).toNat) 2)) := (blk_cell BK195.out 2).trans rfl; have hfz28_0 := blk_frozen BK195.out 0; have hfz28_1 := blk_frozen BK195.out 1; have hfz28_2 := blk_frozen BK195.out 2) | (go_at_call 62; (with_reducible refine (impl_recordNumbers.calls (rd ((l0.take ((wrap64 ((ji7) + 5)) : Int).toNat).drop ((ji7) : Int).toNat) 0) (rd ((l0.take ((wrap64 ((ji7) + 5)) : Int).toNat).drop ((ji7) : Int).toNat) 1) (rd ((l0.take ((wrap64 ((ji7) + 5)) : Int).toNat).drop ((ji7) : Int).toNat) 2) x4_1 t197 _ A16.out).mono ?_); rintro e w29 ⟨v198, rfl, ho0, hb⟩; have n0_ := Aside0.mk (Kd.R_below (by (with_reducible repeat (first | apply Kd.R_alloc | apply Kd.R_drewN | apply Kd.R_drew)); exact HO_3.out) hb); have n1_ := Aside0.mk (Kd.R_lower ho0 (below_size (by repeat (first | (with_reducible first | exact HB.out | apply below_alloc | apply pw_below_drewN | apply below_drew1 | refine below_set ?_ GE195.out) | exact HB.out)))); have n2_ := Aside0.mk (blk_below (g := gb195) (o := .cells #[.int .i64 (rd ((l0.take ((wrap64 ((ji7) + 5)) : Int).toNat).drop ((ji7) : Int).toNat) 0), .int .i64 (rd ((l0.take ((wrap64 ((ji7) + 5)) : Int).toNat).drop ((ji7) : Int).toNat) 1), .int .i64 (rd ((l0.take ((wrap64 ((ji7) + 5)) : Int).toNat).drop ((ji7) : Int).toNat) 2)] 25 (0, 0)) (by (with_reducible repeat (first | refine blk_drewN ?_ _ | refine blk_drew ?_ | refine blk_alloc ?_ _)); exact BK195.out) hb); have n3_ := Aside0.mk (below_step (by repeat (first | (with_reducible first | exact HB.out | apply below_alloc | apply pw_below_drewN | apply below_drew1 | refine below_set ?_ GE195.out) | exact HB.out)) hb); clear HO_3; clear BK195; clear HB; have HO_3 := n0_; have HO199 := n1_; have BK195 := n2_; have HB := n3_; clear n0_ n1_ n2_ n3_; (try clear hb); (try clear hb2); (try clear hk); (try clear hi); (try clear ho0); obtain ⟨Ao30, co30, eo30⟩ := Kd.R_slice HO199.out; subst eo30) | (go_at_call 90; have hl_ : (((l0.take ((wrap64 ((ji7) + 5)) : Int).toNat).drop ((ji7) : Int).toNat)).length = (wrap64 ((ji7) + 5)).toNat - (ji7).toNat := (by rw [List.length_drop, List.length_take]; have h_ : (wrap64 ((ji7) + 5) : Int) ≤ (l0.length : Int) := of_decide_eq_true (by assumption); omega); have hc_ := slices_Equal_int_int.calls kj3 _ _ t197 _ _ ((l0.take ((wrap64 ((ji7) + 5)) : Int).toNat).drop ((ji7) : Int).toNat) true _ (Kd.R_reads' HO199.out).2.2 (Kd.R_reads' HO199.out).2.1 (Kd.C_below HR191.out HB.out) HC191.out A17.out; rw [hl_] at hc_; clear hl_; (with_reducible refine hc_.mono ?_); clear hc_; rintro e w' ⟨rfl, ⟨nd, rfl⟩⟩; have hcz31_0 : w29.cell? ⟨gb195, 0, none⟩ = some (.int .i64 (rd ((l0.take ((wrap64 ((ji7) + 5)) : Int).toNat).drop ((ji7) : Int).toNat) 0)) := (blk_cell BK195.out 0).trans rfl; have hcz31_1 : w29.cell? ⟨gb195, 1, none⟩ = some (.int .i64 (rd ((l0.take ((wrap64 ((ji7) + 5)) : Int).toNat).drop ((ji7) : Int).toNat) 1)) := (blk_cell BK195.out 1).trans rfl; have hcz31_2 : w29.cell? ⟨gb195, 2, none⟩ = some (.int .i64 (rd ((l0.take ((wrap64 ((ji7) + 5)) : Int).toNat).drop ((ji7) : Int).toNat) 2)) := (blk_cell BK195.out 2).trans rfl; have hfz31_0 := blk_frozen BK195.out 0; have hfz31_1 := blk_frozen BK195.out 1; have hfz31_2 := blk_frozen BK195.out 2) | ((with_reducible refine gate_builtin (b := .append) (xs := #[.tmp 48, .tmp 50]) rfl ?_); (try (refine gate_guard (by rfl) ?_; dsimp only)); at_builtin; refine Kd.R_append k25 (w0 := w) w.heap.size rfl (.tmp 48) (.tmp 50) 41 25 (.agg #[(.int .i64 0), (.int .i64 0), (.int .i64 0)]) 24 rfl Try.underlying41 info25 rfl (by decide) (by omega) u3 x3_1 (⟨rd ((l0.take ((wrap64 ((ji7) + 5)) : Int).toNat).drop ((ji7) : Int).toNat) 0, rd ((l0.take ((wrap64 ((ji7) + 5)) : Int).toNat).drop ((ji7) : Int).toNat) 1, rd ((l0.take ((wrap64 ((ji7) + 5)) : Int).toNat).drop ((ji7) : Int).toNat) 2⟩ : S25) [.int .i64 (rd ((l0.take ((wrap64 ((ji7) + 5)) : Int).toNat).drop ((ji7) : Int).toNat) 0), .int .i64 (rd ((l0.take ((wrap64 ((ji7) + 5)) : Int).toNat).drop ((ji7) : Int).toNat) 1), .int .i64 (rd ((l0.take ((wrap64 ((ji7) + 5)) : Int).toNat).drop ((ji7) : Int).toNat) 2)] (fun k_ => k_ ≠ gb195) (fun _ => False) rfl rfl ?aP (fun _ hk => hk.elim) ?aF ?aO ?aB ?aS ?aL ?_; (case aP => exact k25_mkM _ _ _ (⟨rd ((l0.take ((wrap64 ((ji7) + 5)) : Int).toNat).drop ((ji7) : Int).toNat) 0, rd ((l0.take ((wrap64 ((ji7) + 5)) : Int).toNat).drop ((ji7) : Int).toNat) 1, rd ((l0.take ((wrap64 ((ji7) + 5)) : Int).toNat).drop ((ji7) : Int).toNat) 2⟩ : S25)); (case aB => exact (by repeat (first | (with_reducible first | exact HB.out | apply below_alloc | apply pw_below_drewN | apply below_drew1 | refine below_set ?_ GE195.out) | exact HB.out))); (case aF => exact (fun k_ hk => Kd.freshB (g := gb195) (o := .cells #[.int .i64 (rd ((l0.take ((wrap64 ((ji7) + 5)) : Int).toNat).drop ((ji7) : Int).toNat) 0), .int .i64 (rd ((l0.take ((wrap64 ((ji7) + 5)) : Int).toNat).drop ((ji7) : Int).toNat) 1), .int .i64 (rd ((l0.take ((wrap64 ((ji7) + 5)) : Int).toNat).drop ((ji7) : Int).toNat) 2)] 25 (0, 0)) (by (with_reducible repeat (first | refine blk_drewN ?_ _ | refine blk_drew ?_ | refine blk_alloc ?_ _)); exact BK195.out) k_ hk)); (case aO => exact (by (with_reducible repeat (first | apply Kd.R_alloc | apply Kd.R_drewN | apply Kd.R_drew)); exact Kd.R_mono HO_3.out (fun _ hk => hk.2))); (case aS => exact (below_size (by repeat (first | (with_reducible first | exact HB.out | apply below_alloc | apply pw_below_drewN | apply below_drew1 | refine below_set ?_ GE195.out) | exact HB.out)))); (case aL => have := LMc19.out; omega); intro v202 w32 ho hb hg hat; rw [← Ny201.out] at ho; have n0_ := Aside0.mk (blk_grown (g := gb195) (o := .cells #[.int .i64 (rd ((l0.take ((wrap64 ((ji7) + 5)) : Int).toNat).drop ((ji7) : Int).toNat) 0), .int .i64 (rd ((l0.take ((wrap64 ((ji7) + 5)) : Int).toNat).drop ((ji7) : Int).toNat) 1), .int .i64 (rd ((l0.take ((wrap64 ((ji7) + 5)) : Int).toNat).drop ((ji7) : Int).toNat) 2)] 25 (0, 0)) (by (with_reducible repeat (first | refine blk_drewN ?_ _ | refine blk_drew ?_ | refine blk_alloc ?_ _)); exact BK195.out) hg (Kd.R_away HO_3.out (fun _ hk => hk.2))); have n1_ := Aside0.mk (Kd.R_over' (by (with_reducible repeat (first | apply Kd.R_alloc | apply Kd.R_drewN | apply Kd.R_drew)); exact HO199.out) (Kd.R_typed (by (with_reducible repeat (first | apply Kd.R_alloc | apply Kd.R_drewN | apply Kd.R_drew)); exact HO_3.out)) (by decide) hg); have n2_ := Aside0.mk (hb); have n3_ := Aside0.mk (ho); clear BK195; clear HO199; clear HB; clear HO_3; have BK195 := n0_; have HO199 := n1_; have HB := n2_; have HO203 := n3_; clear n0_ n1_ n2_ n3_; clear ho hb hg hat))
                              go_roundg kj3
                              case measure => have := HK1.out; have := HJ3.out; omega
                              case rel => exact ⟨(y201), (wrap64 (x4_1 + 1)), (by first | rfl | (simp; done) | (simp [*]; done)), H', ⟨by have := HK1.out; have := HJ3.out; omega⟩, ⟨by (with_reducible repeat (first | apply Kd.R_alloc | apply Kd.R_drewN | apply Kd.R_drew)); exact Kd.R_mono HO203.out (fun _ hk => trivial)⟩, ⟨by repeat (first | (with_reducible first | exact HB.out | apply below_alloc | apply pw_below_drewN | apply below_drew1 | refine below_set ?_ GE195.out) | exact HB.out)⟩⟩
                            · rw [if_neg c19] at H
                              exact absurd H (by simp)
                          · replace c18 := Bool.eq_false_iff.mpr c18
                            subst c18
                            have H1 : (some x3_1) = some r := by rw [if_neg (show ¬ (false = true) by decide)] at H; exact H
                            clear H
                            have H := H1
                            clear H1
                            obtain rfl := Option.some.inj H
                            obtain ⟨i033, hi033, _, hsz33, _⟩ := info_parts info3
                            obtain ⟨A33, hcut33, hA33, hC33⟩ := print_mid_of (P := Try.prog) (Value.int .i64) 0 28 3 .i64 .i64 Try.underlying28 hi033 hsz33 A0 c0 l0 (ji7) (wrap64 ((ji7) + 5)) (of_decide_eq_true (by first | (with_reducible assumption) | assumption)) (by first | omega | exact of_decide_eq_true (by first | (with_reducible assumption) | assumption)) (of_decide_eq_true (by first | (with_reducible assumption) | assumption)) HC0.out
                            have HR191 := Aside0.mk (Kd.C_of_reads (h1 := fun _ => rfl) (hA33 _ (Kd.reads_of_C HR0.out)))
                            have HC191 := Aside0.mk hC33
                            clear hA33 hC33 hi033 hsz33
                            try go_wp2
                            have n0_ := Aside0.mk (Kd.R_drew HO_3.out)
                            have n1_ := Aside0.mk (below_drew1 HB.out)
                            clear HO_3
                            clear HB
                            have HO_3 := n0_
                            have HB := n1_
                            clear n0_ n1_
                            have p192 : 0 ≤ (0 : Int) := (by omega)
                            have q192 : 0 < (((l0.take ((wrap64 ((ji7) + 5)) : Int).toNat).drop ((ji7) : Int).toNat).length : Int) := of_decide_eq_true (by first | (with_reducible assumption) | assumption)
                            obtain ⟨ad192, e192, hx192_0⟩ := Kd.at_int HR191.out 0 p192 q192
                            have hw192_0 := hx192_0
                            (try rw [show ((0 : Int)).toNat = 0 from rfl] at hw192_0)
                            (try rw [show 0 * 1 = 0 from rfl] at hw192_0)
                            (try rw [Addr.add_zero'] at hw192_0)
                            cases e192
                            have qi192 : (0 < ((l0.take ((wrap64 ((ji7) + 5)) : Int).toNat).drop ((ji7) : Int).toNat).length) = True := eq_true (by omega)
                            (try rw [show ((0 : Int)).toNat = 0 from rfl] at hx192_0)
                            (try rw [Addr.add_zero'] at hx192_0)
                            replace hx192_0 := (HB.out.cell (World.block_lt_of_cell? w _ hx192_0)).trans hx192_0
                            replace p192 := eq_true p192
                            replace q192 := eq_true q192
                            have p193 : 0 ≤ (1 : Int) := (by omega)
                            have q193 : 1 < (((l0.take ((wrap64 ((ji7) + 5)) : Int).toNat).drop ((ji7) : Int).toNat).length : Int) := of_decide_eq_true (by first | (with_reducible assumption) | assumption)
                            obtain ⟨ad193, e193, hx193_0⟩ := Kd.at_int HR191.out 1 p193 q193
                            have hw193_0 := hx193_0
                            (try rw [show ((1 : Int)).toNat = 1 from rfl] at hw193_0)
                            (try rw [show 1 * 1 = 1 from rfl] at hw193_0)
                            (try simp only [Nat.reduceMul, Nat.reduceEqDiff, Go.Addr.add, ↓reduceIte] at hw193_0)
                            obtain rfl : ad192 = ad193 := (by injection e193)
                            (try simp only [show (1 : Int).toNat = 1 from rfl, Nat.reduceMul, Nat.reduceEqDiff, Go.Addr.add, ↓reduceIte] at hx193_0)
                            have qi193 : (1 < ((l0.take ((wrap64 ((ji7) + 5)) : Int).toNat).drop ((ji7) : Int).toNat).length) = True := eq_true (by omega)
                            (try rw [show ((1 : Int)).toNat = 1 from rfl] at hx193_0)
                            replace hx193_0 := (HB.out.cell (World.block_lt_of_cell? w _ hx193_0)).trans hx193_0
                            replace p193 := eq_true p193
                            replace q193 := eq_true q193
                            have p194 : 0 ≤ (2 : Int) := (by omega)
                            have q194 : 2 < (((l0.take ((wrap64 ((ji7) + 5)) : Int).toNat).drop ((ji7) : Int).toNat).length : Int) := of_decide_eq_true (by first | (with_reducible assumption) | assumption)
                            obtain ⟨ad194, e194, hx194_0⟩ := Kd.at_int HR191.out 2 p194 q194
                            have hw194_0 := hx194_0
                            (try rw [show ((2 : Int)).toNat = 2 from rfl] at hw194_0)
                            (try rw [show 2 * 1 = 2 from rfl] at hw194_0)
                            (try simp only [Nat.reduceMul, Nat.reduceEqDiff, Go.Addr.add, ↓reduceIte] at hw194_0)
                            obtain rfl : ad192 = ad194 := (by injection e194)
                            (try simp only [show (2 : Int).toNat = 2 from rfl, Nat.reduceMul, Nat.reduceEqDiff, Go.Addr.add, ↓reduceIte] at hx194_0)
                            have qi194 : (2 < ((l0.take ((wrap64 ((ji7) + 5)) : Int).toNat).drop ((ji7) : Int).toNat).length) = True := eq_true (by omega)
                            have qw0 : (0 < (wrap64 ((ji7) + 5)).toNat - (ji7).toNat) = True := eq_true (by have h_ := of_eq_true qi194; rw [List.length_drop, List.length_take] at h_; omega)
                            have qw1 : ((1 : Int) < (((wrap64 ((ji7) + 5)).toNat - (ji7).toNat : Nat) : Int)) = True := eq_true (by have h_ := of_eq_true qi194; rw [List.length_drop, List.length_take] at h_; omega)
                            have qw2 : ((2 : Int) < (((wrap64 ((ji7) + 5)).toNat - (ji7).toNat : Nat) : Int)) = True := eq_true (by have h_ := of_eq_true qi194; rw [List.length_drop, List.length_take] at h_; omega)
                            (try rw [show ((2 : Int)).toNat = 2 from rfl] at hx194_0)
                            replace hx194_0 := (HB.out.cell (World.block_lt_of_cell? w _ hx194_0)).trans hx194_0
                            replace p194 := eq_true p194
                            replace q194 := eq_true q194
                            refine start_ (n := 12) (S := fun w' => w'.cell? ad192 = some (.int .i64 (rd ((l0.take ((wrap64 ((ji7) + 5)) : Int).toNat).drop ((ji7) : Int).toNat) 0)) ∧ w'.cell? ⟨ad192.block, ad192.off + 1, none⟩ = some (.int .i64 (rd ((l0.take ((wrap64 ((ji7) + 5)) : Int).toNat).drop ((ji7) : Int).toNat) 1)) ∧ w'.cell? ⟨ad192.block, ad192.off + 2, none⟩ = some (.int .i64 (rd ((l0.take ((wrap64 ((ji7) + 5)) : Int).toNat).drop ((ji7) : Int).toNat) 2))) (ds := []) #[false, false, false, false, false, false, false, false, false, false, false, false] (by kernel_rfl) rfl rfl ⟨((HB.out.cell (World.block_lt_of_cell? w _ hw192_0)).trans hw192_0), ((HB.out.cell (World.block_lt_of_cell? w _ hw193_0)).trans hw193_0), ((HB.out.cell (World.block_lt_of_cell? w _ hw194_0)).trans hw194_0)⟩ (fun hHeld => ?_); refine with_tabW impl_recovered.tab6 impl_recovered.bits6 (fun HT_ HW_ => ?_)
                            generalize wc.drew = w34 at HO_3 HB hx192_0 hx193_0 hx194_0 hHeld ⊢
                            refine pure_ (i := 0) (N := some 27) (v := ?_) (a' := ?_) #[true, false, false, false, false, false, false, false, false, false, false, false] rfl rfl (any_of HT_.out (by kernel_rfl)) (fun _ _ _ h => h) (Or.inl ⟨by rfl, ?_⟩) ?_ ?_
                            rotate_left
                            · intro w'
                              go_simp
                              with_reducible rfl
                            rotate_left
                            · simp only [Act.put, List.setIfInBounds_toArray, List.set_cons_zero, List.set_cons_succ, i64_w, i32_w]
                              rfl
                            refine pure_ (i := 1) (N := some 28) (v := ?_) (a' := ?_) #[true, true, false, false, false, false, false, false, false, false, false, false] rfl rfl (any_of HT_.out (by kernel_rfl)) (fun _ _ _ h => h) (Or.inl ⟨by rfl, ?_⟩) ?_ ?_
                            rotate_left
                            · intro w'
                              go_simp
                              with_reducible rfl
                            rotate_left
                            · simp only [Act.put, List.setIfInBounds_toArray, List.set_cons_zero, List.set_cons_succ, i64_w, i32_w]
                              rfl
                            refine pure_ (i := 3) (N := some 30) (v := ?_) (a' := ?_) #[true, true, false, true, false, false, false, false, false, false, false, false] rfl rfl (any_of HT_.out (by kernel_rfl)) (fun _ _ _ h => h) (Or.inl ⟨by rfl, ?_⟩) ?_ ?_
                            rotate_left
                            · intro w'
                              go_simp
                              with_reducible rfl
                            rotate_left
                            · simp only [Act.put, List.setIfInBounds_toArray, List.set_cons_zero, List.set_cons_succ, i64_w, i32_w]
                              rfl
                            refine pure_ (i := 4) (N := some 31) (v := ?_) (a' := ?_) #[true, true, false, true, true, false, false, false, false, false, false, false] rfl rfl (any_of HT_.out (by kernel_rfl)) (fun _ _ _ h => h) (Or.inl ⟨by rfl, ?_⟩) ?_ ?_
                            rotate_left
                            · intro w'
                              go_simp
                              with_reducible rfl
                            rotate_left
                            · simp only [Act.put, List.setIfInBounds_toArray, List.set_cons_zero, List.set_cons_succ, i64_w, i32_w]
                              rfl
                            refine pure_ (i := 6) (N := some 33) (v := ?_) (a' := ?_) #[true, true, false, true, true, false, true, false, false, false, false, false] rfl rfl (any_of HT_.out (by kernel_rfl)) (fun _ _ _ h => h) (Or.inl ⟨by rfl, ?_⟩) ?_ ?_
                            rotate_left
                            · intro w'
                              go_simp
                              with_reducible rfl
                            rotate_left
                            · simp only [Act.put, List.setIfInBounds_toArray, List.set_cons_zero, List.set_cons_succ, i64_w, i32_w]
                              rfl
                            refine pure_ (i := 7) (N := some 34) (v := ?_) (a' := ?_) #[true, true, false, true, true, false, true, true, false, false, false, false] rfl rfl (any_of HT_.out (by kernel_rfl)) (fun _ _ _ h => h) (Or.inl ⟨by rfl, ?_⟩) ?_ ?_
                            rotate_left
                            · intro w'
                              go_simp
                              with_reducible rfl
                            rotate_left
                            · simp only [Act.put, List.setIfInBounds_toArray, List.set_cons_zero, List.set_cons_succ, i64_w, i32_w]
                              rfl
                            refine take_ (i := 2) (N := some 29) (v := ?_) (a' := ?_) #[true, true, true, true, true, false, true, true, false, false, false, false] rfl rfl (take_ofW HT_.out HW_.out (by kernel_rfl)) (fun _ _ _ h => h) (Or.inl ⟨by rfl, ?_⟩) hHeld ?_ ?_
                            rotate_left
                            · rintro w' ⟨s0, s1, s2⟩
                              go_simp
                              with_reducible rfl
                            rotate_left
                            · simp only [Act.put, List.setIfInBounds_toArray, List.set_cons_zero, List.set_cons_succ, i64_w, i32_w]
                              rfl
                            refine take_ (i := 5) (N := some 32) (v := ?_) (a' := ?_) #[true, true, true, true, true, true, true, true, false, false, false, false] rfl rfl (take_ofW HT_.out HW_.out (by kernel_rfl)) (fun _ _ _ h => h) (Or.inl ⟨by rfl, ?_⟩) hHeld ?_ ?_
                            rotate_left
                            · rintro w' ⟨s0, s1, s2⟩
                              go_simp
                              with_reducible rfl
                            rotate_left
                            · simp only [Act.put, List.setIfInBounds_toArray, List.set_cons_zero, List.set_cons_succ, i64_w, i32_w]
                              rfl
                            refine take_ (i := 8) (N := some 35) (v := ?_) (a' := ?_) #[true, true, true, true, true, true, true, true, true, false, false, false] rfl rfl (take_ofW HT_.out HW_.out (by kernel_rfl)) (fun _ _ _ h => h) (Or.inl ⟨by rfl, ?_⟩) hHeld ?_ ?_
                            rotate_left
                            · rintro w' ⟨s0, s1, s2⟩
                              go_simp
                              with_reducible rfl
                            rotate_left
                            · simp only [Act.put, List.setIfInBounds_toArray, List.set_cons_zero, List.set_cons_succ, i64_w, i32_w]
                              rfl
                            refine pure_ (i := 9) (N := some 36) (v := ?_) (a' := ?_) #[true, true, true, true, true, true, true, true, true, true, false, false] rfl rfl (any_of HT_.out (by kernel_rfl)) (fun _ _ _ h => h) (Or.inl ⟨by rfl, ?_⟩) ?_ ?_
                            rotate_left
                            · intro w'
                              go_simp
                              with_reducible rfl
                            rotate_left
                            · simp only [Act.put, List.setIfInBounds_toArray, List.set_cons_zero, List.set_cons_succ, i64_w, i32_w]
                              rfl
                            refine one_ (i := 10) (N := some 6) #[true, true, true, true, true, true, true, true, true, true, true, false] rfl rfl (one_of HT_.out (by kernel_rfl)) (by decide) (fun K hK => ?_)
                            refine box_step ?hg (N := 6) ?hd (cs := #[.int .i64 0, .int .i64 0, .int .i64 0]) (t := 25) ?hr ?_; (case hd => rfl); (case hg => rfl); (case hr => first | (go_simp; done) | (go_simp; rfl))
                            intro gb195 hg w35 hbox hb
                            have n0_ := Aside0.mk (Kd.R_below (Kd.R_elderB (by (with_reducible repeat (first | apply Kd.R_alloc | apply Kd.R_drewN | apply Kd.R_drew)); exact HO_3.out) gb195 (Nat.le_of_eq hg.symm)) hb)
                            have n1_ := Aside0.mk (below_step (by repeat (first | (with_reducible first | exact HB.out | apply below_alloc | apply pw_below_drewN | apply below_drew1) | exact HB.out)) hb)
                            have n2_ := Aside0.mk (hbox)
                            have n3_ := Aside0.mk ((by rw [hg]; exact (below_size (by repeat (first | (with_reducible first | exact HB.out | apply below_alloc | apply pw_below_drewN | apply below_drew1) | exact HB.out))) : w.heap.size ≤ gb195))
                            have n4_ := Aside0.mk ((by rw [hg]; exact (below_size (by repeat (first | (with_reducible first | exact HB.out | apply below_alloc | apply pw_below_drewN | apply below_drew1) | exact HB.out))) : w.heap.size ≤ gb195))
                            clear HO_3
                            clear HB
                            have HO_3 := n0_
                            have HB := n1_
                            have BK195 := n2_
                            have GW195 := n3_
                            have GE195 := n4_
                            clear n0_ n1_ n2_ n3_ n4_
                            clear hb hbox hg
                            refine hK.out _ _ ⟨((HB.out.cell (World.block_lt_of_cell? w _ hw192_0)).trans hw192_0), ((HB.out.cell (World.block_lt_of_cell? w _ hw193_0)).trans hw193_0), ((HB.out.cell (World.block_lt_of_cell? w _ hw194_0)).trans hw194_0)⟩ (fun hHeld => ?_)
                            clear hK K
                            refine norm_ (a' := ?_) ?_ ?_
                            rotate_left
                            · show Act.put _ (some 6) _ = _
                              simp only [Act.put, List.setIfInBounds_toArray, List.set_cons_zero, List.set_cons_succ, i64_w, i32_w]
                              rfl
                            refine one_ (i := 11) (N := none) #[true, true, true, true, true, true, true, true, true, true, true, true] rfl rfl (one_of HT_.out (by kernel_rfl)) (by decide) (fun K hK => ?_)
                            have hs36 : w35.cell? ⟨gb195, 0, none⟩ = some (.int .i64 0) := (blk_cell BK195.out 0).trans rfl
                            have hfs36 := blk_frozen BK195.out 0
                            have hs37 : w35.cell? ⟨gb195, 1, none⟩ = some (.int .i64 0) := (blk_cell BK195.out 1).trans rfl
                            have hfs37 := blk_frozen BK195.out 1
                            have hs38 : w35.cell? ⟨gb195, 2, none⟩ = some (.int .i64 0) := (blk_cell BK195.out 2).trans rfl
                            have hfs38 := blk_frozen BK195.out 2
                            refine skip_ (w1 := ?_) (by rfl) rfl ?_ ?_
                            rotate_left
                            · go_simp
                              rfl
                            refine hK.out _ _ ⟨((cell_far (p := ⟨gb195, _, none⟩) (by first | exact Nat.ne_of_lt (Nat.lt_of_lt_of_le (by have := World.block_lt_of_cell? _ _ hw192_0; first | rwa [add_block] at this | exact this) GW195.out) | (rw [add_block]; exact Nat.ne_of_lt (Nat.lt_of_lt_of_le (by have := World.block_lt_of_cell? _ _ hw192_0; first | rwa [add_block] at this | exact this) GW195.out)) | (show (Addr.add _ _).block ≠ _; rw [add_block]; exact Nat.ne_of_lt (Nat.lt_of_lt_of_le (by have := World.block_lt_of_cell? _ _ hw192_0; first | rwa [add_block] at this | exact this) GW195.out)) | (dsimp only; exact Nat.ne_of_lt (Nat.lt_of_lt_of_le (by have := World.block_lt_of_cell? _ _ hw192_0; first | rwa [add_block] at this | exact this) GW195.out))) _).trans (((cell_far (p := ⟨gb195, _, none⟩) (by first | exact Nat.ne_of_lt (Nat.lt_of_lt_of_le (by have := World.block_lt_of_cell? _ _ hw192_0; first | rwa [add_block] at this | exact this) GW195.out) | (rw [add_block]; exact Nat.ne_of_lt (Nat.lt_of_lt_of_le (by have := World.block_lt_of_cell? _ _ hw192_0; first | rwa [add_block] at this | exact this) GW195.out)) | (show (Addr.add _ _).block ≠ _; rw [add_block]; exact Nat.ne_of_lt (Nat.lt_of_lt_of_le (by have := World.block_lt_of_cell? _ _ hw192_0; first | rwa [add_block] at this | exact this) GW195.out)) | (dsimp only; exact Nat.ne_of_lt (Nat.lt_of_lt_of_le (by have := World.block_lt_of_cell? _ _ hw192_0; first | rwa [add_block] at this | exact this) GW195.out))) _).trans (((cell_far (p := ⟨gb195, _, none⟩) (by first | exact Nat.ne_of_lt (Nat.lt_of_lt_of_le (by have := World.block_lt_of_cell? _ _ hw192_0; first | rwa [add_block] at this | exact this) GW195.out) | (rw [add_block]; exact Nat.ne_of_lt (Nat.lt_of_lt_of_le (by have := World.block_lt_of_cell? _ _ hw192_0; first | rwa [add_block] at this | exact this) GW195.out)) | (show (Addr.add _ _).block ≠ _; rw [add_block]; exact Nat.ne_of_lt (Nat.lt_of_lt_of_le (by have := World.block_lt_of_cell? _ _ hw192_0; first | rwa [add_block] at this | exact this) GW195.out)) | (dsimp only; exact Nat.ne_of_lt (Nat.lt_of_lt_of_le (by have := World.block_lt_of_cell? _ _ hw192_0; first | rwa [add_block] at this | exact this) GW195.out))) _).trans (hHeld.1)))))), ((cell_far (p := ⟨gb195, _, none⟩) (by first | exact Nat.ne_of_lt (Nat.lt_of_lt_of_le (by have := World.block_lt_of_cell? _ _ hw193_0; first | rwa [add_block] at this | exact this) GW195.out) | (rw [add_block]; exact Nat.ne_of_lt (Nat.lt_of_lt_of_le (by have := World.block_lt_of_cell? _ _ hw193_0; first | rwa [add_block] at this | exact this) GW195.out)) | (show (Addr.add _ _).block ≠ _; rw [add_block]; exact Nat.ne_of_lt (Nat.lt_of_lt_of_le (by have := World.block_lt_of_cell? _ _ hw193_0; first | rwa [add_block] at this | exact this) GW195.out)) | (dsimp only; exact Nat.ne_of_lt (Nat.lt_of_lt_of_le (by have := World.block_lt_of_cell? _ _ hw193_0; first | rwa [add_block] at this | exact this) GW195.out))) _).trans (((cell_far (p := ⟨gb195, _, none⟩) (by first | exact Nat.ne_of_lt (Nat.lt_of_lt_of_le (by have := World.block_lt_of_cell? _ _ hw193_0; first | rwa [add_block] at this | exact this) GW195.out) | (rw [add_block]; exact Nat.ne_of_lt (Nat.lt_of_lt_of_le (by have := World.block_lt_of_cell? _ _ hw193_0; first | rwa [add_block] at this | exact this) GW195.out)) | (show (Addr.add _ _).block ≠ _; rw [add_block]; exact Nat.ne_of_lt (Nat.lt_of_lt_of_le (by have := World.block_lt_of_cell? _ _ hw193_0; first | rwa [add_block] at this | exact this) GW195.out)) | (dsimp only; exact Nat.ne_of_lt (Nat.lt_of_lt_of_le (by have := World.block_lt_of_cell? _ _ hw193_0; first | rwa [add_block] at this | exact this) GW195.out))) _).trans (((cell_far (p := ⟨gb195, _, none⟩) (by first | exact Nat.ne_of_lt (Nat.lt_of_lt_of_le (by have := World.block_lt_of_cell? _ _ hw193_0; first | rwa [add_block] at this | exact this) GW195.out) | (rw [add_block]; exact Nat.ne_of_lt (Nat.lt_of_lt_of_le (by have := World.block_lt_of_cell? _ _ hw193_0; first | rwa [add_block] at this | exact this) GW195.out)) | (show (Addr.add _ _).block ≠ _; rw [add_block]; exact Nat.ne_of_lt (Nat.lt_of_lt_of_le (by have := World.block_lt_of_cell? _ _ hw193_0; first | rwa [add_block] at this | exact this) GW195.out)) | (dsimp only; exact Nat.ne_of_lt (Nat.lt_of_lt_of_le (by have := World.block_lt_of_cell? _ _ hw193_0; first | rwa [add_block] at this | exact this) GW195.out))) _).trans (hHeld.2.1)))))), ((cell_far (p := ⟨gb195, _, none⟩) (by first | exact Nat.ne_of_lt (Nat.lt_of_lt_of_le (by have := World.block_lt_of_cell? _ _ hw194_0; first | rwa [add_block] at this | exact this) GW195.out) | (rw [add_block]; exact Nat.ne_of_lt (Nat.lt_of_lt_of_le (by have := World.block_lt_of_cell? _ _ hw194_0; first | rwa [add_block] at this | exact this) GW195.out)) | (show (Addr.add _ _).block ≠ _; rw [add_block]; exact Nat.ne_of_lt (Nat.lt_of_lt_of_le (by have := World.block_lt_of_cell? _ _ hw194_0; first | rwa [add_block] at this | exact this) GW195.out)) | (dsimp only; exact Nat.ne_of_lt (Nat.lt_of_lt_of_le (by have := World.block_lt_of_cell? _ _ hw194_0; first | rwa [add_block] at this | exact this) GW195.out))) _).trans (((cell_far (p := ⟨gb195, _, none⟩) (by first | exact Nat.ne_of_lt (Nat.lt_of_lt_of_le (by have := World.block_lt_of_cell? _ _ hw194_0; first | rwa [add_block] at this | exact this) GW195.out) | (rw [add_block]; exact Nat.ne_of_lt (Nat.lt_of_lt_of_le (by have := World.block_lt_of_cell? _ _ hw194_0; first | rwa [add_block] at this | exact this) GW195.out)) | (show (Addr.add _ _).block ≠ _; rw [add_block]; exact Nat.ne_of_lt (Nat.lt_of_lt_of_le (by have := World.block_lt_of_cell? _ _ hw194_0; first | rwa [add_block] at this | exact this) GW195.out)) | (dsimp only; exact Nat.ne_of_lt (Nat.lt_of_lt_of_le (by have := World.block_lt_of_cell? _ _ hw194_0; first | rwa [add_block] at this | exact this) GW195.out))) _).trans (((cell_far (p := ⟨gb195, _, none⟩) (by first | exact Nat.ne_of_lt (Nat.lt_of_lt_of_le (by have := World.block_lt_of_cell? _ _ hw194_0; first | rwa [add_block] at this | exact this) GW195.out) | (rw [add_block]; exact Nat.ne_of_lt (Nat.lt_of_lt_of_le (by have := World.block_lt_of_cell? _ _ hw194_0; first | rwa [add_block] at this | exact this) GW195.out)) | (show (Addr.add _ _).block ≠ _; rw [add_block]; exact Nat.ne_of_lt (Nat.lt_of_lt_of_le (by have := World.block_lt_of_cell? _ _ hw194_0; first | rwa [add_block] at this | exact this) GW195.out)) | (dsimp only; exact Nat.ne_of_lt (Nat.lt_of_lt_of_le (by have := World.block_lt_of_cell? _ _ hw194_0; first | rwa [add_block] at this | exact this) GW195.out))) _).trans (hHeld.2.2))))))⟩ (fun hHeld => ?_)
                            clear hK K
                            refine done_ (done_of HT_.out (by kernel_rfl)) ?_
                            have hcz39_0 : w35.cell? ⟨gb195, 0, none⟩ = some (.int .i64 0) := (blk_cell BK195.out 0).trans rfl
                            have hcz39_1 : w35.cell? ⟨gb195, 1, none⟩ = some (.int .i64 0) := (blk_cell BK195.out 1).trans rfl
                            have hcz39_2 : w35.cell? ⟨gb195, 2, none⟩ = some (.int .i64 0) := (blk_cell BK195.out 2).trans rfl
                            have hfz39_0 := blk_frozen BK195.out 0
                            have hfz39_1 := blk_frozen BK195.out 1
                            have hfz39_2 := blk_frozen BK195.out 2
                            try go_wp2_with (first | ((with_reducible refine gate_callee (f := 18) rfl ?_); refine goesL_ (some 38) rfl rfl Try.func18 (by kernel_rfl) rfl #[.agg #[.int .i64 (rd ((l0.take ((wrap64 ((ji7) + 5)) : Int).toNat).drop ((ji7) : Int).toNat) 0), .int .i64 (rd ((l0.take ((wrap64 ((ji7) + 5)) : Int).toNat).drop ((ji7) : Int).toNat) 1), .int .i64 (rd ((l0.take ((wrap64 ((ji7) + 5)) : Int).toNat).drop ((ji7) : Int).toNat) 2)]] rfl (by (try simp only [List.map_toArray, List.map_cons, List.map_nil]); first | done | (simp only [hji7]; rfl) | rfl | (simp only [List.length_drop, List.length_take]; rfl)) ?_; (with_reducible refine (impl_IsJournalRecord.calls (rd ((l0.take ((wrap64 ((ji7) + 5)) : Int).toNat).drop ((ji7) : Int).toNat) 0) (rd ((l0.take ((wrap64 ((ji7) + 5)) : Int).toNat).drop ((ji7) : Int).toNat) 1) (rd ((l0.take ((wrap64 ((ji7) + 5)) : Int).toNat).drop ((ji7) : Int).toNat) 2) true _ A14.out).mono ?_); rintro e w40 ⟨rfl, hb⟩; refine ⟨_, rfl, ?_⟩; have n0_ := Aside0.mk (Kd.R_below (by (with_reducible repeat (first | apply Kd.R_alloc | apply Kd.R_drewN | apply Kd.R_drew)); exact (Kd.R_mono (Kd.R_far (p := ⟨gb195, 2, none⟩) (Kd.R_far (p := ⟨gb195, 1, none⟩) (Kd.R_far (p := ⟨gb195, 0, none⟩) (Kd.R_mono HO_3.out (fun k_ hk => (⟨hk, hk.2⟩ : _ ∧ k_ ≠ gb195))) (fun _ hk => hk.2) (.int .i64 (rd ((l0.take ((wrap64 ((ji7) + 5)) : Int).toNat).drop ((ji7) : Int).toNat) 0))) (fun _ hk => hk.2) (.int .i64 (rd ((l0.take ((wrap64 ((ji7) + 5)) : Int).toNat).drop ((ji7) : Int).toNat) 1))) (fun _ hk => hk.2) (.int .i64 (rd ((l0.take ((wrap64 ((ji7) + 5)) : Int).toNat).drop ((ji7) : Int).toNat) 2))) (fun _ h_ => h_.1))) hb); have n1_ := Aside0.mk (blk_below (g := gb195) (o := .cells #[.int .i64 (rd ((l0.take ((wrap64 ((ji7) + 5)) : Int).toNat).drop ((ji7) : Int).toNat) 0), .int .i64 (rd ((l0.take ((wrap64 ((ji7) + 5)) : Int).toNat).drop ((ji7) : Int).toNat) 1), .int .i64 (rd ((l0.take ((wrap64 ((ji7) + 5)) : Int).toNat).drop ((ji7) : Int).toNat) 2)] 25 (0, 0)) (by (with_reducible repeat (first | refine blk_drewN ?_ _ | refine blk_drew ?_ | refine blk_alloc ?_ _)); refine blk_put (cs := #[.int .i64 (rd ((l0.take ((wrap64 ((ji7) + 5)) : Int).toNat).drop ((ji7) : Int).toNat) 0), .int .i64 (rd ((l0.take ((wrap64 ((ji7) + 5)) : Int).toNat).drop ((ji7) : Int).toNat) 1), .int .i64 0]) ?_ 2 _ rfl; (with_reducible repeat (first | refine blk_drewN ?_ _ | refine blk_drew ?_ | refine blk_alloc ?_ _)); refine blk_put (cs := #[.int .i64 (rd ((l0.take ((wrap64 ((ji7) + 5)) : Int).toNat).drop ((ji7) : Int).toNat) 0), .int .i64 0, .int .i64 0]) ?_ 1 _ rfl; (with_reducible repeat (first | refine blk_drewN ?_ _ | refine blk_drew ?_ | refine blk_alloc ?_ _)); refine blk_put (cs := #[.int .i64 0, .int .i64 0, .int .i64 0]) ?_ 0 _ rfl; (with_reducible repeat (first | refine blk_drewN ?_ _ | refine blk_drew ?_ | refine blk_alloc ?_ _)); exact BK195.out) hb); have n2_ := Aside0.mk (below_step (by repeat (first | (with_reducible first | exact HB.out | apply below_alloc | apply pw_below_drewN | apply below_drew1 | refine below_set ?_ GE195.out) | exact HB.out)) hb); clear HO_3; clear BK195; clear HB; have HO_3 := n0_; have BK195 := n1_; have HB := n2_; clear n0_ n1_ n2_; (try clear hb); (try clear hb2); (try clear hk); (try clear hi); have hcz41_0 : w40.cell? ⟨gb195, 0, none⟩ = some (.int .i64 (rd ((l0.take ((wrap64 ((ji7) + 5)) : Int).toNat).drop ((ji7) : Int).toNat) 0)) := (blk_cell BK195.out 0).trans rfl; have hcz41_1 : w40.cell? ⟨gb195, 1, none⟩ = some (.int .i64 (rd ((l0.take ((wrap64 ((ji7) + 5)) : Int).toNat).drop ((ji7) : Int).toNat) 1)) := (blk_cell BK195.out 1).trans rfl; have hcz41_2 : w40.cell? ⟨gb195, 2, none⟩ = some (.int .i64 (rd ((l0.take ((wrap64 ((ji7) + 5)) : Int).toNat).drop ((ji7) : Int).toNat) 2)) := (blk_cell BK195.out 2).trans rfl; have hfz41_0 := blk_frozen BK195.out 0; have hfz41_1 := blk_frozen BK195.out 1; have hfz41_2 := blk_frozen BK195.out 2) | (go_at_call 62; (with_reducible refine (impl_recordNumbers.calls (rd ((l0.take ((wrap64 ((ji7) + 5)) : Int).toNat).drop ((ji7) : Int).toNat) 0) (rd ((l0.take ((wrap64 ((ji7) + 5)) : Int).toNat).drop ((ji7) : Int).toNat) 1) (rd ((l0.take ((wrap64 ((ji7) + 5)) : Int).toNat).drop ((ji7) : Int).toNat) 2) x4_1 t197 _ A16.out).mono ?_); rintro e w42 ⟨v198, rfl, ho0, hb⟩; have n0_ := Aside0.mk (Kd.R_below (by (with_reducible repeat (first | apply Kd.R_alloc | apply Kd.R_drewN | apply Kd.R_drew)); exact HO_3.out) hb); have n1_ := Aside0.mk (Kd.R_lower ho0 (below_size (by repeat (first | (with_reducible first | exact HB.out | apply below_alloc | apply pw_below_drewN | apply below_drew1 | refine below_set ?_ GE195.out) | exact HB.out)))); have n2_ := Aside0.mk (blk_below (g := gb195) (o := .cells #[.int .i64 (rd ((l0.take ((wrap64 ((ji7) + 5)) : Int).toNat).drop ((ji7) : Int).toNat) 0), .int .i64 (rd ((l0.take ((wrap64 ((ji7) + 5)) : Int).toNat).drop ((ji7) : Int).toNat) 1), .int .i64 (rd ((l0.take ((wrap64 ((ji7) + 5)) : Int).toNat).drop ((ji7) : Int).toNat) 2)] 25 (0, 0)) (by (with_reducible repeat (first | refine blk_drewN ?_ _ | refine blk_drew ?_ | refine blk_alloc ?_ _)); exact BK195.out) hb); have n3_ := Aside0.mk (below_step (by repeat (first | (with_reducible first | exact HB.out | apply below_alloc | apply pw_below_drewN | apply below_drew1 | refine below_set ?_ GE195.out) | exact HB.out)) hb); clear HO_3; clear BK195; clear HB; have HO_3 := n0_; have HO199 := n1_; have BK195 := n2_; have HB := n3_; clear n0_ n1_ n2_ n3_; (try clear hb); (try clear hb2); (try clear hk); (try clear hi); (try clear ho0); obtain ⟨Ao43, co43, eo43⟩ := Kd.R_slice HO199.out; subst eo43) | (go_at_call 90; have hl_ : (((l0.take ((wrap64 ((ji7) + 5)) : Int).toNat).drop ((ji7) : Int).toNat)).length = (wrap64 ((ji7) + 5)).toNat - (ji7).toNat := (by rw [List.length_drop, List.length_take]; have h_ : (wrap64 ((ji7) + 5) : Int) ≤ (l0.length : Int) := of_decide_eq_true (by assumption); omega); have hc_ := slices_Equal_int_int.calls kj3 _ _ t197 _ _ ((l0.take ((wrap64 ((ji7) + 5)) : Int).toNat).drop ((ji7) : Int).toNat) false _ (Kd.R_reads' HO199.out).2.2 (Kd.R_reads' HO199.out).2.1 (Kd.C_below HR191.out HB.out) HC191.out A17.out; rw [hl_] at hc_; clear hl_; (with_reducible refine hc_.mono ?_); clear hc_; rintro e w' ⟨rfl, ⟨nd, rfl⟩⟩))
                            go_ret
                            exact ⟨_, by first | rfl | (simp [errW_none, errW_some] <;> rfl) | (simp only [← hji7]; first | rfl | (simp [errW_none, errW_some] <;> rfl)) | (simp [*, errW_none, errW_some] <;> rfl), by (with_reducible repeat (first | apply Kd.R_alloc | apply Kd.R_drewN | apply Kd.R_drew)); exact Kd.R_mono HO_3.out (fun _ hk => trivial), by repeat (first | (with_reducible first | exact HB.out | apply below_alloc | apply pw_below_drewN | apply below_drew1 | refine below_set ?_ GE195.out) | exact HB.out)⟩
                        · replace c15 := Bool.eq_false_iff.mpr c15
                          subst c15
                          have H1 : (some x3_1) = some r := by rw [if_neg (show ¬ (false = true) by decide)] at H; exact H
                          clear H
                          have H := H1
                          clear H1
                          obtain rfl := Option.some.inj H
                          obtain ⟨i044, hi044, _, hsz44, _⟩ := info_parts info3
                          obtain ⟨A44, hcut44, hA44, hC44⟩ := print_mid_of (P := Try.prog) (Value.int .i64) 0 28 3 .i64 .i64 Try.underlying28 hi044 hsz44 A0 c0 l0 (ji7) (wrap64 ((ji7) + 5)) (of_decide_eq_true (by first | (with_reducible assumption) | assumption)) (by first | omega | exact of_decide_eq_true (by first | (with_reducible assumption) | assumption)) (of_decide_eq_true (by first | (with_reducible assumption) | assumption)) HC0.out
                          have HR191 := Aside0.mk (Kd.C_of_reads (h1 := fun _ => rfl) (hA44 _ (Kd.reads_of_C HR0.out)))
                          have HC191 := Aside0.mk hC44
                          clear hA44 hC44 hi044 hsz44
                          try go_wp2
                          have n0_ := Aside0.mk (Kd.R_drew HO_3.out)
                          have n1_ := Aside0.mk (below_drew1 HB.out)
                          clear HO_3
                          clear HB
                          have HO_3 := n0_
                          have HB := n1_
                          clear n0_ n1_
                          have p192 : 0 ≤ (0 : Int) := (by omega)
                          have q192 : 0 < (((l0.take ((wrap64 ((ji7) + 5)) : Int).toNat).drop ((ji7) : Int).toNat).length : Int) := of_decide_eq_true (by first | (with_reducible assumption) | assumption)
                          obtain ⟨ad192, e192, hx192_0⟩ := Kd.at_int HR191.out 0 p192 q192
                          have hw192_0 := hx192_0
                          (try rw [show ((0 : Int)).toNat = 0 from rfl] at hw192_0)
                          (try rw [show 0 * 1 = 0 from rfl] at hw192_0)
                          (try rw [Addr.add_zero'] at hw192_0)
                          cases e192
                          have qi192 : (0 < ((l0.take ((wrap64 ((ji7) + 5)) : Int).toNat).drop ((ji7) : Int).toNat).length) = True := eq_true (by omega)
                          (try rw [show ((0 : Int)).toNat = 0 from rfl] at hx192_0)
                          (try rw [Addr.add_zero'] at hx192_0)
                          replace hx192_0 := (HB.out.cell (World.block_lt_of_cell? w _ hx192_0)).trans hx192_0
                          replace p192 := eq_true p192
                          replace q192 := eq_true q192
                          have p193 : 0 ≤ (1 : Int) := (by omega)
                          have q193 : 1 < (((l0.take ((wrap64 ((ji7) + 5)) : Int).toNat).drop ((ji7) : Int).toNat).length : Int) := of_decide_eq_true (by first | (with_reducible assumption) | assumption)
                          obtain ⟨ad193, e193, hx193_0⟩ := Kd.at_int HR191.out 1 p193 q193
                          have hw193_0 := hx193_0
                          (try rw [show ((1 : Int)).toNat = 1 from rfl] at hw193_0)
                          (try rw [show 1 * 1 = 1 from rfl] at hw193_0)
                          (try simp only [Nat.reduceMul, Nat.reduceEqDiff, Go.Addr.add, ↓reduceIte] at hw193_0)
                          obtain rfl : ad192 = ad193 := (by injection e193)
                          (try simp only [show (1 : Int).toNat = 1 from rfl, Nat.reduceMul, Nat.reduceEqDiff, Go.Addr.add, ↓reduceIte] at hx193_0)
                          have qi193 : (1 < ((l0.take ((wrap64 ((ji7) + 5)) : Int).toNat).drop ((ji7) : Int).toNat).length) = True := eq_true (by omega)
                          (try rw [show ((1 : Int)).toNat = 1 from rfl] at hx193_0)
                          replace hx193_0 := (HB.out.cell (World.block_lt_of_cell? w _ hx193_0)).trans hx193_0
                          replace p193 := eq_true p193
                          replace q193 := eq_true q193
                          have p194 : 0 ≤ (2 : Int) := (by omega)
                          have q194 : 2 < (((l0.take ((wrap64 ((ji7) + 5)) : Int).toNat).drop ((ji7) : Int).toNat).length : Int) := of_decide_eq_true (by first | (with_reducible assumption) | assumption)
                          obtain ⟨ad194, e194, hx194_0⟩ := Kd.at_int HR191.out 2 p194 q194
                          have hw194_0 := hx194_0
                          (try rw [show ((2 : Int)).toNat = 2 from rfl] at hw194_0)
                          (try rw [show 2 * 1 = 2 from rfl] at hw194_0)
                          (try simp only [Nat.reduceMul, Nat.reduceEqDiff, Go.Addr.add, ↓reduceIte] at hw194_0)
                          obtain rfl : ad192 = ad194 := (by injection e194)
                          (try simp only [show (2 : Int).toNat = 2 from rfl, Nat.reduceMul, Nat.reduceEqDiff, Go.Addr.add, ↓reduceIte] at hx194_0)
                          have qi194 : (2 < ((l0.take ((wrap64 ((ji7) + 5)) : Int).toNat).drop ((ji7) : Int).toNat).length) = True := eq_true (by omega)
                          have qw0 : (0 < (wrap64 ((ji7) + 5)).toNat - (ji7).toNat) = True := eq_true (by have h_ := of_eq_true qi194; rw [List.length_drop, List.length_take] at h_; omega)
                          have qw1 : ((1 : Int) < (((wrap64 ((ji7) + 5)).toNat - (ji7).toNat : Nat) : Int)) = True := eq_true (by have h_ := of_eq_true qi194; rw [List.length_drop, List.length_take] at h_; omega)
                          have qw2 : ((2 : Int) < (((wrap64 ((ji7) + 5)).toNat - (ji7).toNat : Nat) : Int)) = True := eq_true (by have h_ := of_eq_true qi194; rw [List.length_drop, List.length_take] at h_; omega)
                          (try rw [show ((2 : Int)).toNat = 2 from rfl] at hx194_0)
                          replace hx194_0 := (HB.out.cell (World.block_lt_of_cell? w _ hx194_0)).trans hx194_0
                          replace p194 := eq_true p194
                          replace q194 := eq_true q194
                          refine start_ (n := 12) (S := fun w' => w'.cell? ad192 = some (.int .i64 (rd ((l0.take ((wrap64 ((ji7) + 5)) : Int).toNat).drop ((ji7) : Int).toNat) 0)) ∧ w'.cell? ⟨ad192.block, ad192.off + 1, none⟩ = some (.int .i64 (rd ((l0.take ((wrap64 ((ji7) + 5)) : Int).toNat).drop ((ji7) : Int).toNat) 1)) ∧ w'.cell? ⟨ad192.block, ad192.off + 2, none⟩ = some (.int .i64 (rd ((l0.take ((wrap64 ((ji7) + 5)) : Int).toNat).drop ((ji7) : Int).toNat) 2))) (ds := []) #[false, false, false, false, false, false, false, false, false, false, false, false] (by kernel_rfl) rfl rfl ⟨((HB.out.cell (World.block_lt_of_cell? w _ hw192_0)).trans hw192_0), ((HB.out.cell (World.block_lt_of_cell? w _ hw193_0)).trans hw193_0), ((HB.out.cell (World.block_lt_of_cell? w _ hw194_0)).trans hw194_0)⟩ (fun hHeld => ?_); refine with_tabW impl_recovered.tab6 impl_recovered.bits6 (fun HT_ HW_ => ?_)
                          generalize wc.drew = w45 at HO_3 HB hx192_0 hx193_0 hx194_0 hHeld ⊢
                          refine pure_ (i := 0) (N := some 27) (v := ?_) (a' := ?_) #[true, false, false, false, false, false, false, false, false, false, false, false] rfl rfl (any_of HT_.out (by kernel_rfl)) (fun _ _ _ h => h) (Or.inl ⟨by rfl, ?_⟩) ?_ ?_
                          rotate_left
                          · intro w'
                            go_simp
                            with_reducible rfl
                          rotate_left
                          · simp only [Act.put, List.setIfInBounds_toArray, List.set_cons_zero, List.set_cons_succ, i64_w, i32_w]
                            rfl
                          refine pure_ (i := 1) (N := some 28) (v := ?_) (a' := ?_) #[true, true, false, false, false, false, false, false, false, false, false, false] rfl rfl (any_of HT_.out (by kernel_rfl)) (fun _ _ _ h => h) (Or.inl ⟨by rfl, ?_⟩) ?_ ?_
                          rotate_left
                          · intro w'
                            go_simp
                            with_reducible rfl
                          rotate_left
                          · simp only [Act.put, List.setIfInBounds_toArray, List.set_cons_zero, List.set_cons_succ, i64_w, i32_w]
                            rfl
                          refine pure_ (i := 3) (N := some 30) (v := ?_) (a' := ?_) #[true, true, false, true, false, false, false, false, false, false, false, false] rfl rfl (any_of HT_.out (by kernel_rfl)) (fun _ _ _ h => h) (Or.inl ⟨by rfl, ?_⟩) ?_ ?_
                          rotate_left
                          · intro w'
                            go_simp
                            with_reducible rfl
                          rotate_left
                          · simp only [Act.put, List.setIfInBounds_toArray, List.set_cons_zero, List.set_cons_succ, i64_w, i32_w]
                            rfl
                          refine pure_ (i := 4) (N := some 31) (v := ?_) (a' := ?_) #[true, true, false, true, true, false, false, false, false, false, false, false] rfl rfl (any_of HT_.out (by kernel_rfl)) (fun _ _ _ h => h) (Or.inl ⟨by rfl, ?_⟩) ?_ ?_
                          rotate_left
                          · intro w'
                            go_simp
                            with_reducible rfl
                          rotate_left
                          · simp only [Act.put, List.setIfInBounds_toArray, List.set_cons_zero, List.set_cons_succ, i64_w, i32_w]
                            rfl
                          refine pure_ (i := 6) (N := some 33) (v := ?_) (a' := ?_) #[true, true, false, true, true, false, true, false, false, false, false, false] rfl rfl (any_of HT_.out (by kernel_rfl)) (fun _ _ _ h => h) (Or.inl ⟨by rfl, ?_⟩) ?_ ?_
                          rotate_left
                          · intro w'
                            go_simp
                            with_reducible rfl
                          rotate_left
                          · simp only [Act.put, List.setIfInBounds_toArray, List.set_cons_zero, List.set_cons_succ, i64_w, i32_w]
                            rfl
                          refine pure_ (i := 7) (N := some 34) (v := ?_) (a' := ?_) #[true, true, false, true, true, false, true, true, false, false, false, false] rfl rfl (any_of HT_.out (by kernel_rfl)) (fun _ _ _ h => h) (Or.inl ⟨by rfl, ?_⟩) ?_ ?_
                          rotate_left
                          · intro w'
                            go_simp
                            with_reducible rfl
                          rotate_left
                          · simp only [Act.put, List.setIfInBounds_toArray, List.set_cons_zero, List.set_cons_succ, i64_w, i32_w]
                            rfl
                          refine take_ (i := 2) (N := some 29) (v := ?_) (a' := ?_) #[true, true, true, true, true, false, true, true, false, false, false, false] rfl rfl (take_ofW HT_.out HW_.out (by kernel_rfl)) (fun _ _ _ h => h) (Or.inl ⟨by rfl, ?_⟩) hHeld ?_ ?_
                          rotate_left
                          · rintro w' ⟨s0, s1, s2⟩
                            go_simp
                            with_reducible rfl
                          rotate_left
                          · simp only [Act.put, List.setIfInBounds_toArray, List.set_cons_zero, List.set_cons_succ, i64_w, i32_w]
                            rfl
                          refine take_ (i := 5) (N := some 32) (v := ?_) (a' := ?_) #[true, true, true, true, true, true, true, true, false, false, false, false] rfl rfl (take_ofW HT_.out HW_.out (by kernel_rfl)) (fun _ _ _ h => h) (Or.inl ⟨by rfl, ?_⟩) hHeld ?_ ?_
                          rotate_left
                          · rintro w' ⟨s0, s1, s2⟩
                            go_simp
                            with_reducible rfl
                          rotate_left
                          · simp only [Act.put, List.setIfInBounds_toArray, List.set_cons_zero, List.set_cons_succ, i64_w, i32_w]
                            rfl
                          refine take_ (i := 8) (N := some 35) (v := ?_) (a' := ?_) #[true, true, true, true, true, true, true, true, true, false, false, false] rfl rfl (take_ofW HT_.out HW_.out (by kernel_rfl)) (fun _ _ _ h => h) (Or.inl ⟨by rfl, ?_⟩) hHeld ?_ ?_
                          rotate_left
                          · rintro w' ⟨s0, s1, s2⟩
                            go_simp
                            with_reducible rfl
                          rotate_left
                          · simp only [Act.put, List.setIfInBounds_toArray, List.set_cons_zero, List.set_cons_succ, i64_w, i32_w]
                            rfl
                          refine pure_ (i := 9) (N := some 36) (v := ?_) (a' := ?_) #[true, true, true, true, true, true, true, true, true, true, false, false] rfl rfl (any_of HT_.out (by kernel_rfl)) (fun _ _ _ h => h) (Or.inl ⟨by rfl, ?_⟩) ?_ ?_
                          rotate_left
                          · intro w'
                            go_simp
                            with_reducible rfl
                          rotate_left
                          · simp only [Act.put, List.setIfInBounds_toArray, List.set_cons_zero, List.set_cons_succ, i64_w, i32_w]
                            rfl
                          refine one_ (i := 10) (N := some 6) #[true, true, true, true, true, true, true, true, true, true, true, false] rfl rfl (one_of HT_.out (by kernel_rfl)) (by decide) (fun K hK => ?_)
                          refine box_step ?hg (N := 6) ?hd (cs := #[.int .i64 0, .int .i64 0, .int .i64 0]) (t := 25) ?hr ?_; (case hd => rfl); (case hg => rfl); (case hr => first | (go_simp; done) | (go_simp; rfl))
                          intro gb195 hg w46 hbox hb
                          have n0_ := Aside0.mk (Kd.R_below (Kd.R_elderB (by (with_reducible repeat (first | apply Kd.R_alloc | apply Kd.R_drewN | apply Kd.R_drew)); exact HO_3.out) gb195 (Nat.le_of_eq hg.symm)) hb)
                          have n1_ := Aside0.mk (below_step (by repeat (first | (with_reducible first | exact HB.out | apply below_alloc | apply pw_below_drewN | apply below_drew1) | exact HB.out)) hb)
                          have n2_ := Aside0.mk (hbox)
                          have n3_ := Aside0.mk ((by rw [hg]; exact (below_size (by repeat (first | (with_reducible first | exact HB.out | apply below_alloc | apply pw_below_drewN | apply below_drew1) | exact HB.out))) : w.heap.size ≤ gb195))
                          have n4_ := Aside0.mk ((by rw [hg]; exact (below_size (by repeat (first | (with_reducible first | exact HB.out | apply below_alloc | apply pw_below_drewN | apply below_drew1) | exact HB.out))) : w.heap.size ≤ gb195))
                          clear HO_3
                          clear HB
                          have HO_3 := n0_
                          have HB := n1_
                          have BK195 := n2_
                          have GW195 := n3_
                          have GE195 := n4_
                          clear n0_ n1_ n2_ n3_ n4_
                          clear hb hbox hg
                          refine hK.out _ _ ⟨((HB.out.cell (World.block_lt_of_cell? w _ hw192_0)).trans hw192_0), ((HB.out.cell (World.block_lt_of_cell? w _ hw193_0)).trans hw193_0), ((HB.out.cell (World.block_lt_of_cell? w _ hw194_0)).trans hw194_0)⟩ (fun hHeld => ?_)
                          clear hK K
                          refine norm_ (a' := ?_) ?_ ?_
                          rotate_left
                          · show Act.put _ (some 6) _ = _
                            simp only [Act.put, List.setIfInBounds_toArray, List.set_cons_zero, List.set_cons_succ, i64_w, i32_w]
                            rfl
                          refine one_ (i := 11) (N := none) #[true, true, true, true, true, true, true, true, true, true, true, true] rfl rfl (one_of HT_.out (by kernel_rfl)) (by decide) (fun K hK => ?_)
                          have hs47 : w46.cell? ⟨gb195, 0, none⟩ = some (.int .i64 0) := (blk_cell BK195.out 0).trans rfl
                          have hfs47 := blk_frozen BK195.out 0
                          have hs48 : w46.cell? ⟨gb195, 1, none⟩ = some (.int .i64 0) := (blk_cell BK195.out 1).trans rfl
                          have hfs48 := blk_frozen BK195.out 1
                          have hs49 : w46.cell? ⟨gb195, 2, none⟩ = some (.int .i64 0) := (blk_cell BK195.out 2).trans rfl
                          have hfs49 := blk_frozen BK195.out 2
                          refine skip_ (w1 := ?_) (by rfl) rfl ?_ ?_
                          rotate_left
                          · go_simp
                            rfl
                          refine hK.out _ _ ⟨((cell_far (p := ⟨gb195, _, none⟩) (by first | exact Nat.ne_of_lt (Nat.lt_of_lt_of_le (by have := World.block_lt_of_cell? _ _ hw192_0; first | rwa [add_block] at this | exact this) GW195.out) | (rw [add_block]; exact Nat.ne_of_lt (Nat.lt_of_lt_of_le (by have := World.block_lt_of_cell? _ _ hw192_0; first | rwa [add_block] at this | exact this) GW195.out)) | (show (Addr.add _ _).block ≠ _; rw [add_block]; exact Nat.ne_of_lt (Nat.lt_of_lt_of_le (by have := World.block_lt_of_cell? _ _ hw192_0; first | rwa [add_block] at this | exact this) GW195.out)) | (dsimp only; exact Nat.ne_of_lt (Nat.lt_of_lt_of_le (by have := World.block_lt_of_cell? _ _ hw192_0; first | rwa [add_block] at this | exact this) GW195.out))) _).trans (((cell_far (p := ⟨gb195, _, none⟩) (by first | exact Nat.ne_of_lt (Nat.lt_of_lt_of_le (by have := World.block_lt_of_cell? _ _ hw192_0; first | rwa [add_block] at this | exact this) GW195.out) | (rw [add_block]; exact Nat.ne_of_lt (Nat.lt_of_lt_of_le (by have := World.block_lt_of_cell? _ _ hw192_0; first | rwa [add_block] at this | exact this) GW195.out)) | (show (Addr.add _ _).block ≠ _; rw [add_block]; exact Nat.ne_of_lt (Nat.lt_of_lt_of_le (by have := World.block_lt_of_cell? _ _ hw192_0; first | rwa [add_block] at this | exact this) GW195.out)) | (dsimp only; exact Nat.ne_of_lt (Nat.lt_of_lt_of_le (by have := World.block_lt_of_cell? _ _ hw192_0; first | rwa [add_block] at this | exact this) GW195.out))) _).trans (((cell_far (p := ⟨gb195, _, none⟩) (by first | exact Nat.ne_of_lt (Nat.lt_of_lt_of_le (by have := World.block_lt_of_cell? _ _ hw192_0; first | rwa [add_block] at this | exact this) GW195.out) | (rw [add_block]; exact Nat.ne_of_lt (Nat.lt_of_lt_of_le (by have := World.block_lt_of_cell? _ _ hw192_0; first | rwa [add_block] at this | exact this) GW195.out)) | (show (Addr.add _ _).block ≠ _; rw [add_block]; exact Nat.ne_of_lt (Nat.lt_of_lt_of_le (by have := World.block_lt_of_cell? _ _ hw192_0; first | rwa [add_block] at this | exact this) GW195.out)) | (dsimp only; exact Nat.ne_of_lt (Nat.lt_of_lt_of_le (by have := World.block_lt_of_cell? _ _ hw192_0; first | rwa [add_block] at this | exact this) GW195.out))) _).trans (hHeld.1)))))), ((cell_far (p := ⟨gb195, _, none⟩) (by first | exact Nat.ne_of_lt (Nat.lt_of_lt_of_le (by have := World.block_lt_of_cell? _ _ hw193_0; first | rwa [add_block] at this | exact this) GW195.out) | (rw [add_block]; exact Nat.ne_of_lt (Nat.lt_of_lt_of_le (by have := World.block_lt_of_cell? _ _ hw193_0; first | rwa [add_block] at this | exact this) GW195.out)) | (show (Addr.add _ _).block ≠ _; rw [add_block]; exact Nat.ne_of_lt (Nat.lt_of_lt_of_le (by have := World.block_lt_of_cell? _ _ hw193_0; first | rwa [add_block] at this | exact this) GW195.out)) | (dsimp only; exact Nat.ne_of_lt (Nat.lt_of_lt_of_le (by have := World.block_lt_of_cell? _ _ hw193_0; first | rwa [add_block] at this | exact this) GW195.out))) _).trans (((cell_far (p := ⟨gb195, _, none⟩) (by first | exact Nat.ne_of_lt (Nat.lt_of_lt_of_le (by have := World.block_lt_of_cell? _ _ hw193_0; first | rwa [add_block] at this | exact this) GW195.out) | (rw [add_block]; exact Nat.ne_of_lt (Nat.lt_of_lt_of_le (by have := World.block_lt_of_cell? _ _ hw193_0; first | rwa [add_block] at this | exact this) GW195.out)) | (show (Addr.add _ _).block ≠ _; rw [add_block]; exact Nat.ne_of_lt (Nat.lt_of_lt_of_le (by have := World.block_lt_of_cell? _ _ hw193_0; first | rwa [add_block] at this | exact this) GW195.out)) | (dsimp only; exact Nat.ne_of_lt (Nat.lt_of_lt_of_le (by have := World.block_lt_of_cell? _ _ hw193_0; first | rwa [add_block] at this | exact this) GW195.out))) _).trans (((cell_far (p := ⟨gb195, _, none⟩) (by first | exact Nat.ne_of_lt (Nat.lt_of_lt_of_le (by have := World.block_lt_of_cell? _ _ hw193_0; first | rwa [add_block] at this | exact this) GW195.out) | (rw [add_block]; exact Nat.ne_of_lt (Nat.lt_of_lt_of_le (by have := World.block_lt_of_cell? _ _ hw193_0; first | rwa [add_block] at this | exact this) GW195.out)) | (show (Addr.add _ _).block ≠ _; rw [add_block]; exact Nat.ne_of_lt (Nat.lt_of_lt_of_le (by have := World.block_lt_of_cell? _ _ hw193_0; first | rwa [add_block] at this | exact this) GW195.out)) | (dsimp only; exact Nat.ne_of_lt (Nat.lt_of_lt_of_le (by have := World.block_lt_of_cell? _ _ hw193_0; first | rwa [add_block] at this | exact this) GW195.out))) _).trans (hHeld.2.1)))))), ((cell_far (p := ⟨gb195, _, none⟩) (by first | exact Nat.ne_of_lt (Nat.lt_of_lt_of_le (by have := World.block_lt_of_cell? _ _ hw194_0; first | rwa [add_block] at this | exact this) GW195.out) | (rw [add_block]; exact Nat.ne_of_lt (Nat.lt_of_lt_of_le (by have := World.block_lt_of_cell? _ _ hw194_0; first | rwa [add_block] at this | exact this) GW195.out)) | (show (Addr.add _ _).block ≠ _; rw [add_block]; exact Nat.ne_of_lt (Nat.lt_of_lt_of_le (by have := World.block_lt_of_cell? _ _ hw194_0; first | rwa [add_block] at this | exact this) GW195.out)) | (dsimp only; exact Nat.ne_of_lt (Nat.lt_of_lt_of_le (by have := World.block_lt_of_cell? _ _ hw194_0; first | rwa [add_block] at this | exact this) GW195.out))) _).trans (((cell_far (p := ⟨gb195, _, none⟩) (by first | exact Nat.ne_of_lt (Nat.lt_of_lt_of_le (by have := World.block_lt_of_cell? _ _ hw194_0; first | rwa [add_block] at this | exact this) GW195.out) | (rw [add_block]; exact Nat.ne_of_lt (Nat.lt_of_lt_of_le (by have := World.block_lt_of_cell? _ _ hw194_0; first | rwa [add_block] at this | exact this) GW195.out)) | (show (Addr.add _ _).block ≠ _; rw [add_block]; exact Nat.ne_of_lt (Nat.lt_of_lt_of_le (by have := World.block_lt_of_cell? _ _ hw194_0; first | rwa [add_block] at this | exact this) GW195.out)) | (dsimp only; exact Nat.ne_of_lt (Nat.lt_of_lt_of_le (by have := World.block_lt_of_cell? _ _ hw194_0; first | rwa [add_block] at this | exact this) GW195.out))) _).trans (((cell_far (p := ⟨gb195, _, none⟩) (by first | exact Nat.ne_of_lt (Nat.lt_of_lt_of_le (by have := World.block_lt_of_cell? _ _ hw194_0; first | rwa [add_block] at this | exact this) GW195.out) | (rw [add_block]; exact Nat.ne_of_lt (Nat.lt_of_lt_of_le (by have := World.block_lt_of_cell? _ _ hw194_0; first | rwa [add_block] at this | exact this) GW195.out)) | (show (Addr.add _ _).block ≠ _; rw [add_block]; exact Nat.ne_of_lt (Nat.lt_of_lt_of_le (by have := World.block_lt_of_cell? _ _ hw194_0; first | rwa [add_block] at this | exact this) GW195.out)) | (dsimp only; exact Nat.ne_of_lt (Nat.lt_of_lt_of_le (by have := World.block_lt_of_cell? _ _ hw194_0; first | rwa [add_block] at this | exact this) GW195.out))) _).trans (hHeld.2.2))))))⟩ (fun hHeld => ?_)
                          clear hK K
                          refine done_ (done_of HT_.out (by kernel_rfl)) ?_
                          have hcz50_0 : w46.cell? ⟨gb195, 0, none⟩ = some (.int .i64 0) := (blk_cell BK195.out 0).trans rfl
                          have hcz50_1 : w46.cell? ⟨gb195, 1, none⟩ = some (.int .i64 0) := (blk_cell BK195.out 1).trans rfl
                          have hcz50_2 : w46.cell? ⟨gb195, 2, none⟩ = some (.int .i64 0) := (blk_cell BK195.out 2).trans rfl
                          have hfz50_0 := blk_frozen BK195.out 0
                          have hfz50_1 := blk_frozen BK195.out 1
                          have hfz50_2 := blk_frozen BK195.out 2
                          try go_wp2_with (first | ((with_reducible refine gate_callee (f := 18) rfl ?_); refine goesL_ (some 38) rfl rfl Try.func18 (by kernel_rfl) rfl #[.agg #[.int .i64 (rd ((l0.take ((wrap64 ((ji7) + 5)) : Int).toNat).drop ((ji7) : Int).toNat) 0), .int .i64 (rd ((l0.take ((wrap64 ((ji7) + 5)) : Int).toNat).drop ((ji7) : Int).toNat) 1), .int .i64 (rd ((l0.take ((wrap64 ((ji7) + 5)) : Int).toNat).drop ((ji7) : Int).toNat) 2)]] rfl (by (try simp only [List.map_toArray, List.map_cons, List.map_nil]); first | done | (simp only [hji7]; rfl) | rfl | (simp only [List.length_drop, List.length_take]; rfl)) ?_; (with_reducible refine (impl_IsJournalRecord.calls (rd ((l0.take ((wrap64 ((ji7) + 5)) : Int).toNat).drop ((ji7) : Int).toNat) 0) (rd ((l0.take ((wrap64 ((ji7) + 5)) : Int).toNat).drop ((ji7) : Int).toNat) 1) (rd ((l0.take ((wrap64 ((ji7) + 5)) : Int).toNat).drop ((ji7) : Int).toNat) 2) false _ A14.out).mono ?_); rintro e w51 ⟨rfl, hb⟩; refine ⟨_, rfl, ?_⟩; have n0_ := Aside0.mk (Kd.R_below (by (with_reducible repeat (first | apply Kd.R_alloc | apply Kd.R_drewN | apply Kd.R_drew)); exact (Kd.R_mono (Kd.R_far (p := ⟨gb195, 2, none⟩) (Kd.R_far (p := ⟨gb195, 1, none⟩) (Kd.R_far (p := ⟨gb195, 0, none⟩) (Kd.R_mono HO_3.out (fun k_ hk => (⟨hk, hk.2⟩ : _ ∧ k_ ≠ gb195))) (fun _ hk => hk.2) (.int .i64 (rd ((l0.take ((wrap64 ((ji7) + 5)) : Int).toNat).drop ((ji7) : Int).toNat) 0))) (fun _ hk => hk.2) (.int .i64 (rd ((l0.take ((wrap64 ((ji7) + 5)) : Int).toNat).drop ((ji7) : Int).toNat) 1))) (fun _ hk => hk.2) (.int .i64 (rd ((l0.take ((wrap64 ((ji7) + 5)) : Int).toNat).drop ((ji7) : Int).toNat) 2))) (fun _ h_ => h_.1))) hb); have n1_ := Aside0.mk (blk_below (g := gb195) (o := .cells #[.int .i64 (rd ((l0.take ((wrap64 ((ji7) + 5)) : Int).toNat).drop ((ji7) : Int).toNat) 0), .int .i64 (rd ((l0.take ((wrap64 ((ji7) + 5)) : Int).toNat).drop ((ji7) : Int).toNat) 1), .int .i64 (rd ((l0.take ((wrap64 ((ji7) + 5)) : Int).toNat).drop ((ji7) : Int).toNat) 2)] 25 (0, 0)) (by (with_reducible repeat (first | refine blk_drewN ?_ _ | refine blk_drew ?_ | refine blk_alloc ?_ _)); refine blk_put (cs := #[.int .i64 (rd ((l0.take ((wrap64 ((ji7) + 5)) : Int).toNat).drop ((ji7) : Int).toNat) 0), .int .i64 (rd ((l0.take ((wrap64 ((ji7) + 5)) : Int).toNat).drop ((ji7) : Int).toNat) 1), .int .i64 0]) ?_ 2 _ rfl; (with_reducible repeat (first | refine blk_drewN ?_ _ | refine blk_drew ?_ | refine blk_alloc ?_ _)); refine blk_put (cs := #[.int .i64 (rd ((l0.take ((wrap64 ((ji7) + 5)) : Int).toNat).drop ((ji7) : Int).toNat) 0), .int .i64 0, .int .i64 0]) ?_ 1 _ rfl; (with_reducible repeat (first | refine blk_drewN ?_ _ | refine blk_drew ?_ | refine blk_alloc ?_ _)); refine blk_put (cs := #[.int .i64 0, .int .i64 0, .int .i64 0]) ?_ 0 _ rfl; (with_reducible repeat (first | refine blk_drewN ?_ _ | refine blk_drew ?_ | refine blk_alloc ?_ _)); exact BK195.out) hb); have n2_ := Aside0.mk (below_step (by repeat (first | (with_reducible first | exact HB.out | apply below_alloc | apply pw_below_drewN | apply below_drew1 | refine below_set ?_ GE195.out) | exact HB.out)) hb); clear HO_3; clear BK195; clear HB; have HO_3 := n0_; have BK195 := n1_; have HB := n2_; clear n0_ n1_ n2_; (try clear hb); (try clear hb2); (try clear hk); (try clear hi)))
                          go_ret
                          exact ⟨_, by first | rfl | (simp [errW_none, errW_some] <;> rfl) | (simp only [← hji7]; first | rfl | (simp [errW_none, errW_some] <;> rfl)) | (simp [*, errW_none, errW_some] <;> rfl), by (with_reducible repeat (first | apply Kd.R_alloc | apply Kd.R_drewN | apply Kd.R_drew)); exact Kd.R_mono HO_3.out (fun _ hk => trivial), by repeat (first | (with_reducible first | exact HB.out | apply below_alloc | apply pw_below_drewN | apply below_drew1 | refine below_set ?_ GE195.out) | exact HB.out)⟩
                      · rw [if_neg c13] at H
                        exact absurd H (by simp)
                    · rw [if_neg c12] at H
                      exact absurd H (by simp)
                  · rw [if_neg c11] at H
                    exact absurd H (by simp)
                · rw [if_neg c10] at H
                  exact absurd H (by simp)
              · rw [if_neg c9] at H
                exact absurd H (by simp)
            · rw [if_neg c8] at H
              exact absurd H (by simp)
          · replace c6 := Bool.eq_false_iff.mpr c6
            subst c6
            have H1 : (some x3_1) = some r := by rw [if_neg (show ¬ (false = true) by decide)] at H; exact H
            clear H
            have H := H1
            clear H1
            obtain rfl := Option.some.inj H
            go_wp2
            go_ret
            exact ⟨_, by first | rfl | (simp [errW_none, errW_some] <;> rfl) | (simp [*, errW_none, errW_some] <;> rfl), by (with_reducible repeat (first | apply Kd.R_alloc | apply Kd.R_drewN | apply Kd.R_drew)); exact HO_3.out, by repeat (first | (with_reducible first | exact HB.out | apply below_alloc | apply pw_below_drewN | apply below_drew1) | exact HB.out)⟩


end Go.Proofs.Ytojblklecncjnaa.Pall
