-- written by the kit's print program, put together by a program
import Derived.Test.YtokigipkoeeddaaMFnExactLendParts1
namespace Go.Proofs.Ytokigipkoeeddaa.Pall
open Go.RowKit Go.Proofs.YtokigipkoeeddaaW.PrintWords Go.Proofs.YtokigipkoeeddaaW.PrintLast Go.Proofs.YtokigipkoeeddaaW.PrintMore
attribute [local go_sem] max2_int min2_int max_two min_two max_three min_three max_four min_four   -- for this text's walks alone
set_option linter.unusedVariables false
set_option linter.unusedSimpArgs false
/-! ### impl_LendParts: function 18 -/
def impl_LendParts.j0 : Nat → Bool → List Int → List (S41) → Int → Int → Int → Int → Option (List Int × (List (S41)) × Bool)
 | 0, _, _, _, _, _, _, _ => none
 | k + 1, x26, x416000, x416001, x417000, x417001, x417002, x417003 => if x26 = true then (some (([] : List Int), ([] : List (S41)), false)) else ((impl_copyShop.f x416000 x416001).bind fun bt421 => (if 0 ≤ x417001 then (if x417001 < (bt421.1.length : Int) then ((some (bt421.1.set (x417001 : Int).toNat (wrap64 ((rd bt421.1 x417001) - x417002)) : List Int)).bind fun y429 => ((impl_sameLoan.f k bt421.2 x417000 x417001 x417002 x417003).bind fun t430 => (if t430 ≥ 0 then (if 0 ≤ t430 then (if t430 < (bt421.2.length : Int) then ((impl_validShop.f k y429 (bt421.2.set (t430 : Int).toNat (⟨(rd_T41 bt421.2 t430).f0, (rd_T41 bt421.2 t430).f1, wrap64 (((rd_T41 bt421.2 t430).f2) + x417002), (rd_T41 bt421.2 t430).f3⟩ : S41))).bind fun bt433 => (some (bt433.1, bt433.2.1, bt433.2.2))) else (none)) else (none)) else (if bt421.2.length < 4398046511104 then ((impl_validShop.f k y429 (bt421.2 ++ [(⟨x417000, x417001, x417002, x417003⟩ : S41)])).bind fun bt443 => (some (bt443.1, bt443.2.1, bt443.2.2))) else (none))))) else (none)) else (none)))
def impl_LendParts.f (k : Nat) (l0_0 : List Int) (l0_1 : List (S41)) (a1_0 : Int) (a1_1 : Int) (a1_2 : Int) (a1_3 : Int) : Option (List Int × (List (S41)) × Bool) := (impl_IsShop.f k l0_0 l0_1).bind fun t418 => (if t418 = true then ((impl_isLoan.f a1_0 a1_1 a1_2 a1_3).bind fun t419 => (if t419 = true then (if 0 ≤ a1_1 then (if a1_1 < (l0_0.length : Int) then (impl_LendParts.j0 k (decide ((rd l0_0 a1_1) < a1_2)) l0_0 l0_1 a1_0 a1_1 a1_2 a1_3) else (none)) else (none)) else (impl_LendParts.j0 k true l0_0 l0_1 a1_0 a1_1 a1_2 a1_3))) else (impl_LendParts.j0 k true l0_0 l0_1 a1_0 a1_1 a1_2 a1_3))
theorem impl_LendParts.mono_l : ∀ k, (∀ y0 y1 y2 y3 y4 y5 y6, LeO (impl_LendParts.j0 k y0 y1 y2 y3 y4 y5 y6) (impl_LendParts.j0 (k + 1) y0 y1 y2 y3 y4 y5 y6))
 | 0 => fun _ _ _ _ _ _ _ r h => by simp [impl_LendParts.j0] at h
 | k + 1 => by
  have ih0 := impl_LendParts.mono_l k
  ·intro y0 y1 y2 y3 y4 y5 y6
   unfold impl_LendParts.j0
   repeat' first
   | (with_reducible exact ih0 _ _ _ _ _ _ _)
   | (with_reducible exact impl_IsShop.mono _ _ _)
   | (with_reducible exact impl_sameLoan.mono _ _ _ _ _ _)
   | (with_reducible exact impl_validShop.mono _ _ _)
   | (with_reducible exact LeO.refl _)
   | (with_reducible exact LeO.none _)
   | (with_reducible refine LeO.ite ?_ ?_)
   | (with_reducible refine LeO.bind ?_ (fun _ => ?_))
   | exact ih0 _ _ _ _ _ _ _
   | exact impl_IsShop.mono _ _ _
   | exact impl_sameLoan.mono _ _ _ _ _ _
   | exact impl_validShop.mono _ _ _
   | exact LeO.none _
   | refine LeO.ite ?_ ?_
   | refine LeO.bind ?_ (fun _ => ?_)
theorem impl_LendParts.mono : ∀ a0 a1 a2 a3 a4 a5 k, LeO (impl_LendParts.f k a0 a1 a2 a3 a4 a5) (impl_LendParts.f (k + 1) a0 a1 a2 a3 a4 a5) := by
 intro a0 a1 a2 a3 a4 a5 k
 have ih0 := impl_LendParts.mono_l k
 unfold impl_LendParts.f
 repeat' first
   | (with_reducible exact ih0 _ _ _ _ _ _ _)
   | (with_reducible exact impl_IsShop.mono _ _ _)
   | (with_reducible exact impl_sameLoan.mono _ _ _ _ _ _)
   | (with_reducible exact impl_validShop.mono _ _ _)
   | (with_reducible exact LeO.refl _)
   | (with_reducible exact LeO.none _)
   | (with_reducible refine LeO.ite ?_ ?_)
   | (with_reducible refine LeO.bind ?_ (fun _ => ?_))
   | exact ih0 _ _ _ _ _ _ _
   | exact impl_IsShop.mono _ _ _
   | exact impl_sameLoan.mono _ _ _ _ _ _
   | exact impl_validShop.mono _ _ _
   | exact LeO.none _
   | refine LeO.ite ?_ ?_
   | refine LeO.bind ?_ (fun _ => ?_)
def impl_LendParts.T1 : Bool × List (List Nat × List Nat) := (true, [([], []), ([0], [0]), ([1], [1]), ([2, 1], [2]), ([3], [3]), ([4, 3, 3], [3, 4]), ([5, 3], [3, 5]), ([3, 6], [3, 6]), ([7, 5], [7]), ([8], [8]), ([9, 8], [8, 9]), ([8], [8]), ([11, 8], [8, 11]), ([10, 12, 8], [8, 10, 12]), ([13, 8], [8, 13]), ([8], [8]), ([15, 8], [8, 15]), ([14, 16, 8], [8, 14, 16]), ([8, 17], [8, 17])])
def impl_LendParts.B1 : List Nat := [0, 1, 3, 7, 15, 31, 63, 127, 255, 511, 1023, 511, 2559, 8191, 16383, 511, 33279, 131071, 262143]
theorem impl_LendParts.tab1 : rtab .any (opsOf Try.f18 1) = impl_LendParts.T1 := by kernel_rfl
theorem impl_LendParts.bits1 : waitsOk impl_LendParts.T1.2 impl_LendParts.B1 = true := by kernel_rfl
def impl_LendParts.T4 : Bool × List (List Nat × List Nat) := (true, [([], []), ([0], [0]), ([], []), ([2], [2]), ([1, 3], [1, 3]), ([4], [4]), ([], []), ([6], [6]), ([5, 7], [5, 7]), ([1, 3, 0, 1, 2, 3, 4, 5, 6, 7, 8], [1, 3]), ([9, 8, 0, 1, 2, 3, 4, 5, 6, 7, 8], [8, 9])])
def impl_LendParts.B4 : List Nat := [0, 1, 0, 4, 15, 31, 0, 64, 255, 511, 1023]
theorem impl_LendParts.tab4 : rtab .any (opsOf Try.f18 4) = impl_LendParts.T4 := by kernel_rfl
theorem impl_LendParts.bits4 : waitsOk impl_LendParts.T4.2 impl_LendParts.B4 = true := by kernel_rfl
def impl_LendParts.T7 : Bool × List (List Nat × List Nat) := (true, [([], []), ([0], [0]), ([], []), ([1, 2], [1, 2]), ([3], [3]), ([4], [4]), ([], []), ([6], [6]), ([5, 7], [5, 7]), ([1, 2, 0, 1, 2, 3, 4, 5, 6, 7, 8], [1, 2]), ([9, 0, 1, 2, 3, 4, 5, 6, 7, 8], [9]), ([10, 8, 0, 1, 2, 3, 4, 5, 6, 7, 8], [8, 10])])
def impl_LendParts.B7 : List Nat := [0, 1, 0, 7, 15, 31, 0, 64, 255, 511, 1023, 2047]
theorem impl_LendParts.tab7 : rtab .any (opsOf Try.f18 7) = impl_LendParts.T7 := by kernel_rfl
theorem impl_LendParts.bits7 : waitsOk impl_LendParts.T7.2 impl_LendParts.B7 = true := by kernel_rfl
set_option maxHeartbeats 8000000 in
set_option maxRecDepth 100000 in
theorem impl_LendParts.calls (k : Nat) (A0_0 : Option Addr) (c0_0 : Nat) (l0_0 : List Int) (A0_1 : Option Addr) (c0_1 : Nat) (l0_1 : List (S41)) (a1_0 : Int) (a1_1 : Int) (a1_2 : Int) (a1_3 : Int) (r1 : List Int) (r2 : List (S41)) (r3 : Bool) (w : World) (hr0_0 : Kd.C (Kd.int .i64) w A0_0 l0_0.length l0_0) (hc0_0 : l0_0.length ≤ c0_0) (hr0_1 : Kd.C k41 w A0_1 l0_1.length l0_1) (hc0_1 : l0_1.length ≤ c0_1) (h : impl_LendParts.f k l0_0 l0_1 a1_0 a1_1 a1_2 a1_3 = some (r1, r2, r3)) :
  Calls Try.prog 18 #[.agg #[.slice A0_0 l0_0.length c0_0, .slice A0_1 l0_1.length c0_1], .agg #[.int .i64 a1_0, .int .i64 a1_1, .int .i64 a1_2, .int .i64 a1_3]] w fun e w' => ∃ v0_ v1_ : Value, e = .returned (.tuple #[.agg #[v0_, v1_], .bool r3]) ∧ Kd.R (Kd.int .i64) 3 w' w.heap.size (fun _ => True) v0_ r1 ∧ Kd.R k41 41 w' w.heap.size (fun _ => True) v1_ r2 ∧ Below w.heap.size w w' := by
 have hu29 := Try.underlying29
 have hu41 := Try.underlying41
 have HR0_0 := Aside0.mk hr0_0
 have HC0_0 := Aside0.mk hc0_0
 clear hr0_0 hc0_0
 have HR0_1 := Aside0.mk hr0_1
 have HC0_1 := Aside0.mk hc0_1
 clear hr0_1 hc0_1
 have HB := Aside0.mk (Below.refl w.heap.size w)
 have H : ((impl_IsShop.f k l0_0 l0_1).bind fun t418 => (if t418 = true then ((impl_isLoan.f a1_0 a1_1 a1_2 a1_3).bind fun t419 => (if t419 = true then (if 0 ≤ a1_1 then (if a1_1 < (l0_0.length : Int) then (impl_LendParts.j0 k (decide ((rd l0_0 a1_1) < a1_2)) l0_0 l0_1 a1_0 a1_1 a1_2 a1_3) else (none)) else (none)) else (impl_LendParts.j0 k true l0_0 l0_1 a1_0 a1_1 a1_2 a1_3))) else (impl_LendParts.j0 k true l0_0 l0_1 a1_0 a1_1 a1_2 a1_3))) = some (r1, r2, r3) := h
 clear h
 have HC3 := Aside0.mk H
 clear H
 go_enter Try.func18, Try.ntmps18
 go_upto_region 1 with (first | ((with_reducible refine gate_dst (N := 2) rfl ?_); refine box_event ?hg (N := 2) ?hd (cs := #[.slice A0_0 l0_0.length c0_0, .slice A0_1 l0_1.length c0_1]) (t := 29) ?hr ?_; (case hd => rfl); (case hg => rfl); (case hr => first | (go_simp; done) | (go_simp; rfl)); intro gb415 hg w4 hbox hb; have BK415 := Aside0.mk (hbox); have GE415 := Aside0.mk (gq hg); replace HB := sb hb; clear hb hbox hg) | ((with_reducible refine gate_dst (N := 3) rfl ?_); refine box_event ?hg (N := 3) ?hd (cs := #[.int .i64 a1_0, .int .i64 a1_1, .int .i64 a1_2, .int .i64 a1_3]) (t := 41) ?hr ?_; (case hd => rfl); (case hg => rfl); (case hr => first | (go_simp; done) | (go_simp; rfl)); intro gb416 hg w5 hbox hb; have BK416 := Aside0.mk (hbox); have GE416 := Aside0.mk (gq hg); replace HB := sb hb; have NB415_416 := nl hg BK415; have NB416_415 := ng hg BK415; replace BK415 := zb BK415 hb; clear hb hbox hg) | ((with_reducible refine gate_dst (N := 4) rfl ?_); refine box_event ?hg (N := 4) ?hd (cs := #[.slice none 0 0, .slice none 0 0]) (t := 29) ?hr ?_; (case hd => rfl); (case hg => rfl); (case hr => first | (go_simp; done) | (go_simp; rfl)); intro gb417 hg w6 hbox hb; have BK417 := Aside0.mk (hbox); have GE417 := Aside0.mk (gq hg); replace HB := sb hb; have NB415_417 := nl hg BK415; have NB417_415 := ng hg BK415; replace BK415 := zb BK415 hb; have NB416_417 := nl hg BK416; have NB417_416 := ng hg BK416; replace BK416 := zb BK416 hb; clear hb hbox hg))
 (try simp only [Act.put, List.setIfInBounds_toArray, List.set_cons_zero, List.set_cons_succ])
 go_cut [26] (fun v26 wc => ∃ (kq : Nat) (x26_2 : Bool), v26 = .bool x26_2 ∧ Aside0 (impl_LendParts.j0 kq x26_2 l0_0 l0_1 a1_0 a1_1 a1_2 a1_3 = some (r1, r2, r3)) ∧ Aside0 (kq ≤ k) ∧ Aside0 (wc.heap[gb415]? = some (.cells #[(.slice A0_0 l0_0.length c0_0), (.slice A0_1 l0_1.length c0_1)] 29 (0, 0))) ∧ Aside0 (wc.heap[gb416]? = some (.cells #[.int .i64 a1_0, .int .i64 a1_1, .int .i64 a1_2, .int .i64 a1_3] 41 (0, 0))) ∧ Aside0 (wc.heap[gb417]? = some (.cells #[(.slice none 0 0), (.slice none 0 0)] 29 (0, 0))) ∧ Aside0 (Below w.heap.size w wc))
 case first =>
  have H := HC3.out
  clear HC3
  replace H := Option.bind_eq_some_iff.mp H
  obtain ⟨t418, A70, H⟩ := H
  replace H : (if t418 = true then ((impl_isLoan.f a1_0 a1_1 a1_2 a1_3).bind fun t419 => (if t419 = true then (if 0 ≤ a1_1 then (if a1_1 < (l0_0.length : Int) then (impl_LendParts.j0 k (decide ((rd l0_0 a1_1) < a1_2)) l0_0 l0_1 a1_0 a1_1 a1_2 a1_3) else (none)) else (none)) else (impl_LendParts.j0 k true l0_0 l0_1 a1_0 a1_1 a1_2 a1_3))) else (impl_LendParts.j0 k true l0_0 l0_1 a1_0 a1_1 a1_2 a1_3)) = some (r1, r2, r3) := H
  have A7 := Aside0.mk A70
  clear A70
  by_cases c8 : t418 = true
  ·subst c8
   have H1 : ((impl_isLoan.f a1_0 a1_1 a1_2 a1_3).bind fun t419 => (if t419 = true then (if 0 ≤ a1_1 then (if a1_1 < (l0_0.length : Int) then (impl_LendParts.j0 k (decide ((rd l0_0 a1_1) < a1_2)) l0_0 l0_1 a1_0 a1_1 a1_2 a1_3) else (none)) else (none)) else (impl_LendParts.j0 k true l0_0 l0_1 a1_0 a1_1 a1_2 a1_3))) = some (r1, r2, r3) := by rw [if_pos rfl] at H; exact H
   clear H
   have H := H1
   clear H1
   replace H := Option.bind_eq_some_iff.mp H
   obtain ⟨t419, A90, H⟩ := H
   replace H : (if t419 = true then (if 0 ≤ a1_1 then (if a1_1 < (l0_0.length : Int) then (impl_LendParts.j0 k (decide ((rd l0_0 a1_1) < a1_2)) l0_0 l0_1 a1_0 a1_1 a1_2 a1_3) else (none)) else (none)) else (impl_LendParts.j0 k true l0_0 l0_1 a1_0 a1_1 a1_2 a1_3)) = some (r1, r2, r3) := H
   have A9 := Aside0.mk A90
   clear A90
   by_cases c10 : t419 = true
   ·subst c10
    have H1 : (if 0 ≤ a1_1 then (if a1_1 < (l0_0.length : Int) then (impl_LendParts.j0 k (decide ((rd l0_0 a1_1) < a1_2)) l0_0 l0_1 a1_0 a1_1 a1_2 a1_3) else (none)) else (none)) = some (r1, r2, r3) := by rw [if_pos rfl] at H; exact H
    clear H
    have H := H1
    clear H1
    by_cases c11 : 0 ≤ a1_1
    ·rw [if_pos c11] at H
     have c11b0 : decide (0 ≤ a1_1) = true := decide_eq_true c11
     clear c11
     (first | rw [c11b0] | (simp only [i64_w, i32_w]; rw [c11b0]) | skip)
     by_cases c12 : a1_1 < (l0_0.length : Int)
     ·rw [if_pos c12] at H
      have c12b0 : decide (a1_1 < (l0_0.length : Int)) = true := decide_eq_true c12
      clear c12
      have H' := Aside0.mk H
      clear H
      try go_wp2
      replace BK415 := Aside0.mk (blk_drew BK415.out)
      replace BK416 := Aside0.mk (blk_drew BK416.out)
      replace BK417 := Aside0.mk (blk_drew BK417.out)
      replace HB := Aside0.mk (below_drew1 HB.out)
      have p420 : 0 ≤ (a1_1 : Int) := of_decide_eq_true aq
      have q420 : a1_1 < (l0_0.length : Int) := of_decide_eq_true aq
      obtain ⟨ad420, e420, hx420_0⟩ := Kd.at_int HR0_0.out a1_1 p420 q420
      have hw420_0 := hx420_0
      cases e420
      replace hx420_0 := (HB.out.cell (World.block_lt_of_cell? w _ hx420_0)).trans hx420_0
      replace p420 := eq_true p420
      replace q420 := eq_true q420
      refine start_ (n := 19) (S := fun w' => w'.cell? ⟨gb415, 0, none⟩ = some (.slice (some ad420) l0_0.length c0_0) ∧ w'.cell? ⟨gb415, 1, none⟩ = some (.slice A0_1 l0_1.length c0_1) ∧ w'.cell? ⟨gb416, 0, none⟩ = some (.int .i64 a1_0) ∧ w'.cell? ⟨gb416, 1, none⟩ = some (.int .i64 a1_1) ∧ w'.cell? ⟨gb416, 2, none⟩ = some (.int .i64 a1_2) ∧ w'.cell? ⟨gb416, 3, none⟩ = some (.int .i64 a1_3) ∧ w'.cell? (ad420.add (a1_1).toNat) = some (.int .i64 (rd l0_0 a1_1))) (ds := []) #[false, false, false, false, false, false, false, false, false, false, false, false, false, false, false, false, false, false, false] (by kernel_rfl) rfl rfl ⟨(blk_cell BK415.out 0).trans rfl, (blk_cell BK415.out 1).trans rfl, (blk_cell BK416.out 0).trans rfl, (blk_cell BK416.out 1).trans rfl, (blk_cell BK416.out 2).trans rfl, (blk_cell BK416.out 3).trans rfl, ((HB.out.cell (World.block_lt_of_cell? w _ hw420_0)).trans hw420_0)⟩ (fun hHeld => ?_); refine with_tabW impl_LendParts.tab1 impl_LendParts.bits1 (fun HT_ HW_ => ?_)
      generalize w6.drew = w13 at BK415 BK416 BK417 HB hx420_0 hHeld ⊢
      refine take_ (i := 0) (N := some 8) (v := ?_) (a' := ?_) #[true, false, false, false, false, false, false, false, false, false, false, false, false, false, false, false, false, false, false] rfl rfl (take_ofW HT_.out HW_.out (by kernel_rfl)) (fun _ _ _ h => h) (Or.inl ⟨by rfl, ?_⟩) hHeld ?_ ?_
      rotate_left
      ·rintro w' ⟨s0, s1, s2, s3, s4, s5, s6⟩
       go_simp
       with_reducible rfl
      rotate_left
      ·simp only [Act.put, List.setIfInBounds_toArray, List.set_cons_zero, List.set_cons_succ, i64_w, i32_w]
       rfl
      refine one_ (i := 1) (N := some 9) #[true, true, false, false, false, false, false, false, false, false, false, false, false, false, false, false, false, false, false] rfl rfl (one_of HT_.out (by kernel_rfl)) (by decide) (fun K hK => ?_)
      refine goes_ Try.func27 (by kernel_rfl) rfl #[.agg #[.slice (some ad420) l0_0.length c0_0, .slice A0_1 l0_1.length c0_1]] (by rfl) rfl rfl mq ?_
      with_reducible refine (impl_IsShop.calls k _ _ l0_0 _ _ l0_1 true _ ?s1 ?s2 ?s3 ?s4 A7.out).mono ?_
      (case s1 => exact cq (Kd.C_below HR0_0.out HB.out))
      (case s2 => exact HC0_0.out)
      (case s3 => exact cq (Kd.C_below HR0_1.out HB.out))
      (case s4 => exact HC0_1.out)
      rintro e w14 ⟨rfl, hb⟩
      refine ⟨_, rfl, ?_⟩
      replace BK415 := zb BK415 hb
      replace BK416 := zb BK416 hb
      replace BK417 := zb BK417 hb
      replace HB := sb hb
      (try clear hb)
      refine hK.out _ _ ⟨(blk_cell BK415.out 0).trans rfl, (blk_cell BK415.out 1).trans rfl, (blk_cell BK416.out 0).trans rfl, (blk_cell BK416.out 1).trans rfl, (blk_cell BK416.out 2).trans rfl, (blk_cell BK416.out 3).trans rfl, ((HB.out.cell (World.block_lt_of_cell? w _ hw420_0)).trans hw420_0)⟩ (fun hHeld => ?_)
      clear hK K
      refine norm_ (a' := ?_) ?_ ?_
      rotate_left
      ·show Act.put _ (some 9) _ = _
       simp only [Act.put, List.setIfInBounds_toArray, List.set_cons_zero, List.set_cons_succ, i64_w, i32_w]
       rfl
      refine pure_ (i := 2) (N := some 10) (v := ?_) (a' := ?_) #[true, true, true, false, false, false, false, false, false, false, false, false, false, false, false, false, false, false, false] rfl rfl (any_of HT_.out (by kernel_rfl)) (fun _ _ _ h => h) (Or.inl ⟨by rfl, ?_⟩) ?_ ?_
      rotate_left
      ·intro w'
       go_simp
       with_reducible rfl
      rotate_left
      ·simp only [Act.put, List.setIfInBounds_toArray, List.set_cons_zero, List.set_cons_succ, i64_w, i32_w]
       rfl
      refine pure_ (i := 3) (N := some 11) (v := ?_) (a' := ?_) #[true, true, true, true, false, false, false, false, false, false, false, false, false, false, false, false, false, false, false] rfl rfl (any_of HT_.out (by kernel_rfl)) (fun _ _ _ h => h) (Or.inl ⟨by rfl, ?_⟩) ?_ ?_
      rotate_left
      ·intro w'
       go_simp
       with_reducible rfl
      rotate_left
      ·simp only [Act.put, List.setIfInBounds_toArray, List.set_cons_zero, List.set_cons_succ, i64_w, i32_w]
       rfl
      refine take_ (i := 4) (N := some 12) (v := ?_) (a' := ?_) #[true, true, true, true, true, false, false, false, false, false, false, false, false, false, false, false, false, false, false] rfl rfl (take_ofW HT_.out HW_.out (by kernel_rfl)) (fun _ _ _ h => h) (Or.inl ⟨by rfl, ?_⟩) hHeld ?_ ?_
      rotate_left
      ·rintro w' ⟨s0, s1, s2, s3, s4, s5, s6⟩
       go_simp
       with_reducible rfl
      rotate_left
      ·simp only [Act.put, List.setIfInBounds_toArray, List.set_cons_zero, List.set_cons_succ, i64_w, i32_w]
       rfl
      refine one_ (i := 5) (N := some 13) #[true, true, true, true, true, true, false, false, false, false, false, false, false, false, false, false, false, false, false] rfl rfl (one_of HT_.out (by kernel_rfl)) (by decide) (fun K hK => ?_)
      refine goes_ Try.func42 (by kernel_rfl) rfl #[.agg #[.int .i64 a1_0, .int .i64 a1_1, .int .i64 a1_2, .int .i64 a1_3]] (by rfl) rfl rfl mq ?_
      with_reducible refine (impl_isLoan.calls a1_0 a1_1 a1_2 a1_3 true _ A9.out).mono ?_
      rintro e w15 ⟨rfl, hb⟩
      refine ⟨_, rfl, ?_⟩
      replace BK415 := zb BK415 hb
      replace BK416 := zb BK416 hb
      replace BK417 := zb BK417 hb
      replace HB := sb hb
      (try clear hb)
      refine hK.out _ _ ⟨(blk_cell BK415.out 0).trans rfl, (blk_cell BK415.out 1).trans rfl, (blk_cell BK416.out 0).trans rfl, (blk_cell BK416.out 1).trans rfl, (blk_cell BK416.out 2).trans rfl, (blk_cell BK416.out 3).trans rfl, ((HB.out.cell (World.block_lt_of_cell? w _ hw420_0)).trans hw420_0)⟩ (fun hHeld => ?_)
      clear hK K
      refine norm_ (a' := ?_) ?_ ?_
      rotate_left
      ·show Act.put _ (some 13) _ = _
       simp only [Act.put, List.setIfInBounds_toArray, List.set_cons_zero, List.set_cons_succ, i64_w, i32_w]
       rfl
      refine pure_ (i := 6) (N := some 14) (v := ?_) (a' := ?_) #[true, true, true, true, true, true, true, false, false, false, false, false, false, false, false, false, false, false, false] rfl rfl (any_of HT_.out (by kernel_rfl)) (fun _ _ _ h => h) (Or.inl ⟨by rfl, ?_⟩) ?_ ?_
      rotate_left
      ·intro w'
       go_simp
       with_reducible rfl
      rotate_left
      ·simp only [Act.put, List.setIfInBounds_toArray, List.set_cons_zero, List.set_cons_succ, i64_w, i32_w]
       rfl
      refine pure_ (i := 7) (N := some 15) (v := ?_) (a' := ?_) #[true, true, true, true, true, true, true, true, false, false, false, false, false, false, false, false, false, false, false] rfl rfl (any_of HT_.out (by kernel_rfl)) (fun _ _ _ h => h) (Or.inl ⟨by rfl, ?_⟩) ?_ ?_
      rotate_left
      ·intro w'
       go_simp
       with_reducible rfl
      rotate_left
      ·simp only [Act.put, List.setIfInBounds_toArray, List.set_cons_zero, List.set_cons_succ, i64_w, i32_w]
       rfl
      refine pure_ (i := 8) (N := some 16) (v := ?_) (a' := ?_) #[true, true, true, true, true, true, true, true, true, false, false, false, false, false, false, false, false, false, false] rfl rfl (any_of HT_.out (by kernel_rfl)) (fun _ _ _ h => h) (Or.inl ⟨by rfl, ?_⟩) ?_ ?_
      rotate_left
      ·intro w'
       go_simp
       with_reducible rfl
      rotate_left
      ·simp only [Act.put, List.setIfInBounds_toArray, List.set_cons_zero, List.set_cons_succ, i64_w, i32_w]
       rfl
      refine pure_ (i := 9) (N := some 17) (v := ?_) (a' := ?_) #[true, true, true, true, true, true, true, true, true, true, false, false, false, false, false, false, false, false, false] rfl rfl (any_of HT_.out (by kernel_rfl)) (fun _ _ _ h => h) (Or.inl ⟨by rfl, ?_⟩) ?_ ?_
      rotate_left
      ·intro w'
       go_simp
       with_reducible rfl
      rotate_left
      ·simp only [Act.put, List.setIfInBounds_toArray, List.set_cons_zero, List.set_cons_succ, i64_w, i32_w]
       rfl
      refine pure_ (i := 11) (N := some 19) (v := ?_) (a' := ?_) #[true, true, true, true, true, true, true, true, true, true, false, true, false, false, false, false, false, false, false] rfl rfl (any_of HT_.out (by kernel_rfl)) (fun _ _ _ h => h) (Or.inl ⟨by rfl, ?_⟩) ?_ ?_
      rotate_left
      ·intro w'
       go_simp
       with_reducible rfl
      rotate_left
      ·simp only [Act.put, List.setIfInBounds_toArray, List.set_cons_zero, List.set_cons_succ, i64_w, i32_w]
       rfl
      refine pure_ (i := 15) (N := some 23) (v := ?_) (a' := ?_) #[true, true, true, true, true, true, true, true, true, true, false, true, false, false, false, true, false, false, false] rfl rfl (any_of HT_.out (by kernel_rfl)) (fun _ _ _ h => h) (Or.inl ⟨by rfl, ?_⟩) ?_ ?_
      rotate_left
      ·intro w'
       go_simp
       with_reducible rfl
      rotate_left
      ·simp only [Act.put, List.setIfInBounds_toArray, List.set_cons_zero, List.set_cons_succ, i64_w, i32_w]
       rfl
      refine take_ (i := 10) (N := some 18) (v := ?_) (a' := ?_) #[true, true, true, true, true, true, true, true, true, true, true, true, false, false, false, true, false, false, false] rfl rfl (take_ofW HT_.out HW_.out (by kernel_rfl)) (fun _ _ _ h => h) (Or.inl ⟨by rfl, ?_⟩) hHeld ?_ ?_
      rotate_left
      ·rintro w' ⟨s0, s1, s2, s3, s4, s5, s6⟩
       go_simp
       with_reducible rfl
      rotate_left
      ·simp only [Act.put, List.setIfInBounds_toArray, List.set_cons_zero, List.set_cons_succ, i64_w, i32_w]
       rfl
      refine take_ (i := 12) (N := some 20) (v := ?_) (a' := ?_) #[true, true, true, true, true, true, true, true, true, true, true, true, true, false, false, true, false, false, false] rfl rfl (take_ofW HT_.out HW_.out (by kernel_rfl)) (fun _ _ _ h => h) (Or.inl ⟨by rfl, ?_⟩) hHeld ?_ ?_
      rotate_left
      ·rintro w' ⟨s0, s1, s2, s3, s4, s5, s6⟩
       go_simp
       with_reducible rfl
      rotate_left
      ·simp only [Act.put, List.setIfInBounds_toArray, List.set_cons_zero, List.set_cons_succ, i64_w, i32_w]
       rfl
      refine pure_ (i := 13) (N := some 21) (v := ?_) (a' := ?_) #[true, true, true, true, true, true, true, true, true, true, true, true, true, true, false, true, false, false, false] rfl rfl (any_of HT_.out (by kernel_rfl)) (fun _ _ _ h => h) (Or.inl ⟨by rfl, ?_⟩) ?_ ?_
      rotate_left
      ·intro w'
       go_simp
       with_reducible rfl
      rotate_left
      ·simp only [Act.put, List.setIfInBounds_toArray, List.set_cons_zero, List.set_cons_succ, i64_w, i32_w]
       rfl
      refine take_ (i := 14) (N := some 22) (v := ?_) (a' := ?_) #[true, true, true, true, true, true, true, true, true, true, true, true, true, true, true, true, false, false, false] rfl rfl (take_ofW HT_.out HW_.out (by kernel_rfl)) (fun _ _ _ h => h) (Or.inl ⟨by rfl, ?_⟩) hHeld ?_ ?_
      rotate_left
      ·rintro w' ⟨s0, s1, s2, s3, s4, s5, s6⟩
       go_simp
       with_reducible rfl
      rotate_left
      ·simp only [Act.put, List.setIfInBounds_toArray, List.set_cons_zero, List.set_cons_succ, i64_w, i32_w]
       rfl
      refine take_ (i := 16) (N := some 24) (v := ?_) (a' := ?_) #[true, true, true, true, true, true, true, true, true, true, true, true, true, true, true, true, true, false, false] rfl rfl (take_ofW HT_.out HW_.out (by kernel_rfl)) (fun _ _ _ h => h) (Or.inl ⟨by rfl, ?_⟩) hHeld ?_ ?_
      rotate_left
      ·rintro w' ⟨s0, s1, s2, s3, s4, s5, s6⟩
       go_simp
       with_reducible rfl
      rotate_left
      ·simp only [Act.put, List.setIfInBounds_toArray, List.set_cons_zero, List.set_cons_succ, i64_w, i32_w]
       rfl
      refine pure_ (i := 17) (N := some 25) (v := ?_) (a' := ?_) #[true, true, true, true, true, true, true, true, true, true, true, true, true, true, true, true, true, true, false] rfl rfl (any_of HT_.out (by kernel_rfl)) (fun _ _ _ h => h) (Or.inl ⟨by rfl, ?_⟩) ?_ ?_
      rotate_left
      ·intro w'
       go_simp
       with_reducible rfl
      rotate_left
      ·simp only [Act.put, List.setIfInBounds_toArray, List.set_cons_zero, List.set_cons_succ, i64_w, i32_w]
       rfl
      refine pure_ (i := 18) (N := some 26) (v := ?_) (a' := ?_) #[true, true, true, true, true, true, true, true, true, true, true, true, true, true, true, true, true, true, true] rfl rfl (any_of HT_.out (by kernel_rfl)) (fun _ _ _ h => h) (Or.inl ⟨by rfl, ?_⟩) ?_ ?_
      rotate_left
      ·intro w'
       go_simp
       with_reducible rfl
      rotate_left
      ·simp only [Act.put, List.setIfInBounds_toArray, List.set_cons_zero, List.set_cons_succ, i64_w, i32_w]
       rfl
      refine done_ (done_of HT_.out (by kernel_rfl)) ?_
      try go_wp2
      go_meet
      case rel => exact ⟨_, (decide ((rd l0_0 a1_1) < a1_2)), sq, H', ⟨by first | omega | exact Nat.le_refl _⟩, ⟨zq BK415⟩, ⟨zq BK416⟩, ⟨zq BK417⟩, ⟨bq⟩⟩
     ·rw [if_neg c12] at H
      exact absurd H (by simp)
    ·rw [if_neg c11] at H
     exact absurd H (by simp)
   ·replace c10 := Bool.eq_false_iff.mpr c10
    subst c10
    have H1 : (impl_LendParts.j0 k true l0_0 l0_1 a1_0 a1_1 a1_2 a1_3) = some (r1, r2, r3) := by rw [if_neg (show ¬ (false = true) by decide)] at H; exact H
    clear H
    have H := H1
    clear H1
    have H' := Aside0.mk H
    clear H
    try go_wp2
    replace BK415 := Aside0.mk (blk_drew BK415.out)
    replace BK416 := Aside0.mk (blk_drew BK416.out)
    replace BK417 := Aside0.mk (blk_drew BK417.out)
    replace HB := Aside0.mk (below_drew1 HB.out)
    refine start_ (n := 19) (S := fun w' => w'.cell? ⟨gb415, 0, none⟩ = some (.slice A0_0 l0_0.length c0_0) ∧ w'.cell? ⟨gb415, 1, none⟩ = some (.slice A0_1 l0_1.length c0_1) ∧ w'.cell? ⟨gb416, 0, none⟩ = some (.int .i64 a1_0) ∧ w'.cell? ⟨gb416, 1, none⟩ = some (.int .i64 a1_1) ∧ w'.cell? ⟨gb416, 2, none⟩ = some (.int .i64 a1_2) ∧ w'.cell? ⟨gb416, 3, none⟩ = some (.int .i64 a1_3)) (ds := []) #[false, false, false, false, false, false, false, false, false, false, false, false, false, false, false, false, false, false, false] (by kernel_rfl) rfl rfl ⟨(blk_cell BK415.out 0).trans rfl, (blk_cell BK415.out 1).trans rfl, (blk_cell BK416.out 0).trans rfl, (blk_cell BK416.out 1).trans rfl, (blk_cell BK416.out 2).trans rfl, (blk_cell BK416.out 3).trans rfl⟩ (fun hHeld => ?_); refine with_tabW impl_LendParts.tab1 impl_LendParts.bits1 (fun HT_ HW_ => ?_)
    generalize w6.drew = w16 at BK415 BK416 BK417 HB hHeld ⊢
    refine take_ (i := 0) (N := some 8) (v := ?_) (a' := ?_) #[true, false, false, false, false, false, false, false, false, false, false, false, false, false, false, false, false, false, false] rfl rfl (take_ofW HT_.out HW_.out (by kernel_rfl)) (fun _ _ _ h => h) (Or.inl ⟨by rfl, ?_⟩) hHeld ?_ ?_
    rotate_left
    ·rintro w' ⟨s0, s1, s2, s3, s4, s5⟩
     go_simp
     with_reducible rfl
    rotate_left
    ·simp only [Act.put, List.setIfInBounds_toArray, List.set_cons_zero, List.set_cons_succ, i64_w, i32_w]
     rfl
    refine one_ (i := 1) (N := some 9) #[true, true, false, false, false, false, false, false, false, false, false, false, false, false, false, false, false, false, false] rfl rfl (one_of HT_.out (by kernel_rfl)) (by decide) (fun K hK => ?_)
    refine goes_ Try.func27 (by kernel_rfl) rfl #[.agg #[.slice A0_0 l0_0.length c0_0, .slice A0_1 l0_1.length c0_1]] (by rfl) rfl rfl mq ?_
    with_reducible refine (impl_IsShop.calls k _ _ l0_0 _ _ l0_1 true _ ?s1 ?s2 ?s3 ?s4 A7.out).mono ?_
    (case s1 => exact cq (Kd.C_below HR0_0.out HB.out))
    (case s2 => exact HC0_0.out)
    (case s3 => exact cq (Kd.C_below HR0_1.out HB.out))
    (case s4 => exact HC0_1.out)
    rintro e w17 ⟨rfl, hb⟩
    refine ⟨_, rfl, ?_⟩
    replace BK415 := zb BK415 hb
    replace BK416 := zb BK416 hb
    replace BK417 := zb BK417 hb
    replace HB := sb hb
    (try clear hb)
    refine hK.out _ _ ⟨(blk_cell BK415.out 0).trans rfl, (blk_cell BK415.out 1).trans rfl, (blk_cell BK416.out 0).trans rfl, (blk_cell BK416.out 1).trans rfl, (blk_cell BK416.out 2).trans rfl, (blk_cell BK416.out 3).trans rfl⟩ (fun hHeld => ?_)
    clear hK K
    refine norm_ (a' := ?_) ?_ ?_
    rotate_left
    ·show Act.put _ (some 9) _ = _
     simp only [Act.put, List.setIfInBounds_toArray, List.set_cons_zero, List.set_cons_succ, i64_w, i32_w]
     rfl
    refine pure_ (i := 2) (N := some 10) (v := ?_) (a' := ?_) #[true, true, true, false, false, false, false, false, false, false, false, false, false, false, false, false, false, false, false] rfl rfl (any_of HT_.out (by kernel_rfl)) (fun _ _ _ h => h) (Or.inl ⟨by rfl, ?_⟩) ?_ ?_
    rotate_left
    ·intro w'
     go_simp
     with_reducible rfl
    rotate_left
    ·simp only [Act.put, List.setIfInBounds_toArray, List.set_cons_zero, List.set_cons_succ, i64_w, i32_w]
     rfl
    refine pure_ (i := 3) (N := some 11) (v := ?_) (a' := ?_) #[true, true, true, true, false, false, false, false, false, false, false, false, false, false, false, false, false, false, false] rfl rfl (any_of HT_.out (by kernel_rfl)) (fun _ _ _ h => h) (Or.inl ⟨by rfl, ?_⟩) ?_ ?_
    rotate_left
    ·intro w'
     go_simp
     with_reducible rfl
    rotate_left
    ·simp only [Act.put, List.setIfInBounds_toArray, List.set_cons_zero, List.set_cons_succ, i64_w, i32_w]
     rfl
    refine take_ (i := 4) (N := some 12) (v := ?_) (a' := ?_) #[true, true, true, true, true, false, false, false, false, false, false, false, false, false, false, false, false, false, false] rfl rfl (take_ofW HT_.out HW_.out (by kernel_rfl)) (fun _ _ _ h => h) (Or.inl ⟨by rfl, ?_⟩) hHeld ?_ ?_
    rotate_left
    ·rintro w' ⟨s0, s1, s2, s3, s4, s5⟩
     go_simp
     with_reducible rfl
    rotate_left
    ·simp only [Act.put, List.setIfInBounds_toArray, List.set_cons_zero, List.set_cons_succ, i64_w, i32_w]
     rfl
    refine one_ (i := 5) (N := some 13) #[true, true, true, true, true, true, false, false, false, false, false, false, false, false, false, false, false, false, false] rfl rfl (one_of HT_.out (by kernel_rfl)) (by decide) (fun K hK => ?_)
    refine goes_ Try.func42 (by kernel_rfl) rfl #[.agg #[.int .i64 a1_0, .int .i64 a1_1, .int .i64 a1_2, .int .i64 a1_3]] (by rfl) rfl rfl mq ?_
    with_reducible refine (impl_isLoan.calls a1_0 a1_1 a1_2 a1_3 false _ A9.out).mono ?_
    rintro e w18 ⟨rfl, hb⟩
    refine ⟨_, rfl, ?_⟩
    replace BK415 := zb BK415 hb
    replace BK416 := zb BK416 hb
    replace BK417 := zb BK417 hb
    replace HB := sb hb
    (try clear hb)
    refine hK.out _ _ ⟨(blk_cell BK415.out 0).trans rfl, (blk_cell BK415.out 1).trans rfl, (blk_cell BK416.out 0).trans rfl, (blk_cell BK416.out 1).trans rfl, (blk_cell BK416.out 2).trans rfl, (blk_cell BK416.out 3).trans rfl⟩ (fun hHeld => ?_)
    clear hK K
    refine norm_ (a' := ?_) ?_ ?_
    rotate_left
    ·show Act.put _ (some 13) _ = _
     simp only [Act.put, List.setIfInBounds_toArray, List.set_cons_zero, List.set_cons_succ, i64_w, i32_w]
     rfl
    refine pure_ (i := 6) (N := some 14) (v := ?_) (a' := ?_) #[true, true, true, true, true, true, true, false, false, false, false, false, false, false, false, false, false, false, false] rfl rfl (any_of HT_.out (by kernel_rfl)) (fun _ _ _ h => h) (Or.inl ⟨by rfl, ?_⟩) ?_ ?_
    rotate_left
    ·intro w'
     go_simp
     with_reducible rfl
    rotate_left
    ·simp only [Act.put, List.setIfInBounds_toArray, List.set_cons_zero, List.set_cons_succ, i64_w, i32_w]
     rfl
    refine pure_ (i := 7) (N := some 15) (v := ?_) (a' := ?_) #[true, true, true, true, true, true, true, true, false, false, false, false, false, false, false, false, false, false, false] rfl rfl (any_of HT_.out (by kernel_rfl)) (fun _ _ _ h => h) (Or.inl ⟨by rfl, ?_⟩) ?_ ?_
    rotate_left
    ·intro w'
     go_simp
     with_reducible rfl
    rotate_left
    ·simp only [Act.put, List.setIfInBounds_toArray, List.set_cons_zero, List.set_cons_succ, i64_w, i32_w]
     rfl
    refine pure_ (i := 8) (N := some 16) (v := ?_) (a' := ?_) #[true, true, true, true, true, true, true, true, true, false, false, false, false, false, false, false, false, false, false] rfl rfl (any_of HT_.out (by kernel_rfl)) (fun _ _ _ h => h) (Or.inl ⟨by rfl, ?_⟩) ?_ ?_
    rotate_left
    ·intro w'
     go_simp
     with_reducible rfl
    rotate_left
    ·simp only [Act.put, List.setIfInBounds_toArray, List.set_cons_zero, List.set_cons_succ, i64_w, i32_w]
     rfl
    refine pure_ (i := 9) (N := some 17) (v := undef) (a' := ?_) #[true, true, true, true, true, true, true, true, true, true, false, false, false, false, false, false, false, false, false] rfl rfl (any_of HT_.out (by kernel_rfl)) (fun _ _ _ h => h) (Or.inr ⟨by rfl, rfl⟩) ?_ ?_
    rotate_left
    ·simp only [Act.put, List.setIfInBounds_toArray, List.set_cons_zero, List.set_cons_succ, i64_w, i32_w]
     rfl
    refine pure_ (i := 10) (N := some 18) (v := undef) (a' := ?_) #[true, true, true, true, true, true, true, true, true, true, true, false, false, false, false, false, false, false, false] rfl rfl (any_of HT_.out (by kernel_rfl)) (fun _ _ _ h => h) (Or.inr ⟨by rfl, rfl⟩) ?_ ?_
    rotate_left
    ·simp only [Act.put, List.setIfInBounds_toArray, List.set_cons_zero, List.set_cons_succ, i64_w, i32_w]
     rfl
    refine pure_ (i := 11) (N := some 19) (v := undef) (a' := ?_) #[true, true, true, true, true, true, true, true, true, true, true, true, false, false, false, false, false, false, false] rfl rfl (any_of HT_.out (by kernel_rfl)) (fun _ _ _ h => h) (Or.inr ⟨by rfl, rfl⟩) ?_ ?_
    rotate_left
    ·simp only [Act.put, List.setIfInBounds_toArray, List.set_cons_zero, List.set_cons_succ, i64_w, i32_w]
     rfl
    refine pure_ (i := 12) (N := some 20) (v := undef) (a' := ?_) #[true, true, true, true, true, true, true, true, true, true, true, true, true, false, false, false, false, false, false] rfl rfl (any_of HT_.out (by kernel_rfl)) (fun _ _ _ h => h) (Or.inr ⟨by rfl, rfl⟩) ?_ ?_
    rotate_left
    ·simp only [Act.put, List.setIfInBounds_toArray, List.set_cons_zero, List.set_cons_succ, i64_w, i32_w]
     rfl
    refine pure_ (i := 13) (N := some 21) (v := undef) (a' := ?_) #[true, true, true, true, true, true, true, true, true, true, true, true, true, true, false, false, false, false, false] rfl rfl (any_of HT_.out (by kernel_rfl)) (fun _ _ _ h => h) (Or.inr ⟨by rfl, rfl⟩) ?_ ?_
    rotate_left
    ·simp only [Act.put, List.setIfInBounds_toArray, List.set_cons_zero, List.set_cons_succ, i64_w, i32_w]
     rfl
    refine pure_ (i := 14) (N := some 22) (v := undef) (a' := ?_) #[true, true, true, true, true, true, true, true, true, true, true, true, true, true, true, false, false, false, false] rfl rfl (any_of HT_.out (by kernel_rfl)) (fun _ _ _ h => h) (Or.inr ⟨by rfl, rfl⟩) ?_ ?_
    rotate_left
    ·simp only [Act.put, List.setIfInBounds_toArray, List.set_cons_zero, List.set_cons_succ, i64_w, i32_w]
     rfl
    refine pure_ (i := 15) (N := some 23) (v := undef) (a' := ?_) #[true, true, true, true, true, true, true, true, true, true, true, true, true, true, true, true, false, false, false] rfl rfl (any_of HT_.out (by kernel_rfl)) (fun _ _ _ h => h) (Or.inr ⟨by rfl, rfl⟩) ?_ ?_
    rotate_left
    ·simp only [Act.put, List.setIfInBounds_toArray, List.set_cons_zero, List.set_cons_succ, i64_w, i32_w]
     rfl
    refine pure_ (i := 16) (N := some 24) (v := undef) (a' := ?_) #[true, true, true, true, true, true, true, true, true, true, true, true, true, true, true, true, true, false, false] rfl rfl (any_of HT_.out (by kernel_rfl)) (fun _ _ _ h => h) (Or.inr ⟨by rfl, rfl⟩) ?_ ?_
    rotate_left
    ·simp only [Act.put, List.setIfInBounds_toArray, List.set_cons_zero, List.set_cons_succ, i64_w, i32_w]
     rfl
    refine pure_ (i := 17) (N := some 25) (v := undef) (a' := ?_) #[true, true, true, true, true, true, true, true, true, true, true, true, true, true, true, true, true, true, false] rfl rfl (any_of HT_.out (by kernel_rfl)) (fun _ _ _ h => h) (Or.inr ⟨by rfl, rfl⟩) ?_ ?_
    rotate_left
    ·simp only [Act.put, List.setIfInBounds_toArray, List.set_cons_zero, List.set_cons_succ, i64_w, i32_w]
     rfl
    refine pure_ (i := 18) (N := some 26) (v := ?_) (a' := ?_) #[true, true, true, true, true, true, true, true, true, true, true, true, true, true, true, true, true, true, true] rfl rfl (any_of HT_.out (by kernel_rfl)) (fun _ _ _ h => h) (Or.inl ⟨by rfl, ?_⟩) ?_ ?_
    rotate_left
    ·intro w'
     go_simp
     with_reducible rfl
    rotate_left
    ·simp only [Act.put, List.setIfInBounds_toArray, List.set_cons_zero, List.set_cons_succ, i64_w, i32_w]
     rfl
    refine done_ (done_of HT_.out (by kernel_rfl)) ?_
    try go_wp2
    go_meet
    case rel => exact ⟨_, (true), sq, H', ⟨by first | omega | exact Nat.le_refl _⟩, ⟨zq BK415⟩, ⟨zq BK416⟩, ⟨zq BK417⟩, ⟨bq⟩⟩
  ·replace c8 := Bool.eq_false_iff.mpr c8
   subst c8
   have H1 : (impl_LendParts.j0 k true l0_0 l0_1 a1_0 a1_1 a1_2 a1_3) = some (r1, r2, r3) := by rw [if_neg (show ¬ (false = true) by decide)] at H; exact H
   clear H
   have H := H1
   clear H1
   have H' := Aside0.mk H
   clear H
   try go_wp2
   replace BK415 := Aside0.mk (blk_drew BK415.out)
   replace BK416 := Aside0.mk (blk_drew BK416.out)
   replace BK417 := Aside0.mk (blk_drew BK417.out)
   replace HB := Aside0.mk (below_drew1 HB.out)
   refine start_ (n := 19) (S := fun w' => w'.cell? ⟨gb415, 0, none⟩ = some (.slice A0_0 l0_0.length c0_0) ∧ w'.cell? ⟨gb415, 1, none⟩ = some (.slice A0_1 l0_1.length c0_1)) (ds := []) #[false, false, false, false, false, false, false, false, false, false, false, false, false, false, false, false, false, false, false] (by kernel_rfl) rfl rfl ⟨(blk_cell BK415.out 0).trans rfl, (blk_cell BK415.out 1).trans rfl⟩ (fun hHeld => ?_); refine with_tabW impl_LendParts.tab1 impl_LendParts.bits1 (fun HT_ HW_ => ?_)
   generalize w6.drew = w19 at BK415 BK416 BK417 HB hHeld ⊢
   refine take_ (i := 0) (N := some 8) (v := ?_) (a' := ?_) #[true, false, false, false, false, false, false, false, false, false, false, false, false, false, false, false, false, false, false] rfl rfl (take_ofW HT_.out HW_.out (by kernel_rfl)) (fun _ _ _ h => h) (Or.inl ⟨by rfl, ?_⟩) hHeld ?_ ?_
   rotate_left
   ·rintro w' ⟨s0, s1⟩
    go_simp
    with_reducible rfl
   rotate_left
   ·simp only [Act.put, List.setIfInBounds_toArray, List.set_cons_zero, List.set_cons_succ, i64_w, i32_w]
    rfl
   refine one_ (i := 1) (N := some 9) #[true, true, false, false, false, false, false, false, false, false, false, false, false, false, false, false, false, false, false] rfl rfl (one_of HT_.out (by kernel_rfl)) (by decide) (fun K hK => ?_)
   refine goes_ Try.func27 (by kernel_rfl) rfl #[.agg #[.slice A0_0 l0_0.length c0_0, .slice A0_1 l0_1.length c0_1]] (by rfl) rfl rfl mq ?_
   with_reducible refine (impl_IsShop.calls k _ _ l0_0 _ _ l0_1 false _ ?s1 ?s2 ?s3 ?s4 A7.out).mono ?_
   (case s1 => exact cq (Kd.C_below HR0_0.out HB.out))
   (case s2 => exact HC0_0.out)
   (case s3 => exact cq (Kd.C_below HR0_1.out HB.out))
   (case s4 => exact HC0_1.out)
   rintro e w20 ⟨rfl, hb⟩
   refine ⟨_, rfl, ?_⟩
   replace BK415 := zb BK415 hb
   replace BK416 := zb BK416 hb
   replace BK417 := zb BK417 hb
   replace HB := sb hb
   (try clear hb)
   refine hK.out _ _ ⟨(blk_cell BK415.out 0).trans rfl, (blk_cell BK415.out 1).trans rfl⟩ (fun hHeld => ?_)
   clear hK K
   refine norm_ (a' := ?_) ?_ ?_
   rotate_left
   ·show Act.put _ (some 9) _ = _
    simp only [Act.put, List.setIfInBounds_toArray, List.set_cons_zero, List.set_cons_succ, i64_w, i32_w]
    rfl
   refine pure_ (i := 2) (N := some 10) (v := ?_) (a' := ?_) #[true, true, true, false, false, false, false, false, false, false, false, false, false, false, false, false, false, false, false] rfl rfl (any_of HT_.out (by kernel_rfl)) (fun _ _ _ h => h) (Or.inl ⟨by rfl, ?_⟩) ?_ ?_
   rotate_left
   ·intro w'
    go_simp
    with_reducible rfl
   rotate_left
   ·simp only [Act.put, List.setIfInBounds_toArray, List.set_cons_zero, List.set_cons_succ, i64_w, i32_w]
    rfl
   refine pure_ (i := 3) (N := some 11) (v := ?_) (a' := ?_) #[true, true, true, true, false, false, false, false, false, false, false, false, false, false, false, false, false, false, false] rfl rfl (any_of HT_.out (by kernel_rfl)) (fun _ _ _ h => h) (Or.inl ⟨by rfl, ?_⟩) ?_ ?_
   rotate_left
   ·intro w'
    go_simp
    with_reducible rfl
   rotate_left
   ·simp only [Act.put, List.setIfInBounds_toArray, List.set_cons_zero, List.set_cons_succ, i64_w, i32_w]
    rfl
   refine pure_ (i := 4) (N := some 12) (v := undef) (a' := ?_) #[true, true, true, true, true, false, false, false, false, false, false, false, false, false, false, false, false, false, false] rfl rfl (any_of HT_.out (by kernel_rfl)) (fun _ _ _ h => h) (Or.inr ⟨by rfl, rfl⟩) ?_ ?_
   rotate_left
   ·simp only [Act.put, List.setIfInBounds_toArray, List.set_cons_zero, List.set_cons_succ, i64_w, i32_w]
    rfl
   refine pure_ (i := 5) (N := some 13) (v := undef) (a' := ?_) #[true, true, true, true, true, true, false, false, false, false, false, false, false, false, false, false, false, false, false] rfl rfl (any_of HT_.out (by kernel_rfl)) (fun _ _ _ h => h) (Or.inr ⟨by rfl, rfl⟩) ?_ ?_
   rotate_left
   ·simp only [Act.put, List.setIfInBounds_toArray, List.set_cons_zero, List.set_cons_succ, i64_w, i32_w]
    rfl
   refine pure_ (i := 6) (N := some 14) (v := undef) (a' := ?_) #[true, true, true, true, true, true, true, false, false, false, false, false, false, false, false, false, false, false, false] rfl rfl (any_of HT_.out (by kernel_rfl)) (fun _ _ _ h => h) (Or.inr ⟨by rfl, rfl⟩) ?_ ?_
   rotate_left
   ·simp only [Act.put, List.setIfInBounds_toArray, List.set_cons_zero, List.set_cons_succ, i64_w, i32_w]
    rfl
   refine pure_ (i := 7) (N := some 15) (v := ?_) (a' := ?_) #[true, true, true, true, true, true, true, true, false, false, false, false, false, false, false, false, false, false, false] rfl rfl (any_of HT_.out (by kernel_rfl)) (fun _ _ _ h => h) (Or.inl ⟨by rfl, ?_⟩) ?_ ?_
   rotate_left
   ·intro w'
    go_simp
    with_reducible rfl
   rotate_left
   ·simp only [Act.put, List.setIfInBounds_toArray, List.set_cons_zero, List.set_cons_succ, i64_w, i32_w]
    rfl
   refine pure_ (i := 8) (N := some 16) (v := ?_) (a' := ?_) #[true, true, true, true, true, true, true, true, true, false, false, false, false, false, false, false, false, false, false] rfl rfl (any_of HT_.out (by kernel_rfl)) (fun _ _ _ h => h) (Or.inl ⟨by rfl, ?_⟩) ?_ ?_
   rotate_left
   ·intro w'
    go_simp
    with_reducible rfl
   rotate_left
   ·simp only [Act.put, List.setIfInBounds_toArray, List.set_cons_zero, List.set_cons_succ, i64_w, i32_w]
    rfl
   refine pure_ (i := 9) (N := some 17) (v := undef) (a' := ?_) #[true, true, true, true, true, true, true, true, true, true, false, false, false, false, false, false, false, false, false] rfl rfl (any_of HT_.out (by kernel_rfl)) (fun _ _ _ h => h) (Or.inr ⟨by rfl, rfl⟩) ?_ ?_
   rotate_left
   ·simp only [Act.put, List.setIfInBounds_toArray, List.set_cons_zero, List.set_cons_succ, i64_w, i32_w]
    rfl
   refine pure_ (i := 10) (N := some 18) (v := undef) (a' := ?_) #[true, true, true, true, true, true, true, true, true, true, true, false, false, false, false, false, false, false, false] rfl rfl (any_of HT_.out (by kernel_rfl)) (fun _ _ _ h => h) (Or.inr ⟨by rfl, rfl⟩) ?_ ?_
   rotate_left
   ·simp only [Act.put, List.setIfInBounds_toArray, List.set_cons_zero, List.set_cons_succ, i64_w, i32_w]
    rfl
   refine pure_ (i := 11) (N := some 19) (v := undef) (a' := ?_) #[true, true, true, true, true, true, true, true, true, true, true, true, false, false, false, false, false, false, false] rfl rfl (any_of HT_.out (by kernel_rfl)) (fun _ _ _ h => h) (Or.inr ⟨by rfl, rfl⟩) ?_ ?_
   rotate_left
   ·simp only [Act.put, List.setIfInBounds_toArray, List.set_cons_zero, List.set_cons_succ, i64_w, i32_w]
    rfl
   refine pure_ (i := 12) (N := some 20) (v := undef) (a' := ?_) #[true, true, true, true, true, true, true, true, true, true, true, true, true, false, false, false, false, false, false] rfl rfl (any_of HT_.out (by kernel_rfl)) (fun _ _ _ h => h) (Or.inr ⟨by rfl, rfl⟩) ?_ ?_
   rotate_left
   ·simp only [Act.put, List.setIfInBounds_toArray, List.set_cons_zero, List.set_cons_succ, i64_w, i32_w]
    rfl
   refine pure_ (i := 13) (N := some 21) (v := undef) (a' := ?_) #[true, true, true, true, true, true, true, true, true, true, true, true, true, true, false, false, false, false, false] rfl rfl (any_of HT_.out (by kernel_rfl)) (fun _ _ _ h => h) (Or.inr ⟨by rfl, rfl⟩) ?_ ?_
   rotate_left
   ·simp only [Act.put, List.setIfInBounds_toArray, List.set_cons_zero, List.set_cons_succ, i64_w, i32_w]
    rfl
   refine pure_ (i := 14) (N := some 22) (v := undef) (a' := ?_) #[true, true, true, true, true, true, true, true, true, true, true, true, true, true, true, false, false, false, false] rfl rfl (any_of HT_.out (by kernel_rfl)) (fun _ _ _ h => h) (Or.inr ⟨by rfl, rfl⟩) ?_ ?_
   rotate_left
   ·simp only [Act.put, List.setIfInBounds_toArray, List.set_cons_zero, List.set_cons_succ, i64_w, i32_w]
    rfl
   refine pure_ (i := 15) (N := some 23) (v := undef) (a' := ?_) #[true, true, true, true, true, true, true, true, true, true, true, true, true, true, true, true, false, false, false] rfl rfl (any_of HT_.out (by kernel_rfl)) (fun _ _ _ h => h) (Or.inr ⟨by rfl, rfl⟩) ?_ ?_
   rotate_left
   ·simp only [Act.put, List.setIfInBounds_toArray, List.set_cons_zero, List.set_cons_succ, i64_w, i32_w]
    rfl
   refine pure_ (i := 16) (N := some 24) (v := undef) (a' := ?_) #[true, true, true, true, true, true, true, true, true, true, true, true, true, true, true, true, true, false, false] rfl rfl (any_of HT_.out (by kernel_rfl)) (fun _ _ _ h => h) (Or.inr ⟨by rfl, rfl⟩) ?_ ?_
   rotate_left
   ·simp only [Act.put, List.setIfInBounds_toArray, List.set_cons_zero, List.set_cons_succ, i64_w, i32_w]
    rfl
   refine pure_ (i := 17) (N := some 25) (v := undef) (a' := ?_) #[true, true, true, true, true, true, true, true, true, true, true, true, true, true, true, true, true, true, false] rfl rfl (any_of HT_.out (by kernel_rfl)) (fun _ _ _ h => h) (Or.inr ⟨by rfl, rfl⟩) ?_ ?_
   rotate_left
   ·simp only [Act.put, List.setIfInBounds_toArray, List.set_cons_zero, List.set_cons_succ, i64_w, i32_w]
    rfl
   refine pure_ (i := 18) (N := some 26) (v := ?_) (a' := ?_) #[true, true, true, true, true, true, true, true, true, true, true, true, true, true, true, true, true, true, true] rfl rfl (any_of HT_.out (by kernel_rfl)) (fun _ _ _ h => h) (Or.inl ⟨by rfl, ?_⟩) ?_ ?_
   rotate_left
   ·intro w'
    go_simp
    with_reducible rfl
   rotate_left
   ·simp only [Act.put, List.setIfInBounds_toArray, List.set_cons_zero, List.set_cons_succ, i64_w, i32_w]
    rfl
   refine done_ (done_of HT_.out (by kernel_rfl)) ?_
   try go_wp2
   go_meet
   case rel => exact ⟨_, (true), sq, H', ⟨by first | omega | exact Nat.le_refl _⟩, ⟨zq BK415⟩, ⟨zq BK416⟩, ⟨zq BK417⟩, ⟨bq⟩⟩
 case rest =>
  clear HC3
  try clear c1
  try clear c2
  try clear p2
  try clear c4
  try clear p4
  try clear q4
  try clear hx4
  try clear c8
  try clear c10
  try clear c11
  try clear c11b0
  try clear c12
  try clear c12b0
  try clear hx420_0
  try clear p420
  try clear q420
  obtain ⟨kq, x26_2, rfl, HA, HJ2, BK415, BK416, BK417, HB⟩ := hcut
  cases kq with
  | zero => exact absurd HA.out (by simp [impl_LendParts.j0])
  | succ kj2 =>
   have H := HA.out
   clear HA
   simp only [impl_LendParts.j0] at H
   by_cases c21 : x26_2 = true
   ·subst c21
    have H1 : (some (([] : List Int), ([] : List (S41)), false)) = some (r1, r2, r3) := by rw [if_pos rfl] at H; exact H
    clear H
    have H := H1
    clear H1
    simp only [Option.some.injEq, Prod.mk.injEq] at H
    obtain ⟨rfl, rfl, rfl⟩ := H
    have hnb22 := NB417_415.out
    have hnc22 := NB415_417.out
    have hnb23 := NB417_416.out
    have hnc23 := NB416_417.out
    have ⟨hcz24_0, hcz24_1, hfz24_0, hfz24_1⟩ := bc2 BK417
    go_wp2
    refine bodyPost_ret (results_ct rfl _ _ gb417 29 #[.slice none 0 0, .slice none 0 0] (0, 0) _ rfl (by (with_reducible repeat (first | refine blk_drewN ?_ _ | refine blk_drew ?_ | refine blk_alloc ?_ _)); refine blk_put (cs := #[.slice none 0 0, .slice none 0 0]) ?_ 1 _ rfl; (with_reducible repeat (first | refine blk_drewN ?_ _ | refine blk_drew ?_ | refine blk_alloc ?_ _)); refine blk_put (cs := #[.slice none 0 0, .slice none 0 0]) ?_ 0 _ rfl; (with_reducible repeat (first | refine blk_drewN ?_ _ | refine blk_drew ?_ | refine blk_alloc ?_ _)); exact BK417.out) Try.underlying29 rfl (by kernel_rfl)) rfl ?_
    exact ⟨_, _, eq_, by first | exact Kd.R_nil _ _ _ _ _ | exact Kd.N_nil _ _ _ _ _ | exact Kd.V_nil _ _ _ _ _ | exact Kd.Q_nil _ _ _ _ _ | exact Kd.S_nil _ _ _ _ _, by first | exact Kd.R_nil _ _ _ _ _ | exact Kd.N_nil _ _ _ _ _ | exact Kd.V_nil _ _ _ _ _ | exact Kd.Q_nil _ _ _ _ _ | exact Kd.S_nil _ _ _ _ _, bq⟩
   ·replace c21 := Bool.eq_false_iff.mpr c21
    subst c21
    have H1 : ((impl_copyShop.f l0_0 l0_1).bind fun bt421 => (if 0 ≤ a1_1 then (if a1_1 < (bt421.1.length : Int) then ((some (bt421.1.set (a1_1 : Int).toNat (wrap64 ((rd bt421.1 a1_1) - a1_2)) : List Int)).bind fun y429 => ((impl_sameLoan.f kj2 bt421.2 a1_0 a1_1 a1_2 a1_3).bind fun t430 => (if t430 ≥ 0 then (if 0 ≤ t430 then (if t430 < (bt421.2.length : Int) then ((impl_validShop.f kj2 y429 (bt421.2.set (t430 : Int).toNat (⟨(rd_T41 bt421.2 t430).f0, (rd_T41 bt421.2 t430).f1, wrap64 (((rd_T41 bt421.2 t430).f2) + a1_2), (rd_T41 bt421.2 t430).f3⟩ : S41))).bind fun bt433 => (some (bt433.1, bt433.2.1, bt433.2.2))) else (none)) else (none)) else (if bt421.2.length < 4398046511104 then ((impl_validShop.f kj2 y429 (bt421.2 ++ [(⟨a1_0, a1_1, a1_2, a1_3⟩ : S41)])).bind fun bt443 => (some (bt443.1, bt443.2.1, bt443.2.2))) else (none))))) else (none)) else (none))) = some (r1, r2, r3) := by rw [if_neg (show ¬ (false = true) by decide)] at H; exact H
    clear H
    have H := H1
    clear H1
    replace H := Option.bind_eq_some_iff.mp H
    obtain ⟨⟨t421, t424⟩, A250, H⟩ := H
    replace H : (if 0 ≤ a1_1 then (if a1_1 < (t421.length : Int) then ((some (t421.set (a1_1 : Int).toNat (wrap64 ((rd t421 a1_1) - a1_2)) : List Int)).bind fun y429 => ((impl_sameLoan.f kj2 t424 a1_0 a1_1 a1_2 a1_3).bind fun t430 => (if t430 ≥ 0 then (if 0 ≤ t430 then (if t430 < (t424.length : Int) then ((impl_validShop.f kj2 y429 (t424.set (t430 : Int).toNat (⟨(rd_T41 t424 t430).f0, (rd_T41 t424 t430).f1, wrap64 (((rd_T41 t424 t430).f2) + a1_2), (rd_T41 t424 t430).f3⟩ : S41))).bind fun bt433 => (some (bt433.1, bt433.2.1, bt433.2.2))) else (none)) else (none)) else (if t424.length < 4398046511104 then ((impl_validShop.f kj2 y429 (t424 ++ [(⟨a1_0, a1_1, a1_2, a1_3⟩ : S41)])).bind fun bt443 => (some (bt443.1, bt443.2.1, bt443.2.2))) else (none))))) else (none)) else (none)) = some (r1, r2, r3) := H
    have A25 := Aside0.mk A250
    clear A250
    by_cases c26 : 0 ≤ a1_1
    ·rw [if_pos c26] at H
     have c26b0 : decide (0 ≤ a1_1) = true := decide_eq_true c26
     clear c26
     by_cases c27 : a1_1 < (t421.length : Int)
     ·rw [if_pos c27] at H
      have c27b0 : decide (a1_1 < (t421.length : Int)) = true := decide_eq_true c27
      clear c27
      obtain ⟨y429, hy429⟩ : ∃ y_ : List Int, y_ = (t421.set (a1_1 : Int).toNat (wrap64 ((rd t421 a1_1) - a1_2))) := ⟨_, rfl⟩
      replace H : ((impl_sameLoan.f kj2 t424 a1_0 a1_1 a1_2 a1_3).bind fun t430 => (if t430 ≥ 0 then (if 0 ≤ t430 then (if t430 < (t424.length : Int) then ((impl_validShop.f kj2 y429 (t424.set (t430 : Int).toNat (⟨(rd_T41 t424 t430).f0, (rd_T41 t424 t430).f1, wrap64 (((rd_T41 t424 t430).f2) + a1_2), (rd_T41 t424 t430).f3⟩ : S41))).bind fun bt433 => (some (bt433.1, bt433.2.1, bt433.2.2))) else (none)) else (none)) else (if t424.length < 4398046511104 then ((impl_validShop.f kj2 y429 (t424 ++ [(⟨a1_0, a1_1, a1_2, a1_3⟩ : S41)])).bind fun bt443 => (some (bt443.1, bt443.2.1, bt443.2.2))) else (none)))) = some (r1, r2, r3) := by first | (rw [hy429]; with_reducible exact H) | (have H2_ := (Option.bind_some _ _).symm.trans H; rw [hy429]; with_reducible exact H2_) | (have H2_ := (Option.bind_some _ _).symm.trans H; with_reducible exact H2_) | with_reducible exact H | (rw [hy429]; exact H) | exact H
      have Ny429 := Aside0.mk hy429
      clear hy429
      replace H := Option.bind_eq_some_iff.mp H
      obtain ⟨t430, A290, H⟩ := H
      replace H : (if t430 ≥ 0 then (if 0 ≤ t430 then (if t430 < (t424.length : Int) then ((impl_validShop.f kj2 y429 (t424.set (t430 : Int).toNat (⟨(rd_T41 t424 t430).f0, (rd_T41 t424 t430).f1, wrap64 (((rd_T41 t424 t430).f2) + a1_2), (rd_T41 t424 t430).f3⟩ : S41))).bind fun bt433 => (some (bt433.1, bt433.2.1, bt433.2.2))) else (none)) else (none)) else (if t424.length < 4398046511104 then ((impl_validShop.f kj2 y429 (t424 ++ [(⟨a1_0, a1_1, a1_2, a1_3⟩ : S41)])).bind fun bt443 => (some (bt443.1, bt443.2.1, bt443.2.2))) else (none))) = some (r1, r2, r3) := H
      have A29 := Aside0.mk A290
      clear A290
      by_cases c30 : t430 ≥ 0
      ·rw [if_pos c30] at H
       have c30b0 : decide (0 ≤ t430) = true := decide_eq_true c30
       clear c30
       by_cases c31 : 0 ≤ t430
       ·rw [if_pos c31] at H
        have c31b0 : decide (0 ≤ t430) = true := decide_eq_true c31
        clear c31
        by_cases c32 : t430 < (t424.length : Int)
        ·rw [if_pos c32] at H
         have c32b0 : decide (t430 < (t424.length : Int)) = true := decide_eq_true c32
         clear c32
         obtain ⟨y432, hy432⟩ : ∃ y_ : List (S41), y_ = (t424.set (t430 : Int).toNat (⟨(rd_T41 t424 t430).f0, (rd_T41 t424 t430).f1, wrap64 (((rd_T41 t424 t430).f2) + a1_2), (rd_T41 t424 t430).f3⟩ : S41)) := ⟨_, rfl⟩
         replace H : ((impl_validShop.f kj2 y429 y432).bind fun bt433 => (some (bt433.1, bt433.2.1, bt433.2.2))) = some (r1, r2, r3) := by first | (rw [hy432]; with_reducible exact H) | (have H2_ := (Option.bind_some _ _).symm.trans H; rw [hy432]; with_reducible exact H2_) | (have H2_ := (Option.bind_some _ _).symm.trans H; with_reducible exact H2_) | with_reducible exact H | (rw [hy432]; exact H) | exact H
         have Ny432 := Aside0.mk hy432
         clear hy432
         replace H := Option.bind_eq_some_iff.mp H
         obtain ⟨⟨t433, t436, t439⟩, A340, H⟩ := H
         replace H : (some (t433, t436, t439)) = some (r1, r2, r3) := H
         have A34 := Aside0.mk A340
         clear A340
         simp only [Option.some.injEq, Prod.mk.injEq] at H
         obtain ⟨rfl, rfl, rfl⟩ := H
         have hnb35 := NB415_416.out
         have hnc35 := NB416_415.out
         have hnb36 := NB415_417.out
         have hnc36 := NB417_415.out
         have ⟨hcz37_0, hcz37_1, hfz37_0, hfz37_1⟩ := bc2 BK415
         try go_wp2_with (first | ((with_reducible refine gate_callee (f := 28) rfl ?_); refine goesQ (some 29) Try.func28 #[.agg #[.slice A0_0 l0_0.length c0_0, .slice A0_1 l0_1.length c0_1]] ?_; (with_reducible refine (impl_copyShop.calls _ _ l0_0 _ _ l0_1 t421 t424 _ ?s1 ?s2 ?s3 ?s4 A25.out).mono ?_); (case s1 => exact cq (Kd.C_below HR0_0.out HB.out)); (case s2 => exact HC0_0.out); (case s3 => exact cq (Kd.C_below HR0_1.out HB.out)); (case s4 => exact HC0_1.out); rintro e w38 ⟨v422, v425, rfl, ho0, ho1, hb⟩; refine ⟨_, rfl, ?_⟩; have HO423 := rl ho0; have HO426 := Aside0.mk (Kd.R_lower (Kd.R_newB ho1 (g := gb416) (o := .cells #[.int .i64 a1_0, .int .i64 a1_1, .int .i64 a1_2, .int .i64 a1_3] 41 (0, 0)) (zq BK416)) (below_size bq)); replace BK415 := zb BK415 hb; replace BK416 := zb BK416 hb; replace BK417 := zb BK417 hb; replace HB := sb hb; (try clear hb ho0 ho1)) | ((with_reducible refine gate_dst (N := 6) rfl ?_); refine box_event ?hg (N := 6) ?hd (cs := #[.slice none 0 0, .slice none 0 0]) (t := 29) ?hr ?_; (case hd => rfl); (case hg => rfl); (case hr => first | (go_simp; done) | (go_simp; rfl)); intro gb427 hg w39 hbox hb; replace HO423 := rb HO423 hb; replace HO426 := rb HO426 hb; have BK427 := Aside0.mk (hbox); have GE427 := Aside0.mk (gq hg); replace HB := sb hb; have NB415_427 := nl hg BK415; have NB427_415 := ng hg BK415; replace BK415 := zb BK415 hb; have NB416_427 := nl hg BK416; have NB427_416 := ng hg BK416; replace BK416 := zb BK416 hb; have NB417_427 := nl hg BK417; have NB427_417 := ng hg BK417; replace BK417 := zb BK417 hb; clear hb hbox hg; obtain ⟨Ao40, co40, eo40⟩ := Kd.R_slice HO423.out; subst eo40; have hnb41 := NB427_415.out; have hnc41 := NB415_427.out; have hnb42 := NB427_416.out; have hnc42 := NB416_427.out; have hnb43 := NB427_417.out; have hnc43 := NB417_427.out; have ⟨hcz44_0, hcz44_1, hfz44_0, hfz44_1⟩ := bc2 BK427; obtain ⟨Ao45, co45, eo45⟩ := Kd.R_slice HO426.out; subst eo45))
         have n0_ : Aside0 (Kd.R (Kd.int .i64) 3 ((w39.setCell ⟨gb427, 0, none⟩ (.slice Ao40 t421.length co40)).setCell ⟨gb427, 1, none⟩ (.slice Ao45 t424.length co45)) w.heap.size (fun _ => True) (.slice Ao40 t421.length co40) t421) := ⟨by (with_reducible repeat (first | apply Kd.R_alloc | apply Kd.R_drewN | apply Kd.R_drew)); exact Kd.R_mono (Kd.R_far (p := ⟨gb427, 1, none⟩) (Kd.R_far (p := ⟨gb427, 0, none⟩) (Kd.R_types HO423.out BK427.out (by decide)) (fun _ hk => hk.2) (.slice Ao40 t421.length co40)) (fun _ hk => hk.2) (.slice Ao45 t424.length co45)) (fun _ hk => trivial)⟩
         have n1_ : Aside0 (Kd.R k41 41 ((w39.setCell ⟨gb427, 0, none⟩ (.slice Ao40 t421.length co40)).setCell ⟨gb427, 1, none⟩ (.slice Ao45 t424.length co45)) w.heap.size (fun k_ => k_ ≠ gb416) (.slice Ao45 t424.length co45) t424) := ⟨by (with_reducible repeat (first | apply Kd.R_alloc | apply Kd.R_drewN | apply Kd.R_drew)); exact Kd.R_mono (Kd.R_far (p := ⟨gb427, 1, none⟩) (Kd.R_far (p := ⟨gb427, 0, none⟩) (Kd.R_types HO426.out BK427.out (by decide)) (fun _ hk => hk.2) (.slice Ao40 t421.length co40)) (fun _ hk => hk.2) (.slice Ao45 t424.length co45)) (fun _ hk => hk.1.2)⟩
         have n2_ : Aside0 (((w39.setCell ⟨gb427, 0, none⟩ (.slice Ao40 t421.length co40)).setCell ⟨gb427, 1, none⟩ (.slice Ao45 t424.length co45)).heap[gb415]? = some (.cells #[.slice A0_0 l0_0.length c0_0, .slice A0_1 l0_1.length c0_1] 29 (0, 0))) := ⟨by (with_reducible repeat (first | refine blk_drewN ?_ _ | refine blk_drew ?_ | refine blk_alloc ?_ _)); refine blk_far ?_ NB415_427.out _; (with_reducible repeat (first | refine blk_drewN ?_ _ | refine blk_drew ?_ | refine blk_alloc ?_ _)); refine blk_far ?_ NB415_427.out _; (with_reducible repeat (first | refine blk_drewN ?_ _ | refine blk_drew ?_ | refine blk_alloc ?_ _)); exact BK415.out⟩
         have n3_ : Aside0 (((w39.setCell ⟨gb427, 0, none⟩ (.slice Ao40 t421.length co40)).setCell ⟨gb427, 1, none⟩ (.slice Ao45 t424.length co45)).heap[gb416]? = some (.cells #[.int .i64 a1_0, .int .i64 a1_1, .int .i64 a1_2, .int .i64 a1_3] 41 (0, 0))) := ⟨by (with_reducible repeat (first | refine blk_drewN ?_ _ | refine blk_drew ?_ | refine blk_alloc ?_ _)); refine blk_far ?_ NB416_427.out _; (with_reducible repeat (first | refine blk_drewN ?_ _ | refine blk_drew ?_ | refine blk_alloc ?_ _)); refine blk_far ?_ NB416_427.out _; (with_reducible repeat (first | refine blk_drewN ?_ _ | refine blk_drew ?_ | refine blk_alloc ?_ _)); exact BK416.out⟩
         have n4_ : Aside0 (((w39.setCell ⟨gb427, 0, none⟩ (.slice Ao40 t421.length co40)).setCell ⟨gb427, 1, none⟩ (.slice Ao45 t424.length co45)).heap[gb417]? = some (.cells #[.slice none 0 0, .slice none 0 0] 29 (0, 0))) := ⟨by (with_reducible repeat (first | refine blk_drewN ?_ _ | refine blk_drew ?_ | refine blk_alloc ?_ _)); refine blk_far ?_ NB417_427.out _; (with_reducible repeat (first | refine blk_drewN ?_ _ | refine blk_drew ?_ | refine blk_alloc ?_ _)); refine blk_far ?_ NB417_427.out _; (with_reducible repeat (first | refine blk_drewN ?_ _ | refine blk_drew ?_ | refine blk_alloc ?_ _)); exact BK417.out⟩
         have n5_ : Aside0 (((w39.setCell ⟨gb427, 0, none⟩ (.slice Ao40 t421.length co40)).setCell ⟨gb427, 1, none⟩ (.slice Ao45 t424.length co45)).heap[gb427]? = some (.cells #[.slice Ao40 t421.length co40, .slice Ao45 t424.length co45] 29 (0, 0))) := ⟨by (with_reducible repeat (first | refine blk_drewN ?_ _ | refine blk_drew ?_ | refine blk_alloc ?_ _)); refine blk_put (cs := #[.slice Ao40 t421.length co40, .slice none 0 0]) ?_ 1 _ rfl; (with_reducible repeat (first | refine blk_drewN ?_ _ | refine blk_drew ?_ | refine blk_alloc ?_ _)); refine blk_put (cs := #[.slice none 0 0, .slice none 0 0]) ?_ 0 _ rfl; (with_reducible repeat (first | refine blk_drewN ?_ _ | refine blk_drew ?_ | refine blk_alloc ?_ _)); exact BK427.out⟩
         have n6_ : Aside0 (Below w.heap.size w ((w39.setCell ⟨gb427, 0, none⟩ (.slice Ao40 t421.length co40)).setCell ⟨gb427, 1, none⟩ (.slice Ao45 t424.length co45))) := ⟨bq⟩
         (try clear HO423)
         (try clear HO426)
         (try clear BK415)
         (try clear BK416)
         (try clear BK417)
         (try clear BK427)
         (try clear HB)
         generalize ((w39.setCell ⟨gb427, 0, none⟩ (.slice Ao40 t421.length co40)).setCell ⟨gb427, 1, none⟩ (.slice Ao45 t424.length co45)) = w46 at n0_ n1_ n2_ n3_ n4_ n5_ n6_ ⊢
         have HO423 := n0_
         have HO426 := n1_
         have BK415 := n2_
         have BK416 := n3_
         have BK417 := n4_
         have BK427 := n5_
         have HB := n6_
         clear n0_ n1_ n2_ n3_ n4_ n5_ n6_
         replace HO423 := Aside0.mk (Kd.R_drew HO423.out)
         replace HO426 := Aside0.mk (Kd.R_drew HO426.out)
         replace BK415 := Aside0.mk (blk_drew BK415.out)
         replace BK416 := Aside0.mk (blk_drew BK416.out)
         replace BK417 := Aside0.mk (blk_drew BK417.out)
         replace BK427 := Aside0.mk (blk_drew BK427.out)
         replace HB := Aside0.mk (below_drew1 HB.out)
         have p428 : 0 ≤ (a1_1 : Int) := of_decide_eq_true aq
         have q428 : a1_1 < (t421.length : Int) := of_decide_eq_true aq
         obtain ⟨ad428, e428, hx428_0⟩ := Kd.at_int (Kd.R_reads' HO423.out).2.2 a1_1 p428 q428
         cases e428
         replace p428 := eq_true p428
         replace q428 := eq_true q428
         have p28 : 0 ≤ (a1_1 : Int) := of_decide_eq_true aq
         have q28 : (a1_1 : Int) < ((t421.length : Int) : Int) := of_decide_eq_true aq
         obtain ⟨go28, co28, eo28, gb28, gl28, cl28, HG28⟩ := Kd.R_form HO423.out (by omega)
         (first | cases eo28 | (injection eo28 with ea_ en_ ec_; (first | subst ea_ | (injection ea_ with ea_; subst ea_)); subst ec_; clear en_))
         have GB28 := Aside0.mk gb28
         have GG28 := Aside0.mk HG28
         clear gb28 gl28 HG28
         (first | simp only [add_plain] at hx428_0 | skip)
         obtain ⟨hx28_0, hf28_0⟩ := Kd.R_celln 0 HO423.out (a1_1 : Int) p28 q28
         replace p28 := eq_true p28
         replace q28 := eq_true q28
         have HP48 := Kd.R_putn HO423.out (a1_1 : Int) (wrap64 ((rd t421 a1_1) - a1_2))
         rw [← Ny429.out] at HP48
         have HQ48 := Aside0.mk HP48
         clear HP48
         refine start_ (n := 11) (S := fun w' => w'.cell? ⟨gb427, 0, none⟩ = some (.slice (some ⟨go28, 0, none⟩) t421.length co40) ∧ w'.cell? ⟨gb427, 1, none⟩ = some (.slice Ao45 t424.length co45) ∧ w'.cell? ⟨gb416, 0, none⟩ = some (.int .i64 a1_0) ∧ w'.cell? ⟨gb416, 1, none⟩ = some (.int .i64 a1_1) ∧ w'.cell? ⟨gb416, 2, none⟩ = some (.int .i64 a1_2) ∧ w'.cell? ⟨gb416, 3, none⟩ = some (.int .i64 a1_3) ∧ w'.cell? ⟨go28, (a1_1).toNat, none⟩ = some (.int .i64 (rd t421 a1_1))) (ds := [10]) #[false, false, false, false, false, false, false, false, false, false, false] (by kernel_rfl) rfl rfl ⟨(blk_cell BK427.out 0).trans rfl, (blk_cell BK427.out 1).trans rfl, (blk_cell BK416.out 0).trans rfl, (blk_cell BK416.out 1).trans rfl, (blk_cell BK416.out 2).trans rfl, (blk_cell BK416.out 3).trans rfl, hx428_0⟩ (fun hHeld => ?_); refine with_tabW impl_LendParts.tab4 impl_LendParts.bits4 (fun HT_ HW_ => ?_)
         generalize w46.drew = w47 at HO423 HO426 BK415 BK416 BK417 BK427 HB GG28 HQ48 hf28_0 hx28_0 hx428_0 hHeld ⊢
         refine pure_ (i := 0) (N := some 30) (v := ?_) (a' := ?_) #[true, false, false, false, false, false, false, false, false, false, false] rfl rfl (any_of HT_.out (by kernel_rfl)) (fun _ _ _ h => h) (Or.inl ⟨by rfl, ?_⟩) ?_ ?_
         rotate_left
         ·intro w'
          go_simp
          with_reducible rfl
         rotate_left
         ·simp only [Act.put, List.setIfInBounds_toArray, List.set_cons_zero, List.set_cons_succ, i64_w, i32_w]
          rfl
         refine pure_ (i := 2) (N := some 32) (v := ?_) (a' := ?_) #[true, false, true, false, false, false, false, false, false, false, false] rfl rfl (any_of HT_.out (by kernel_rfl)) (fun _ _ _ h => h) (Or.inl ⟨by rfl, ?_⟩) ?_ ?_
         rotate_left
         ·intro w'
          go_simp
          with_reducible rfl
         rotate_left
         ·simp only [Act.put, List.setIfInBounds_toArray, List.set_cons_zero, List.set_cons_succ, i64_w, i32_w]
          rfl
         refine pure_ (i := 6) (N := some 36) (v := ?_) (a' := ?_) #[true, false, true, false, false, false, true, false, false, false, false] rfl rfl (any_of HT_.out (by kernel_rfl)) (fun _ _ _ h => h) (Or.inl ⟨by rfl, ?_⟩) ?_ ?_
         rotate_left
         ·intro w'
          go_simp
          with_reducible rfl
         rotate_left
         ·simp only [Act.put, List.setIfInBounds_toArray, List.set_cons_zero, List.set_cons_succ, i64_w, i32_w]
          rfl
         refine take_ (i := 1) (N := some 31) (v := ?_) (a' := ?_) #[true, true, true, false, false, false, true, false, false, false, false] rfl rfl (take_ofW HT_.out HW_.out (by kernel_rfl)) (fun _ _ _ h => h) (Or.inl ⟨by rfl, ?_⟩) hHeld ?_ ?_
         rotate_left
         ·rintro w' ⟨s0, s1, s2, s3, s4, s5, s6⟩
          go_simp
          with_reducible rfl
         rotate_left
         ·simp only [Act.put, List.setIfInBounds_toArray, List.set_cons_zero, List.set_cons_succ, i64_w, i32_w]
          rfl
         refine take_ (i := 3) (N := some 33) (v := ?_) (a' := ?_) #[true, true, true, true, false, false, true, false, false, false, false] rfl rfl (take_ofW HT_.out HW_.out (by kernel_rfl)) (fun _ _ _ h => h) (Or.inl ⟨by rfl, ?_⟩) hHeld ?_ ?_
         rotate_left
         ·rintro w' ⟨s0, s1, s2, s3, s4, s5, s6⟩
          go_simp
          with_reducible rfl
         rotate_left
         ·simp only [Act.put, List.setIfInBounds_toArray, List.set_cons_zero, List.set_cons_succ, i64_w, i32_w]
          rfl
         refine pure_ (i := 4) (N := some 34) (v := ?_) (a' := ?_) #[true, true, true, true, true, false, true, false, false, false, false] rfl rfl (any_of HT_.out (by kernel_rfl)) (fun _ _ _ h => h) (Or.inl ⟨by rfl, ?_⟩) ?_ ?_
         rotate_left
         ·intro w'
          go_simp
          with_reducible rfl
         rotate_left
         ·simp only [Act.put, List.setIfInBounds_toArray, List.set_cons_zero, List.set_cons_succ, i64_w, i32_w]
          rfl
         refine take_ (i := 5) (N := some 35) (v := ?_) (a' := ?_) #[true, true, true, true, true, true, true, false, false, false, false] rfl rfl (take_ofW HT_.out HW_.out (by kernel_rfl)) (fun _ _ _ h => h) (Or.inl ⟨by rfl, ?_⟩) hHeld ?_ ?_
         rotate_left
         ·rintro w' ⟨s0, s1, s2, s3, s4, s5, s6⟩
          go_simp
          with_reducible rfl
         rotate_left
         ·simp only [Act.put, List.setIfInBounds_toArray, List.set_cons_zero, List.set_cons_succ, i64_w, i32_w]
          rfl
         refine take_ (i := 7) (N := some 37) (v := ?_) (a' := ?_) #[true, true, true, true, true, true, true, true, false, false, false] rfl rfl (take_ofW HT_.out HW_.out (by kernel_rfl)) (fun _ _ _ h => h) (Or.inl ⟨by rfl, ?_⟩) hHeld ?_ ?_
         rotate_left
         ·rintro w' ⟨s0, s1, s2, s3, s4, s5, s6⟩
          go_simp
          with_reducible rfl
         rotate_left
         ·simp only [Act.put, List.setIfInBounds_toArray, List.set_cons_zero, List.set_cons_succ, i64_w, i32_w]
          rfl
         refine pure_ (i := 8) (N := some 38) (v := ?_) (a' := ?_) #[true, true, true, true, true, true, true, true, true, false, false] rfl rfl (any_of HT_.out (by kernel_rfl)) (fun _ _ _ h => h) (Or.inl ⟨by rfl, ?_⟩) ?_ ?_
         rotate_left
         ·intro w'
          go_simp
          with_reducible rfl
         rotate_left
         ·simp only [Act.put, List.setIfInBounds_toArray, List.set_cons_zero, List.set_cons_succ, i64_w, i32_w]
          rfl
         refine pure_ (i := 9) (N := some 39) (v := ?_) (a' := ?_) #[true, true, true, true, true, true, true, true, true, true, false] rfl rfl (any_of HT_.out (by kernel_rfl)) (fun _ _ _ h => h) (Or.inl ⟨by rfl, ?_⟩) ?_ ?_
         rotate_left
         ·intro w'
          go_simp
          with_reducible rfl
         rotate_left
         ·simp only [Act.put, List.setIfInBounds_toArray, List.set_cons_zero, List.set_cons_succ, i64_w, i32_w]
          rfl
         refine last_ (i := 10) (N := none) #[true, true, true, true, true, true, true, true, true, true, true] rfl rfl (one_of HT_.out (by kernel_rfl)) (by decide) (fun K hK => ?_)
         refine skip_ (w1 := ?_) (by rfl) rfl ?_ ?_
         rotate_left
         ·go_simp
          rfl
         refine hK.out _ _ ?_
         clear hK K
         refine done_ (done_of HT_.out (by kernel_rfl)) ?_
         have n0_ : Aside0 (Kd.R (Kd.int .i64) 3 (w47.setCell ⟨go28, (a1_1 : Int).toNat, none⟩ (.int .i64 (wrap64 ((rd t421 a1_1) - a1_2)))) w.heap.size (fun _ => True) (.slice (some ⟨go28, 0, none⟩) t421.length co40) y429) := ⟨rq HQ48⟩
         have n1_ : Aside0 (Kd.R k41 41 (w47.setCell ⟨go28, (a1_1 : Int).toNat, none⟩ (.int .i64 (wrap64 ((rd t421 a1_1) - a1_2)))) w.heap.size (fun k_ => k_ ≠ gb416) (.slice Ao45 t424.length co45) t424) := ⟨by (with_reducible repeat (first | apply Kd.R_alloc | apply Kd.R_drewN | apply Kd.R_drew)); exact Kd.R_mono (Kd.R_far (p := ⟨go28, (a1_1 : Int).toNat, none⟩) (Kd.R_types HO426.out GG28.out (by decide)) (fun _ hk => hk.2) (.int .i64 (wrap64 ((rd t421 a1_1) - a1_2)))) (fun _ hk => hk.1)⟩
         have n2_ : Aside0 ((w47.setCell ⟨go28, (a1_1 : Int).toNat, none⟩ (.int .i64 (wrap64 ((rd t421 a1_1) - a1_2)))).heap[gb415]? = some (.cells #[.slice A0_0 l0_0.length c0_0, .slice A0_1 l0_1.length c0_1] 29 (0, 0))) := ⟨by (with_reducible repeat (first | refine blk_drewN ?_ _ | refine blk_drew ?_ | refine blk_alloc ?_ _)); refine blk_far ?_ (by have h_ := Kd.R_ne HO423.out BK415.out (by decide); intro e_; exact h_ (by rw [e_]; rfl)) _; (with_reducible repeat (first | refine blk_drewN ?_ _ | refine blk_drew ?_ | refine blk_alloc ?_ _)); exact BK415.out⟩
         have n3_ : Aside0 ((w47.setCell ⟨go28, (a1_1 : Int).toNat, none⟩ (.int .i64 (wrap64 ((rd t421 a1_1) - a1_2)))).heap[gb416]? = some (.cells #[.int .i64 a1_0, .int .i64 a1_1, .int .i64 a1_2, .int .i64 a1_3] 41 (0, 0))) := ⟨by (with_reducible repeat (first | refine blk_drewN ?_ _ | refine blk_drew ?_ | refine blk_alloc ?_ _)); refine blk_far ?_ (by have h_ := Kd.R_ne HO423.out BK416.out (by decide); intro e_; exact h_ (by rw [e_]; rfl)) _; (with_reducible repeat (first | refine blk_drewN ?_ _ | refine blk_drew ?_ | refine blk_alloc ?_ _)); exact BK416.out⟩
         have n4_ : Aside0 ((w47.setCell ⟨go28, (a1_1 : Int).toNat, none⟩ (.int .i64 (wrap64 ((rd t421 a1_1) - a1_2)))).heap[gb417]? = some (.cells #[.slice none 0 0, .slice none 0 0] 29 (0, 0))) := ⟨by (with_reducible repeat (first | refine blk_drewN ?_ _ | refine blk_drew ?_ | refine blk_alloc ?_ _)); refine blk_far ?_ (by have h_ := Kd.R_ne HO423.out BK417.out (by decide); intro e_; exact h_ (by rw [e_]; rfl)) _; (with_reducible repeat (first | refine blk_drewN ?_ _ | refine blk_drew ?_ | refine blk_alloc ?_ _)); exact BK417.out⟩
         have n5_ : Aside0 ((w47.setCell ⟨go28, (a1_1 : Int).toNat, none⟩ (.int .i64 (wrap64 ((rd t421 a1_1) - a1_2)))).heap[gb427]? = some (.cells #[.slice (some ⟨go28, 0, none⟩) t421.length co40, .slice Ao45 t424.length co45] 29 (0, 0))) := ⟨by (with_reducible repeat (first | refine blk_drewN ?_ _ | refine blk_drew ?_ | refine blk_alloc ?_ _)); refine blk_far ?_ (by have h_ := Kd.R_ne HO423.out BK427.out (by decide); intro e_; exact h_ (by rw [e_]; rfl)) _; (with_reducible repeat (first | refine blk_drewN ?_ _ | refine blk_drew ?_ | refine blk_alloc ?_ _)); exact BK427.out⟩
         have n6_ : Aside0 (Below w.heap.size w (w47.setCell ⟨go28, (a1_1 : Int).toNat, none⟩ (.int .i64 (wrap64 ((rd t421 a1_1) - a1_2))))) := ⟨bq⟩
         (try clear HO423)
         (try clear HO426)
         (try clear BK415)
         (try clear BK416)
         (try clear BK417)
         (try clear BK427)
         (try clear HB)
         generalize (w47.setCell ⟨go28, (a1_1 : Int).toNat, none⟩ (.int .i64 (wrap64 ((rd t421 a1_1) - a1_2)))) = w49 at n0_ n1_ n2_ n3_ n4_ n5_ n6_ ⊢
         have HO423 := n0_
         have HO426 := n1_
         have BK415 := n2_
         have BK416 := n3_
         have BK417 := n4_
         have BK427 := n5_
         have HB := n6_
         clear n0_ n1_ n2_ n3_ n4_ n5_ n6_
         have ⟨hcz50_0, hcz50_1, hfz50_0, hfz50_1⟩ := bc2 BK427
         have hnb51 := NB416_417.out
         have hnc51 := NB417_416.out
         have ⟨hcz52_0, hcz52_1, hcz52_2, hcz52_3, hfz52_0, hfz52_1, hfz52_2, hfz52_3⟩ := bc4 BK416
         try go_wp2_with (first | ((with_reducible refine gate_callee (f := 43) rfl ?_); refine goesQ (some 43) Try.func43 #[.slice Ao45 t424.length co45, .agg #[.int .i64 a1_0, .int .i64 a1_1, .int .i64 a1_2, .int .i64 a1_3]] ?_; (with_reducible refine (impl_sameLoan.calls kj2 _ _ t424 a1_0 a1_1 a1_2 a1_3 t430 _ ?s1 ?s2 A29.out).mono ?_); (case s1 => exact cr HO426); (case s2 => exact r1 HO426); rintro e w53 ⟨rfl, hb⟩; refine ⟨_, rfl, ?_⟩; replace HO423 := rb HO423 hb; replace HO426 := rb HO426 hb; replace BK415 := zb BK415 hb; replace BK416 := zb BK416 hb; replace BK417 := zb BK417 hb; replace BK427 := zb BK427 hb; replace HB := sb hb; (try clear hb)))
         replace HO423 := Aside0.mk (Kd.R_drew HO423.out)
         replace HO426 := Aside0.mk (Kd.R_drew HO426.out)
         replace BK415 := Aside0.mk (blk_drew BK415.out)
         replace BK416 := Aside0.mk (blk_drew BK416.out)
         replace BK417 := Aside0.mk (blk_drew BK417.out)
         replace BK427 := Aside0.mk (blk_drew BK427.out)
         replace HB := Aside0.mk (below_drew1 HB.out)
         have p431 : 0 ≤ (t430 : Int) := of_decide_eq_true aq
         have q431 : t430 < (t424.length : Int) := of_decide_eq_true aq
         obtain ⟨ad431, e431, hx431_0, hx431_1, hx431_2, hx431_3⟩ := at_T41 (Kd.R_reads' HO426.out).2.2 t430 p431 q431
         cases e431
         replace p431 := eq_true p431
         replace q431 := eq_true q431
         have p33 : 0 ≤ (t430 : Int) := of_decide_eq_true aq
         have q33 : (t430 : Int) < ((t424.length : Int) : Int) := of_decide_eq_true aq
         obtain ⟨go33, co33, eo33, gb33, gl33, cl33, HG33⟩ := Kd.R_form HO426.out (by omega)
         (first | cases eo33 | (injection eo33 with ea_ en_ ec_; (first | subst ea_ | (injection ea_ with ea_; subst ea_)); subst ec_; clear en_))
         have GB33 := Aside0.mk gb33
         have GG33 := Aside0.mk HG33
         clear gb33 gl33 HG33
         (first | simp only [add_plain] at hx431_0 | skip)
         (first | simp only [add_plain] at hx431_1 | skip)
         (first | simp only [add_plain] at hx431_2 | skip)
         (first | simp only [add_plain] at hx431_3 | skip)
         obtain ⟨ce33, hcl33, hM33, hcc33, hfr33⟩ := Kd.R_elem HO426.out z41 (t430 : Int) p33 q33
         obtain rfl := k41_openM hM33
         have hx33_0 : World.cell? _ ⟨go33, (t430 : Int).toNat * 4, none⟩ = some (.int .i64 ((rd_T41 t424 t430).f0)) := hcc33 0 _ rfl
         have hx33_1 : World.cell? _ ⟨go33, (t430 : Int).toNat * 4 + 1, none⟩ = some (.int .i64 ((rd_T41 t424 t430).f1)) := hcc33 1 _ rfl
         have hx33_2 : World.cell? _ ⟨go33, (t430 : Int).toNat * 4 + 2, none⟩ = some (.int .i64 ((rd_T41 t424 t430).f2)) := hcc33 2 _ rfl
         have hx33_3 : World.cell? _ ⟨go33, (t430 : Int).toNat * 4 + 3, none⟩ = some (.int .i64 ((rd_T41 t424 t430).f3)) := hcc33 3 _ rfl
         have hf33_0 : World.frozen? _ ⟨go33, (t430 : Int).toNat * 4, none⟩ = false := hfr33 0
         have hf33_1 : World.frozen? _ ⟨go33, (t430 : Int).toNat * 4 + 1, none⟩ = false := hfr33 1
         have hf33_2 : World.frozen? _ ⟨go33, (t430 : Int).toNat * 4 + 2, none⟩ = false := hfr33 2
         have hf33_3 : World.frozen? _ ⟨go33, (t430 : Int).toNat * 4 + 3, none⟩ = false := hfr33 3
         clear hcl33 hcc33 hfr33 hM33
         replace p33 := eq_true p33
         replace q33 := eq_true q33
         obtain ⟨ce55, hcl55, hM55, hcc55, hfr55⟩ := Kd.R_elem HO426.out z41 (t430 : Int) (of_decide_eq_true aq) (by have h_ : (t430 : Int) < ((t424.length : Int) : Int) := of_decide_eq_true aq; first | exact h_ | (have e_ := (Kd.R_reads' HO426.out).1; omega) | simpa using h_)
         obtain rfl := k41_openM hM55
         have HP55 := (Kd.R_seg HO426.out (t430 : Int) (of_decide_eq_true aq) (by have h_ : (t430 : Int) < ((t424.length : Int) : Int) := of_decide_eq_true aq; first | exact h_ | (have e_ := (Kd.R_reads' HO426.out).1; omega) | simpa using h_) (seg := [.int .i64 (wrap64 (((rd_T41 t424 t430).f2) + a1_2))]) (j := 2) hcl55 hcc55 (show 3 ≤ 4 from by decide) (x' := (⟨(rd_T41 t424 t430).f0, (rd_T41 t424 t430).f1, wrap64 (((rd_T41 t424 t430).f2) + a1_2), (rd_T41 t424 t430).f3⟩ : S41)) (k41_mkM _ _ _ (⟨(rd_T41 t424 t430).f0, (rd_T41 t424 t430).f1, wrap64 (((rd_T41 t424 t430).f2) + a1_2), (rd_T41 t424 t430).f3⟩ : S41) ) (fun _ hk => hk)).1
         rw [← Ny432.out] at HP55
         have HQ55 := Aside0.mk HP55
         clear hcl55 hcc55 hfr55 hM55 HP55
         refine start_ (n := 12) (S := fun w' => w'.cell? ⟨gb427, 0, none⟩ = some (.slice (some ⟨go28, 0, none⟩) t421.length co40) ∧ w'.cell? ⟨gb427, 1, none⟩ = some (.slice (some ⟨go33, 0, none⟩) t424.length co45) ∧ w'.cell? ⟨gb416, 0, none⟩ = some (.int .i64 a1_0) ∧ w'.cell? ⟨gb416, 1, none⟩ = some (.int .i64 a1_1) ∧ w'.cell? ⟨gb416, 2, none⟩ = some (.int .i64 a1_2) ∧ w'.cell? ⟨gb416, 3, none⟩ = some (.int .i64 a1_3) ∧ w'.cell? ⟨go33, ((t430).toNat * 4), none⟩ = some (.int .i64 ((rd_T41 t424 t430).f0)) ∧ w'.cell? ⟨go33, ((t430).toNat * 4) + 1, none⟩ = some (.int .i64 ((rd_T41 t424 t430).f1)) ∧ w'.cell? ⟨go33, ((t430).toNat * 4) + 2, none⟩ = some (.int .i64 ((rd_T41 t424 t430).f2)) ∧ w'.cell? ⟨go33, ((t430).toNat * 4) + 3, none⟩ = some (.int .i64 ((rd_T41 t424 t430).f3))) (ds := [11]) #[false, false, false, false, false, false, false, false, false, false, false, false] (by kernel_rfl) rfl rfl ⟨(blk_cell BK427.out 0).trans rfl, (blk_cell BK427.out 1).trans rfl, (blk_cell BK416.out 0).trans rfl, (blk_cell BK416.out 1).trans rfl, (blk_cell BK416.out 2).trans rfl, (blk_cell BK416.out 3).trans rfl, hx431_0, hx431_1, hx431_2, hx431_3⟩ (fun hHeld => ?_); refine with_tabW impl_LendParts.tab7 impl_LendParts.bits7 (fun HT_ HW_ => ?_)
         generalize w53.drew = w54 at HO423 HO426 BK415 BK416 BK417 BK427 HB GG33 HQ55 hf33_0 hf33_1 hf33_2 hf33_3 hx33_0 hx33_1 hx33_2 hx33_3 hx431_0 hx431_1 hx431_2 hx431_3 hHeld ⊢
         refine pure_ (i := 0) (N := some 46) (v := ?_) (a' := ?_) #[true, false, false, false, false, false, false, false, false, false, false, false] rfl rfl (any_of HT_.out (by kernel_rfl)) (fun _ _ _ h => h) (Or.inl ⟨by rfl, ?_⟩) ?_ ?_
         rotate_left
         ·intro w'
          go_simp
          with_reducible rfl
         rotate_left
         ·simp only [Act.put, List.setIfInBounds_toArray, List.set_cons_zero, List.set_cons_succ, i64_w, i32_w]
          rfl
         refine pure_ (i := 2) (N := some 48) (v := ?_) (a' := ?_) #[true, false, true, false, false, false, false, false, false, false, false, false] rfl rfl (any_of HT_.out (by kernel_rfl)) (fun _ _ _ h => h) (Or.inl ⟨by rfl, ?_⟩) ?_ ?_
         rotate_left
         ·intro w'
          go_simp
          with_reducible rfl
         rotate_left
         ·simp only [Act.put, List.setIfInBounds_toArray, List.set_cons_zero, List.set_cons_succ, i64_w, i32_w]
          rfl
         refine pure_ (i := 6) (N := some 52) (v := ?_) (a' := ?_) #[true, false, true, false, false, false, true, false, false, false, false, false] rfl rfl (any_of HT_.out (by kernel_rfl)) (fun _ _ _ h => h) (Or.inl ⟨by rfl, ?_⟩) ?_ ?_
         rotate_left
         ·intro w'
          go_simp
          with_reducible rfl
         rotate_left
         ·simp only [Act.put, List.setIfInBounds_toArray, List.set_cons_zero, List.set_cons_succ, i64_w, i32_w]
          rfl
         refine take_ (i := 1) (N := some 47) (v := ?_) (a' := ?_) #[true, true, true, false, false, false, true, false, false, false, false, false] rfl rfl (take_ofW HT_.out HW_.out (by kernel_rfl)) (fun _ _ _ h => h) (Or.inl ⟨by rfl, ?_⟩) hHeld ?_ ?_
         rotate_left
         ·rintro w' ⟨s0, s1, s2, s3, s4, s5, s6, s7, s8, s9⟩
          go_simp
          with_reducible rfl
         rotate_left
         ·simp only [Act.put, List.setIfInBounds_toArray, List.set_cons_zero, List.set_cons_succ, i64_w, i32_w]
          rfl
         refine pure_ (i := 3) (N := some 49) (v := ?_) (a' := ?_) #[true, true, true, true, false, false, true, false, false, false, false, false] rfl rfl (any_of HT_.out (by kernel_rfl)) (fun _ _ _ h => h) (Or.inl ⟨by rfl, ?_⟩) ?_ ?_
         rotate_left
         ·intro w'
          go_simp
          with_reducible rfl
         rotate_left
         ·simp only [Act.put, List.setIfInBounds_toArray, List.set_cons_zero, List.set_cons_succ, i64_w, i32_w]
          rfl
         refine pure_ (i := 4) (N := some 50) (v := ?_) (a' := ?_) #[true, true, true, true, true, false, true, false, false, false, false, false] rfl rfl (any_of HT_.out (by kernel_rfl)) (fun _ _ _ h => h) (Or.inl ⟨by rfl, ?_⟩) ?_ ?_
         rotate_left
         ·intro w'
          go_simp
          with_reducible rfl
         rotate_left
         ·simp only [Act.put, List.setIfInBounds_toArray, List.set_cons_zero, List.set_cons_succ, i64_w, i32_w]
          rfl
         refine take_ (i := 5) (N := some 51) (v := ?_) (a' := ?_) #[true, true, true, true, true, true, true, false, false, false, false, false] rfl rfl (take_ofW HT_.out HW_.out (by kernel_rfl)) (fun _ _ _ h => h) (Or.inl ⟨by rfl, ?_⟩) hHeld ?_ ?_
         rotate_left
         ·rintro w' ⟨s0, s1, s2, s3, s4, s5, s6, s7, s8, s9⟩
          go_simp
          with_reducible rfl
         rotate_left
         ·simp only [Act.put, List.setIfInBounds_toArray, List.set_cons_zero, List.set_cons_succ, i64_w, i32_w]
          rfl
         refine take_ (i := 7) (N := some 53) (v := ?_) (a' := ?_) #[true, true, true, true, true, true, true, true, false, false, false, false] rfl rfl (take_ofW HT_.out HW_.out (by kernel_rfl)) (fun _ _ _ h => h) (Or.inl ⟨by rfl, ?_⟩) hHeld ?_ ?_
         rotate_left
         ·rintro w' ⟨s0, s1, s2, s3, s4, s5, s6, s7, s8, s9⟩
          go_simp
          with_reducible rfl
         rotate_left
         ·simp only [Act.put, List.setIfInBounds_toArray, List.set_cons_zero, List.set_cons_succ, i64_w, i32_w]
          rfl
         refine pure_ (i := 8) (N := some 54) (v := ?_) (a' := ?_) #[true, true, true, true, true, true, true, true, true, false, false, false] rfl rfl (any_of HT_.out (by kernel_rfl)) (fun _ _ _ h => h) (Or.inl ⟨by rfl, ?_⟩) ?_ ?_
         rotate_left
         ·intro w'
          go_simp
          with_reducible rfl
         rotate_left
         ·simp only [Act.put, List.setIfInBounds_toArray, List.set_cons_zero, List.set_cons_succ, i64_w, i32_w]
          rfl
         refine pure_ (i := 9) (N := some 55) (v := ?_) (a' := ?_) #[true, true, true, true, true, true, true, true, true, true, false, false] rfl rfl (any_of HT_.out (by kernel_rfl)) (fun _ _ _ h => h) (Or.inl ⟨by rfl, ?_⟩) ?_ ?_
         rotate_left
         ·intro w'
          go_simp
          with_reducible rfl
         rotate_left
         ·simp only [Act.put, List.setIfInBounds_toArray, List.set_cons_zero, List.set_cons_succ, i64_w, i32_w]
          rfl
         refine pure_ (i := 10) (N := some 56) (v := ?_) (a' := ?_) #[true, true, true, true, true, true, true, true, true, true, true, false] rfl rfl (any_of HT_.out (by kernel_rfl)) (fun _ _ _ h => h) (Or.inl ⟨by rfl, ?_⟩) ?_ ?_
         rotate_left
         ·intro w'
          go_simp
          with_reducible rfl
         rotate_left
         ·simp only [Act.put, List.setIfInBounds_toArray, List.set_cons_zero, List.set_cons_succ, i64_w, i32_w]
          rfl
         refine last_ (i := 11) (N := none) #[true, true, true, true, true, true, true, true, true, true, true, true] rfl rfl (one_of HT_.out (by kernel_rfl)) (by decide) (fun K hK => ?_)
         refine skip_ (w1 := ?_) (by rfl) rfl ?_ ?_
         rotate_left
         ·go_simp
          rfl
         refine hK.out _ _ ?_
         clear hK K
         refine done_ (done_of HT_.out (by kernel_rfl)) ?_
         have n0_ : Aside0 (Kd.R (Kd.int .i64) 3 (w54.setCell ⟨go33, (t430 : Int).toNat * 4 + 2, none⟩ (.int .i64 (wrap64 (((rd_T41 t424 t430).f2) + a1_2)))) w.heap.size (fun _ => True) (.slice (some ⟨go28, 0, none⟩) t421.length co40) y429) := ⟨by (with_reducible repeat (first | apply Kd.R_alloc | apply Kd.R_drewN | apply Kd.R_drew)); exact Kd.R_mono (Kd.R_far (p := ⟨go33, (t430 : Int).toNat * 4 + 2, none⟩) (Kd.R_types HO423.out GG33.out (by decide)) (fun _ hk => hk.2) (.int .i64 (wrap64 (((rd_T41 t424 t430).f2) + a1_2)))) (fun _ hk => trivial)⟩
         have n1_ : Aside0 (Kd.R k41 41 (w54.setCell ⟨go33, (t430 : Int).toNat * 4 + 2, none⟩ (.int .i64 (wrap64 (((rd_T41 t424 t430).f2) + a1_2)))) w.heap.size (fun k_ => k_ ≠ gb416) (.slice (some ⟨go33, 0, none⟩) t424.length co45) y432) := ⟨rq HQ55⟩
         have n2_ : Aside0 ((w54.setCell ⟨go33, (t430 : Int).toNat * 4 + 2, none⟩ (.int .i64 (wrap64 (((rd_T41 t424 t430).f2) + a1_2)))).heap[gb415]? = some (.cells #[.slice A0_0 l0_0.length c0_0, .slice A0_1 l0_1.length c0_1] 29 (0, 0))) := ⟨by (with_reducible repeat (first | refine blk_drewN ?_ _ | refine blk_drew ?_ | refine blk_alloc ?_ _)); refine blk_far ?_ (by have h_ := Kd.R_ne HO426.out BK415.out (by decide); intro e_; exact h_ (by rw [e_]; rfl)) _; (with_reducible repeat (first | refine blk_drewN ?_ _ | refine blk_drew ?_ | refine blk_alloc ?_ _)); exact BK415.out⟩
         have n3_ : Aside0 ((w54.setCell ⟨go33, (t430 : Int).toNat * 4 + 2, none⟩ (.int .i64 (wrap64 (((rd_T41 t424 t430).f2) + a1_2)))).heap[gb416]? = some (.cells #[.int .i64 a1_0, .int .i64 a1_1, .int .i64 a1_2, .int .i64 a1_3] 41 (0, 0))) := ⟨by (with_reducible repeat (first | refine blk_drewN ?_ _ | refine blk_drew ?_ | refine blk_alloc ?_ _)); refine blk_far ?_ (by have h_ := Kd.R_away HO426.out (fun _ hk => hk); intro e_; exact h_ (by rw [e_]; rfl)) _; (with_reducible repeat (first | refine blk_drewN ?_ _ | refine blk_drew ?_ | refine blk_alloc ?_ _)); exact BK416.out⟩
         have n4_ : Aside0 ((w54.setCell ⟨go33, (t430 : Int).toNat * 4 + 2, none⟩ (.int .i64 (wrap64 (((rd_T41 t424 t430).f2) + a1_2)))).heap[gb417]? = some (.cells #[.slice none 0 0, .slice none 0 0] 29 (0, 0))) := ⟨by (with_reducible repeat (first | refine blk_drewN ?_ _ | refine blk_drew ?_ | refine blk_alloc ?_ _)); refine blk_far ?_ (by have h_ := Kd.R_ne HO426.out BK417.out (by decide); intro e_; exact h_ (by rw [e_]; rfl)) _; (with_reducible repeat (first | refine blk_drewN ?_ _ | refine blk_drew ?_ | refine blk_alloc ?_ _)); exact BK417.out⟩
         have n5_ : Aside0 ((w54.setCell ⟨go33, (t430 : Int).toNat * 4 + 2, none⟩ (.int .i64 (wrap64 (((rd_T41 t424 t430).f2) + a1_2)))).heap[gb427]? = some (.cells #[.slice (some ⟨go28, 0, none⟩) t421.length co40, .slice (some ⟨go33, 0, none⟩) t424.length co45] 29 (0, 0))) := ⟨by (with_reducible repeat (first | refine blk_drewN ?_ _ | refine blk_drew ?_ | refine blk_alloc ?_ _)); refine blk_far ?_ (by have h_ := Kd.R_ne HO426.out BK427.out (by decide); intro e_; exact h_ (by rw [e_]; rfl)) _; (with_reducible repeat (first | refine blk_drewN ?_ _ | refine blk_drew ?_ | refine blk_alloc ?_ _)); exact BK427.out⟩
         have n6_ : Aside0 (Below w.heap.size w (w54.setCell ⟨go33, (t430 : Int).toNat * 4 + 2, none⟩ (.int .i64 (wrap64 (((rd_T41 t424 t430).f2) + a1_2))))) := ⟨bq⟩
         (try clear HO423)
         (try clear HO426)
         (try clear BK415)
         (try clear BK416)
         (try clear BK417)
         (try clear BK427)
         (try clear HB)
         generalize (w54.setCell ⟨go33, (t430 : Int).toNat * 4 + 2, none⟩ (.int .i64 (wrap64 (((rd_T41 t424 t430).f2) + a1_2)))) = w56 at n0_ n1_ n2_ n3_ n4_ n5_ n6_ ⊢
         have HO423 := n0_
         have HO426 := n1_
         have BK415 := n2_
         have BK416 := n3_
         have BK417 := n4_
         have BK427 := n5_
         have HB := n6_
         clear n0_ n1_ n2_ n3_ n4_ n5_ n6_
         have ⟨hcz57_0, hcz57_1, hfz57_0, hfz57_1⟩ := bc2 BK427
         try go_wp2_with (first | ((with_reducible refine gate_callee (f := 38) rfl ?_); refine goesQ (some 64) Try.func38 #[.agg #[.slice (some ⟨go28, 0, none⟩) t421.length co40, .slice (some ⟨go33, 0, none⟩) t424.length co45]] ?_; (with_reducible refine (impl_validShop.calls kj2 (fun k_ => some k_ = (.slice (some ⟨go28, 0, none⟩) t421.length co40 : Value).ownBlock) (.slice (some ⟨go28, 0, none⟩) t421.length co40) y429 (fun k_ => some k_ = (.slice (some ⟨go33, 0, none⟩) t424.length co45 : Value).ownBlock) (.slice (some ⟨go33, 0, none⟩) t424.length co45) y432 t433 t436 t439 w _ ?s1 ?s2 ?s3 A34.out).mono ?_); (case s1 => repeat (first | (with_reducible first | exact HB.out | apply below_alloc | apply pw_below_drewN | apply below_drew1 | refine below_set ?_ GE415.out | refine below_set ?_ GE416.out | refine below_set ?_ GE417.out | refine below_set ?_ GE427.out) | exact HB.out)); (case s2 => exact Kd.R_tight rfl HO423.out); (case s3 => exact Kd.R_tight rfl HO426.out); rintro e w58 ⟨v434, v437, rfl, ho0, ho1, hb, hkp⟩; refine ⟨_, rfl, ?_⟩; have n0_ := Aside0.mk (blk_kept (zq BK415) hkp (fun hs_ => Or.elim hs_ (fun e_ => (fun e_ => (Kd.R_ne HO423.out BK415.out (by decide)) e_) e_) (fun e_ => (fun e_ => (Kd.R_ne HO426.out BK415.out (by decide)) e_) e_))); have n1_ := Aside0.mk (blk_kept (zq BK416) hkp (fun hs_ => Or.elim hs_ (fun e_ => (fun e_ => (Kd.R_ne HO423.out BK416.out (by decide)) e_) e_) (fun e_ => (fun e_ => (Kd.R_away HO426.out (fun _ hk => hk)) e_) e_))); have n2_ := Aside0.mk (blk_kept (zq BK417) hkp (fun hs_ => Or.elim hs_ (fun e_ => (fun e_ => (Kd.R_ne HO423.out BK417.out (by decide)) e_) e_) (fun e_ => (fun e_ => (Kd.R_ne HO426.out BK417.out (by decide)) e_) e_))); have n3_ := Aside0.mk (blk_kept (zq BK427) hkp (fun hs_ => Or.elim hs_ (fun e_ => (fun e_ => (Kd.R_ne HO423.out BK427.out (by decide)) e_) e_) (fun e_ => (fun e_ => (Kd.R_ne HO426.out BK427.out (by decide)) e_) e_))); have n4_ := Aside0.mk (Kd.R_mono (ok' := fun k_ => True) ho0 (fun k_ hk_ => trivial)); have n5_ := Aside0.mk (Kd.R_mono (ok' := fun k_ => k_ ≠ gb416) ho1 (fun k_ hk_ => Or.elim hk_ (fun hs_ => Or.elim hs_ (fun hs_ => fun e_ => (Kd.R_ne HO423.out BK416.out (by decide)) (by rw [← e_]; exact hs_)) (fun hs_ => fun e_ => (Kd.R_away HO426.out (fun _ hk => hk)) (by rw [← e_]; exact hs_))) (fun hn_ => (Kd.freshB (g := gb416) (o := .cells #[.int .i64 a1_0, .int .i64 a1_1, .int .i64 a1_2, .int .i64 a1_3] 41 (0, 0)) (zq BK416) k_ hn_)))); have n6_ := Aside0.mk (hb); clear BK415; clear BK416; clear BK417; clear BK427; clear HB; clear HO423; clear HO426; have BK415 := n0_; have BK416 := n1_; have BK417 := n2_; have BK427 := n3_; have HO435 := n4_; have HO438 := n5_; have HB := n6_; clear n0_ n1_ n2_ n3_ n4_ n5_ n6_; (try clear hb hkp ho0 ho1); obtain ⟨Ao59, co59, eo59⟩ := Kd.R_slice HO435.out; subst eo59; have ⟨hcz60_0, hcz60_1, hfz60_0, hfz60_1⟩ := bc2 BK417; obtain ⟨Ao61, co61, eo61⟩ := Kd.R_slice HO438.out; subst eo61))
         refine bodyPost_ret (results_ct rfl _ _ gb417 29 #[.slice Ao59 t433.length co59, .slice Ao61 t436.length co61] (0, 0) _ rfl (by (with_reducible repeat (first | refine blk_drewN ?_ _ | refine blk_drew ?_ | refine blk_alloc ?_ _)); refine blk_put (cs := #[.slice Ao59 t433.length co59, .slice none 0 0]) ?_ 1 _ rfl; (with_reducible repeat (first | refine blk_drewN ?_ _ | refine blk_drew ?_ | refine blk_alloc ?_ _)); refine blk_put (cs := #[.slice none 0 0, .slice none 0 0]) ?_ 0 _ rfl; (with_reducible repeat (first | refine blk_drewN ?_ _ | refine blk_drew ?_ | refine blk_alloc ?_ _)); exact BK417.out) Try.underlying29 rfl (by kernel_rfl)) rfl ?_
         exact ⟨_, _, eq_, by (with_reducible repeat (first | apply Kd.R_alloc | apply Kd.R_drewN | apply Kd.R_drew)); exact Kd.R_mono (Kd.R_far (p := ⟨gb417, 1, none⟩) (Kd.R_far (p := ⟨gb417, 0, none⟩) (Kd.R_types HO435.out BK417.out (by decide)) (fun _ hk => hk.2) (.slice Ao59 t433.length co59)) (fun _ hk => hk.2) (.slice Ao61 t436.length co61)) (fun _ hk => trivial), by (with_reducible repeat (first | apply Kd.R_alloc | apply Kd.R_drewN | apply Kd.R_drew)); exact Kd.R_mono (Kd.R_far (p := ⟨gb417, 1, none⟩) (Kd.R_far (p := ⟨gb417, 0, none⟩) (Kd.R_types HO438.out BK417.out (by decide)) (fun _ hk => hk.2) (.slice Ao59 t433.length co59)) (fun _ hk => hk.2) (.slice Ao61 t436.length co61)) (fun _ hk => trivial), bq⟩
        ·rw [if_neg c32] at H
         exact absurd H (by simp)
       ·rw [if_neg c31] at H
        exact absurd H (by simp)
      ·rw [if_neg c30] at H
       have c30b0 : decide (0 ≤ t430) = false := decide_eq_false c30
       clear c30
       by_cases c62 : t424.length < 4398046511104
       ·rw [if_pos c62] at H
        have LMc62 := Aside0.mk c62
        clear c62
        obtain ⟨y440, hy440⟩ : ∃ y_ : List (S41), y_ = (t424 ++ [(⟨a1_0, a1_1, a1_2, a1_3⟩ : S41)]) := ⟨_, rfl⟩
        replace H : ((impl_validShop.f kj2 y429 y440).bind fun bt443 => (some (bt443.1, bt443.2.1, bt443.2.2))) = some (r1, r2, r3) := by first | (rw [hy440]; with_reducible exact H) | (have H2_ := (Option.bind_some _ _).symm.trans H; rw [hy440]; with_reducible exact H2_) | (have H2_ := (Option.bind_some _ _).symm.trans H; with_reducible exact H2_) | with_reducible exact H | (rw [hy440]; exact H) | exact H
        have Ny440 := Aside0.mk hy440
        clear hy440
        replace H := Option.bind_eq_some_iff.mp H
        obtain ⟨⟨t443, t446, t449⟩, A630, H⟩ := H
        replace H : (some (t443, t446, t449)) = some (r1, r2, r3) := H
        have A63 := Aside0.mk A630
        clear A630
        simp only [Option.some.injEq, Prod.mk.injEq] at H
        obtain ⟨rfl, rfl, rfl⟩ := H
        have hnb64 := NB415_416.out
        have hnc64 := NB416_415.out
        have hnb65 := NB415_417.out
        have hnc65 := NB417_415.out
        have ⟨hcz66_0, hcz66_1, hfz66_0, hfz66_1⟩ := bc2 BK415
        try go_wp2_with (first | ((with_reducible refine gate_callee (f := 28) rfl ?_); refine goesQ (some 29) Try.func28 #[.agg #[.slice A0_0 l0_0.length c0_0, .slice A0_1 l0_1.length c0_1]] ?_; (with_reducible refine (impl_copyShop.calls _ _ l0_0 _ _ l0_1 t421 t424 _ ?s1 ?s2 ?s3 ?s4 A25.out).mono ?_); (case s1 => exact cq (Kd.C_below HR0_0.out HB.out)); (case s2 => exact HC0_0.out); (case s3 => exact cq (Kd.C_below HR0_1.out HB.out)); (case s4 => exact HC0_1.out); rintro e w67 ⟨v422, v425, rfl, ho0, ho1, hb⟩; refine ⟨_, rfl, ?_⟩; have HO423 := rl ho0; have HO426 := Aside0.mk (Kd.R_lower (Kd.R_newB ho1 (g := gb416) (o := .cells #[.int .i64 a1_0, .int .i64 a1_1, .int .i64 a1_2, .int .i64 a1_3] 41 (0, 0)) (zq BK416)) (below_size bq)); replace BK415 := zb BK415 hb; replace BK416 := zb BK416 hb; replace BK417 := zb BK417 hb; replace HB := sb hb; (try clear hb ho0 ho1)) | ((with_reducible refine gate_dst (N := 6) rfl ?_); refine box_event ?hg (N := 6) ?hd (cs := #[.slice none 0 0, .slice none 0 0]) (t := 29) ?hr ?_; (case hd => rfl); (case hg => rfl); (case hr => first | (go_simp; done) | (go_simp; rfl)); intro gb427 hg w68 hbox hb; replace HO423 := rb HO423 hb; replace HO426 := rb HO426 hb; have BK427 := Aside0.mk (hbox); have GE427 := Aside0.mk (gq hg); replace HB := sb hb; have NB415_427 := nl hg BK415; have NB427_415 := ng hg BK415; replace BK415 := zb BK415 hb; have NB416_427 := nl hg BK416; have NB427_416 := ng hg BK416; replace BK416 := zb BK416 hb; have NB417_427 := nl hg BK417; have NB427_417 := ng hg BK417; replace BK417 := zb BK417 hb; clear hb hbox hg; obtain ⟨Ao69, co69, eo69⟩ := Kd.R_slice HO423.out; subst eo69; have hnb70 := NB427_415.out; have hnc70 := NB415_427.out; have hnb71 := NB427_416.out; have hnc71 := NB416_427.out; have hnb72 := NB427_417.out; have hnc72 := NB417_427.out; have ⟨hcz73_0, hcz73_1, hfz73_0, hfz73_1⟩ := bc2 BK427; obtain ⟨Ao74, co74, eo74⟩ := Kd.R_slice HO426.out; subst eo74))
        have n0_ : Aside0 (Kd.R (Kd.int .i64) 3 ((w68.setCell ⟨gb427, 0, none⟩ (.slice Ao69 t421.length co69)).setCell ⟨gb427, 1, none⟩ (.slice Ao74 t424.length co74)) w.heap.size (fun _ => True) (.slice Ao69 t421.length co69) t421) := ⟨by (with_reducible repeat (first | apply Kd.R_alloc | apply Kd.R_drewN | apply Kd.R_drew)); exact Kd.R_mono (Kd.R_far (p := ⟨gb427, 1, none⟩) (Kd.R_far (p := ⟨gb427, 0, none⟩) (Kd.R_types HO423.out BK427.out (by decide)) (fun _ hk => hk.2) (.slice Ao69 t421.length co69)) (fun _ hk => hk.2) (.slice Ao74 t424.length co74)) (fun _ hk => trivial)⟩
        have n1_ : Aside0 (Kd.R k41 41 ((w68.setCell ⟨gb427, 0, none⟩ (.slice Ao69 t421.length co69)).setCell ⟨gb427, 1, none⟩ (.slice Ao74 t424.length co74)) w.heap.size (fun k_ => k_ ≠ gb416) (.slice Ao74 t424.length co74) t424) := ⟨by (with_reducible repeat (first | apply Kd.R_alloc | apply Kd.R_drewN | apply Kd.R_drew)); exact Kd.R_mono (Kd.R_far (p := ⟨gb427, 1, none⟩) (Kd.R_far (p := ⟨gb427, 0, none⟩) (Kd.R_types HO426.out BK427.out (by decide)) (fun _ hk => hk.2) (.slice Ao69 t421.length co69)) (fun _ hk => hk.2) (.slice Ao74 t424.length co74)) (fun _ hk => hk.1.2)⟩
        have n2_ : Aside0 (((w68.setCell ⟨gb427, 0, none⟩ (.slice Ao69 t421.length co69)).setCell ⟨gb427, 1, none⟩ (.slice Ao74 t424.length co74)).heap[gb415]? = some (.cells #[.slice A0_0 l0_0.length c0_0, .slice A0_1 l0_1.length c0_1] 29 (0, 0))) := ⟨by (with_reducible repeat (first | refine blk_drewN ?_ _ | refine blk_drew ?_ | refine blk_alloc ?_ _)); refine blk_far ?_ NB415_427.out _; (with_reducible repeat (first | refine blk_drewN ?_ _ | refine blk_drew ?_ | refine blk_alloc ?_ _)); refine blk_far ?_ NB415_427.out _; (with_reducible repeat (first | refine blk_drewN ?_ _ | refine blk_drew ?_ | refine blk_alloc ?_ _)); exact BK415.out⟩
        have n3_ : Aside0 (((w68.setCell ⟨gb427, 0, none⟩ (.slice Ao69 t421.length co69)).setCell ⟨gb427, 1, none⟩ (.slice Ao74 t424.length co74)).heap[gb416]? = some (.cells #[.int .i64 a1_0, .int .i64 a1_1, .int .i64 a1_2, .int .i64 a1_3] 41 (0, 0))) := ⟨by (with_reducible repeat (first | refine blk_drewN ?_ _ | refine blk_drew ?_ | refine blk_alloc ?_ _)); refine blk_far ?_ NB416_427.out _; (with_reducible repeat (first | refine blk_drewN ?_ _ | refine blk_drew ?_ | refine blk_alloc ?_ _)); refine blk_far ?_ NB416_427.out _; (with_reducible repeat (first | refine blk_drewN ?_ _ | refine blk_drew ?_ | refine blk_alloc ?_ _)); exact BK416.out⟩
        have n4_ : Aside0 (((w68.setCell ⟨gb427, 0, none⟩ (.slice Ao69 t421.length co69)).setCell ⟨gb427, 1, none⟩ (.slice Ao74 t424.length co74)).heap[gb417]? = some (.cells #[.slice none 0 0, .slice none 0 0] 29 (0, 0))) := ⟨by (with_reducible repeat (first | refine blk_drewN ?_ _ | refine blk_drew ?_ | refine blk_alloc ?_ _)); refine blk_far ?_ NB417_427.out _; (with_reducible repeat (first | refine blk_drewN ?_ _ | refine blk_drew ?_ | refine blk_alloc ?_ _)); refine blk_far ?_ NB417_427.out _; (with_reducible repeat (first | refine blk_drewN ?_ _ | refine blk_drew ?_ | refine blk_alloc ?_ _)); exact BK417.out⟩
        have n5_ : Aside0 (((w68.setCell ⟨gb427, 0, none⟩ (.slice Ao69 t421.length co69)).setCell ⟨gb427, 1, none⟩ (.slice Ao74 t424.length co74)).heap[gb427]? = some (.cells #[.slice Ao69 t421.length co69, .slice Ao74 t424.length co74] 29 (0, 0))) := ⟨by (with_reducible repeat (first | refine blk_drewN ?_ _ | refine blk_drew ?_ | refine blk_alloc ?_ _)); refine blk_put (cs := #[.slice Ao69 t421.length co69, .slice none 0 0]) ?_ 1 _ rfl; (with_reducible repeat (first | refine blk_drewN ?_ _ | refine blk_drew ?_ | refine blk_alloc ?_ _)); refine blk_put (cs := #[.slice none 0 0, .slice none 0 0]) ?_ 0 _ rfl; (with_reducible repeat (first | refine blk_drewN ?_ _ | refine blk_drew ?_ | refine blk_alloc ?_ _)); exact BK427.out⟩
        have n6_ : Aside0 (Below w.heap.size w ((w68.setCell ⟨gb427, 0, none⟩ (.slice Ao69 t421.length co69)).setCell ⟨gb427, 1, none⟩ (.slice Ao74 t424.length co74))) := ⟨bq⟩
        (try clear HO423)
        (try clear HO426)
        (try clear BK415)
        (try clear BK416)
        (try clear BK417)
        (try clear BK427)
        (try clear HB)
        generalize ((w68.setCell ⟨gb427, 0, none⟩ (.slice Ao69 t421.length co69)).setCell ⟨gb427, 1, none⟩ (.slice Ao74 t424.length co74)) = w75 at n0_ n1_ n2_ n3_ n4_ n5_ n6_ ⊢
        have HO423 := n0_
        have HO426 := n1_
        have BK415 := n2_
        have BK416 := n3_
        have BK417 := n4_
        have BK427 := n5_
        have HB := n6_
        clear n0_ n1_ n2_ n3_ n4_ n5_ n6_
        replace HO423 := Aside0.mk (Kd.R_drew HO423.out)
        replace HO426 := Aside0.mk (Kd.R_drew HO426.out)
        replace BK415 := Aside0.mk (blk_drew BK415.out)
        replace BK416 := Aside0.mk (blk_drew BK416.out)
        replace BK417 := Aside0.mk (blk_drew BK417.out)
        replace BK427 := Aside0.mk (blk_drew BK427.out)
        replace HB := Aside0.mk (below_drew1 HB.out)
        have p428 : 0 ≤ (a1_1 : Int) := of_decide_eq_true aq
        have q428 : a1_1 < (t421.length : Int) := of_decide_eq_true aq
        obtain ⟨ad428, e428, hx428_0⟩ := Kd.at_int (Kd.R_reads' HO423.out).2.2 a1_1 p428 q428
        cases e428
        replace p428 := eq_true p428
        replace q428 := eq_true q428
        have p28 : 0 ≤ (a1_1 : Int) := of_decide_eq_true aq
        have q28 : (a1_1 : Int) < ((t421.length : Int) : Int) := of_decide_eq_true aq
        obtain ⟨go28, co28, eo28, gb28, gl28, cl28, HG28⟩ := Kd.R_form HO423.out (by omega)
        (first | cases eo28 | (injection eo28 with ea_ en_ ec_; (first | subst ea_ | (injection ea_ with ea_; subst ea_)); subst ec_; clear en_))
        have GB28 := Aside0.mk gb28
        have GG28 := Aside0.mk HG28
        clear gb28 gl28 HG28
        (first | simp only [add_plain] at hx428_0 | skip)
        obtain ⟨hx28_0, hf28_0⟩ := Kd.R_celln 0 HO423.out (a1_1 : Int) p28 q28
        replace p28 := eq_true p28
        replace q28 := eq_true q28
        have HP77 := Kd.R_putn HO423.out (a1_1 : Int) (wrap64 ((rd t421 a1_1) - a1_2))
        rw [← Ny429.out] at HP77
        have HQ77 := Aside0.mk HP77
        clear HP77
        refine start_ (n := 11) (S := fun w' => w'.cell? ⟨gb427, 0, none⟩ = some (.slice (some ⟨go28, 0, none⟩) t421.length co69) ∧ w'.cell? ⟨gb427, 1, none⟩ = some (.slice Ao74 t424.length co74) ∧ w'.cell? ⟨gb416, 0, none⟩ = some (.int .i64 a1_0) ∧ w'.cell? ⟨gb416, 1, none⟩ = some (.int .i64 a1_1) ∧ w'.cell? ⟨gb416, 2, none⟩ = some (.int .i64 a1_2) ∧ w'.cell? ⟨gb416, 3, none⟩ = some (.int .i64 a1_3) ∧ w'.cell? ⟨go28, (a1_1).toNat, none⟩ = some (.int .i64 (rd t421 a1_1))) (ds := [10]) #[false, false, false, false, false, false, false, false, false, false, false] (by kernel_rfl) rfl rfl ⟨(blk_cell BK427.out 0).trans rfl, (blk_cell BK427.out 1).trans rfl, (blk_cell BK416.out 0).trans rfl, (blk_cell BK416.out 1).trans rfl, (blk_cell BK416.out 2).trans rfl, (blk_cell BK416.out 3).trans rfl, hx428_0⟩ (fun hHeld => ?_); refine with_tabW impl_LendParts.tab4 impl_LendParts.bits4 (fun HT_ HW_ => ?_)
        generalize w75.drew = w76 at HO423 HO426 BK415 BK416 BK417 BK427 HB GG28 HQ77 hf28_0 hx28_0 hx428_0 hHeld ⊢
        refine pure_ (i := 0) (N := some 30) (v := ?_) (a' := ?_) #[true, false, false, false, false, false, false, false, false, false, false] rfl rfl (any_of HT_.out (by kernel_rfl)) (fun _ _ _ h => h) (Or.inl ⟨by rfl, ?_⟩) ?_ ?_
        rotate_left
        ·intro w'
         go_simp
         with_reducible rfl
        rotate_left
        ·simp only [Act.put, List.setIfInBounds_toArray, List.set_cons_zero, List.set_cons_succ, i64_w, i32_w]
         rfl
        refine pure_ (i := 2) (N := some 32) (v := ?_) (a' := ?_) #[true, false, true, false, false, false, false, false, false, false, false] rfl rfl (any_of HT_.out (by kernel_rfl)) (fun _ _ _ h => h) (Or.inl ⟨by rfl, ?_⟩) ?_ ?_
        rotate_left
        ·intro w'
         go_simp
         with_reducible rfl
        rotate_left
        ·simp only [Act.put, List.setIfInBounds_toArray, List.set_cons_zero, List.set_cons_succ, i64_w, i32_w]
         rfl
        refine pure_ (i := 6) (N := some 36) (v := ?_) (a' := ?_) #[true, false, true, false, false, false, true, false, false, false, false] rfl rfl (any_of HT_.out (by kernel_rfl)) (fun _ _ _ h => h) (Or.inl ⟨by rfl, ?_⟩) ?_ ?_
        rotate_left
        ·intro w'
         go_simp
         with_reducible rfl
        rotate_left
        ·simp only [Act.put, List.setIfInBounds_toArray, List.set_cons_zero, List.set_cons_succ, i64_w, i32_w]
         rfl
        refine take_ (i := 1) (N := some 31) (v := ?_) (a' := ?_) #[true, true, true, false, false, false, true, false, false, false, false] rfl rfl (take_ofW HT_.out HW_.out (by kernel_rfl)) (fun _ _ _ h => h) (Or.inl ⟨by rfl, ?_⟩) hHeld ?_ ?_
        rotate_left
        ·rintro w' ⟨s0, s1, s2, s3, s4, s5, s6⟩
         go_simp
         with_reducible rfl
        rotate_left
        ·simp only [Act.put, List.setIfInBounds_toArray, List.set_cons_zero, List.set_cons_succ, i64_w, i32_w]
         rfl
        refine take_ (i := 3) (N := some 33) (v := ?_) (a' := ?_) #[true, true, true, true, false, false, true, false, false, false, false] rfl rfl (take_ofW HT_.out HW_.out (by kernel_rfl)) (fun _ _ _ h => h) (Or.inl ⟨by rfl, ?_⟩) hHeld ?_ ?_
        rotate_left
        ·rintro w' ⟨s0, s1, s2, s3, s4, s5, s6⟩
         go_simp
         with_reducible rfl
        rotate_left
        ·simp only [Act.put, List.setIfInBounds_toArray, List.set_cons_zero, List.set_cons_succ, i64_w, i32_w]
         rfl
        refine pure_ (i := 4) (N := some 34) (v := ?_) (a' := ?_) #[true, true, true, true, true, false, true, false, false, false, false] rfl rfl (any_of HT_.out (by kernel_rfl)) (fun _ _ _ h => h) (Or.inl ⟨by rfl, ?_⟩) ?_ ?_
        rotate_left
        ·intro w'
         go_simp
         with_reducible rfl
        rotate_left
        ·simp only [Act.put, List.setIfInBounds_toArray, List.set_cons_zero, List.set_cons_succ, i64_w, i32_w]
         rfl
        refine take_ (i := 5) (N := some 35) (v := ?_) (a' := ?_) #[true, true, true, true, true, true, true, false, false, false, false] rfl rfl (take_ofW HT_.out HW_.out (by kernel_rfl)) (fun _ _ _ h => h) (Or.inl ⟨by rfl, ?_⟩) hHeld ?_ ?_
        rotate_left
        ·rintro w' ⟨s0, s1, s2, s3, s4, s5, s6⟩
         go_simp
         with_reducible rfl
        rotate_left
        ·simp only [Act.put, List.setIfInBounds_toArray, List.set_cons_zero, List.set_cons_succ, i64_w, i32_w]
         rfl
        refine take_ (i := 7) (N := some 37) (v := ?_) (a' := ?_) #[true, true, true, true, true, true, true, true, false, false, false] rfl rfl (take_ofW HT_.out HW_.out (by kernel_rfl)) (fun _ _ _ h => h) (Or.inl ⟨by rfl, ?_⟩) hHeld ?_ ?_
        rotate_left
        ·rintro w' ⟨s0, s1, s2, s3, s4, s5, s6⟩
         go_simp
         with_reducible rfl
        rotate_left
        ·simp only [Act.put, List.setIfInBounds_toArray, List.set_cons_zero, List.set_cons_succ, i64_w, i32_w]
         rfl
        refine pure_ (i := 8) (N := some 38) (v := ?_) (a' := ?_) #[true, true, true, true, true, true, true, true, true, false, false] rfl rfl (any_of HT_.out (by kernel_rfl)) (fun _ _ _ h => h) (Or.inl ⟨by rfl, ?_⟩) ?_ ?_
        rotate_left
        ·intro w'
         go_simp
         with_reducible rfl
        rotate_left
        ·simp only [Act.put, List.setIfInBounds_toArray, List.set_cons_zero, List.set_cons_succ, i64_w, i32_w]
         rfl
        refine pure_ (i := 9) (N := some 39) (v := ?_) (a' := ?_) #[true, true, true, true, true, true, true, true, true, true, false] rfl rfl (any_of HT_.out (by kernel_rfl)) (fun _ _ _ h => h) (Or.inl ⟨by rfl, ?_⟩) ?_ ?_
        rotate_left
        ·intro w'
         go_simp
         with_reducible rfl
        rotate_left
        ·simp only [Act.put, List.setIfInBounds_toArray, List.set_cons_zero, List.set_cons_succ, i64_w, i32_w]
         rfl
        refine last_ (i := 10) (N := none) #[true, true, true, true, true, true, true, true, true, true, true] rfl rfl (one_of HT_.out (by kernel_rfl)) (by decide) (fun K hK => ?_)
        refine skip_ (w1 := ?_) (by rfl) rfl ?_ ?_
        rotate_left
        ·go_simp
         rfl
        refine hK.out _ _ ?_
        clear hK K
        refine done_ (done_of HT_.out (by kernel_rfl)) ?_
        have n0_ : Aside0 (Kd.R (Kd.int .i64) 3 (w76.setCell ⟨go28, (a1_1 : Int).toNat, none⟩ (.int .i64 (wrap64 ((rd t421 a1_1) - a1_2)))) w.heap.size (fun _ => True) (.slice (some ⟨go28, 0, none⟩) t421.length co69) y429) := ⟨rq HQ77⟩
        have n1_ : Aside0 (Kd.R k41 41 (w76.setCell ⟨go28, (a1_1 : Int).toNat, none⟩ (.int .i64 (wrap64 ((rd t421 a1_1) - a1_2)))) w.heap.size (fun k_ => k_ ≠ gb416) (.slice Ao74 t424.length co74) t424) := ⟨by (with_reducible repeat (first | apply Kd.R_alloc | apply Kd.R_drewN | apply Kd.R_drew)); exact Kd.R_mono (Kd.R_far (p := ⟨go28, (a1_1 : Int).toNat, none⟩) (Kd.R_types HO426.out GG28.out (by decide)) (fun _ hk => hk.2) (.int .i64 (wrap64 ((rd t421 a1_1) - a1_2)))) (fun _ hk => hk.1)⟩
        have n2_ : Aside0 ((w76.setCell ⟨go28, (a1_1 : Int).toNat, none⟩ (.int .i64 (wrap64 ((rd t421 a1_1) - a1_2)))).heap[gb415]? = some (.cells #[.slice A0_0 l0_0.length c0_0, .slice A0_1 l0_1.length c0_1] 29 (0, 0))) := ⟨by (with_reducible repeat (first | refine blk_drewN ?_ _ | refine blk_drew ?_ | refine blk_alloc ?_ _)); refine blk_far ?_ (by have h_ := Kd.R_ne HO423.out BK415.out (by decide); intro e_; exact h_ (by rw [e_]; rfl)) _; (with_reducible repeat (first | refine blk_drewN ?_ _ | refine blk_drew ?_ | refine blk_alloc ?_ _)); exact BK415.out⟩
        have n3_ : Aside0 ((w76.setCell ⟨go28, (a1_1 : Int).toNat, none⟩ (.int .i64 (wrap64 ((rd t421 a1_1) - a1_2)))).heap[gb416]? = some (.cells #[.int .i64 a1_0, .int .i64 a1_1, .int .i64 a1_2, .int .i64 a1_3] 41 (0, 0))) := ⟨by (with_reducible repeat (first | refine blk_drewN ?_ _ | refine blk_drew ?_ | refine blk_alloc ?_ _)); refine blk_far ?_ (by have h_ := Kd.R_ne HO423.out BK416.out (by decide); intro e_; exact h_ (by rw [e_]; rfl)) _; (with_reducible repeat (first | refine blk_drewN ?_ _ | refine blk_drew ?_ | refine blk_alloc ?_ _)); exact BK416.out⟩
        have n4_ : Aside0 ((w76.setCell ⟨go28, (a1_1 : Int).toNat, none⟩ (.int .i64 (wrap64 ((rd t421 a1_1) - a1_2)))).heap[gb417]? = some (.cells #[.slice none 0 0, .slice none 0 0] 29 (0, 0))) := ⟨by (with_reducible repeat (first | refine blk_drewN ?_ _ | refine blk_drew ?_ | refine blk_alloc ?_ _)); refine blk_far ?_ (by have h_ := Kd.R_ne HO423.out BK417.out (by decide); intro e_; exact h_ (by rw [e_]; rfl)) _; (with_reducible repeat (first | refine blk_drewN ?_ _ | refine blk_drew ?_ | refine blk_alloc ?_ _)); exact BK417.out⟩
        have n5_ : Aside0 ((w76.setCell ⟨go28, (a1_1 : Int).toNat, none⟩ (.int .i64 (wrap64 ((rd t421 a1_1) - a1_2)))).heap[gb427]? = some (.cells #[.slice (some ⟨go28, 0, none⟩) t421.length co69, .slice Ao74 t424.length co74] 29 (0, 0))) := ⟨by (with_reducible repeat (first | refine blk_drewN ?_ _ | refine blk_drew ?_ | refine blk_alloc ?_ _)); refine blk_far ?_ (by have h_ := Kd.R_ne HO423.out BK427.out (by decide); intro e_; exact h_ (by rw [e_]; rfl)) _; (with_reducible repeat (first | refine blk_drewN ?_ _ | refine blk_drew ?_ | refine blk_alloc ?_ _)); exact BK427.out⟩
        have n6_ : Aside0 (Below w.heap.size w (w76.setCell ⟨go28, (a1_1 : Int).toNat, none⟩ (.int .i64 (wrap64 ((rd t421 a1_1) - a1_2))))) := ⟨bq⟩
        (try clear HO423)
        (try clear HO426)
        (try clear BK415)
        (try clear BK416)
        (try clear BK417)
        (try clear BK427)
        (try clear HB)
        generalize (w76.setCell ⟨go28, (a1_1 : Int).toNat, none⟩ (.int .i64 (wrap64 ((rd t421 a1_1) - a1_2)))) = w78 at n0_ n1_ n2_ n3_ n4_ n5_ n6_ ⊢
        have HO423 := n0_
        have HO426 := n1_
        have BK415 := n2_
        have BK416 := n3_
        have BK417 := n4_
        have BK427 := n5_
        have HB := n6_
        clear n0_ n1_ n2_ n3_ n4_ n5_ n6_
        have ⟨hcz79_0, hcz79_1, hfz79_0, hfz79_1⟩ := bc2 BK427
        have hnb80 := NB416_417.out
        have hnc80 := NB417_416.out
        have ⟨hcz81_0, hcz81_1, hcz81_2, hcz81_3, hfz81_0, hfz81_1, hfz81_2, hfz81_3⟩ := bc4 BK416
        try go_wp2_with (first | ((with_reducible refine gate_callee (f := 43) rfl ?_); refine goesQ (some 43) Try.func43 #[.slice Ao74 t424.length co74, .agg #[.int .i64 a1_0, .int .i64 a1_1, .int .i64 a1_2, .int .i64 a1_3]] ?_; (with_reducible refine (impl_sameLoan.calls kj2 _ _ t424 a1_0 a1_1 a1_2 a1_3 t430 _ ?s1 ?s2 A29.out).mono ?_); (case s1 => exact cr HO426); (case s2 => exact r1 HO426); rintro e w82 ⟨rfl, hb⟩; refine ⟨_, rfl, ?_⟩; replace HO423 := rb HO423 hb; replace HO426 := rb HO426 hb; replace BK415 := zb BK415 hb; replace BK416 := zb BK416 hb; replace BK417 := zb BK417 hb; replace BK427 := zb BK427 hb; replace HB := sb hb; (try clear hb); have ⟨hcz83_0, hcz83_1, hfz83_0, hfz83_1⟩ := bc2 BK427; have ⟨hcz84_0, hcz84_1, hcz84_2, hcz84_3, hfz84_0, hfz84_1, hfz84_2, hfz84_3⟩ := bc4 BK416) | ((with_reducible refine gate_builtin (b := .append) (xs := #[.tmp 58, .tmp 60]) rfl ?_); at_builtin; refine Kd.R_append k41 (w0 := w) w.heap.size rfl (.tmp 58) (.tmp 60) 27 41 (.agg #[(.int .i64 0), (.int .i64 0), (.int .i64 0), (.int .i64 0)]) 32 rfl Try.underlying27 info41 rfl (by decide) (by omega) (.slice Ao74 t424.length co74) t424 (⟨a1_0, a1_1, a1_2, a1_3⟩ : S41) [.int .i64 a1_0, .int .i64 a1_1, .int .i64 a1_2, .int .i64 a1_3] (fun k_ => k_ ≠ gb416) (fun _ => False) rfl rfl ?aP (fun _ hk => hk.elim) ?aF ?aO ?aB ?aS ?aL ?_; (case aP => exact k41_mkM _ _ _ (⟨a1_0, a1_1, a1_2, a1_3⟩ : S41)); (case aB => exact bq); (case aF => exact (fun k_ hk => Kd.freshB (g := gb416) (o := .cells #[.int .i64 a1_0, .int .i64 a1_1, .int .i64 a1_2, .int .i64 a1_3] 41 (0, 0)) (zq BK416) k_ hk)); (case aO => exact (rq HO426)); (case aS => exact (below_size bq)); (case aL => have := LMc62.out; omega); intro v441 w85 ho hb hg hat; rw [← Ny440.out] at ho; have n0_ := Aside0.mk (blk_grown (g := gb415) (o := .cells #[.slice A0_0 l0_0.length c0_0, .slice A0_1 l0_1.length c0_1] 29 (0, 0)) (zq BK415) hg (Kd.R_ne HO426.out BK415.out (by decide))); have n1_ := Aside0.mk (blk_grown (g := gb416) (o := .cells #[.int .i64 a1_0, .int .i64 a1_1, .int .i64 a1_2, .int .i64 a1_3] 41 (0, 0)) (zq BK416) hg (Kd.R_away HO426.out (fun _ hk => hk))); have n2_ := Aside0.mk (blk_grown (g := gb417) (o := .cells #[.slice none 0 0, .slice none 0 0] 29 (0, 0)) (zq BK417) hg (Kd.R_ne HO426.out BK417.out (by decide))); have n3_ := Aside0.mk (Kd.R_over' (rq HO423) (Kd.R_typed (rq HO426)) (by decide) hg); have n4_ := Aside0.mk (blk_grown (g := gb427) (o := .cells #[.slice (some ⟨go28, 0, none⟩) t421.length co69, .slice Ao74 t424.length co74] 29 (0, 0)) (zq BK427) hg (Kd.R_ne HO426.out BK427.out (by decide))); have n5_ := Aside0.mk (hb); have n6_ := Aside0.mk (ho); clear BK415; clear BK416; clear BK417; clear HO423; clear BK427; clear HB; clear HO426; have BK415 := n0_; have BK416 := n1_; have BK417 := n2_; have HO423 := n3_; have BK427 := n4_; have HB := n5_; have HO442 := n6_; clear n0_ n1_ n2_ n3_ n4_ n5_ n6_; clear ho hb hg hat; obtain ⟨Ao86, co86, eo86⟩ := Kd.R_slice HO442.out; subst eo86; have ⟨hcz87_0, hcz87_1, hfz87_0, hfz87_1⟩ := bc2 BK427) | ((with_reducible refine gate_store (t := 27) (p := 62) rfl ?_); refine store_event (t := 27) (p := 62) (v := ?vo_w88) (w1 := (w85.setCell ⟨gb427, 1, none⟩ (.slice Ao86 y440.length co86))) ?hg ?ho ?hn ?hr ?_; (case ho => rfl); (case hg => rfl); (case hn => rfl); (case hr => first | (go_simp; done) | (go_simp; rfl)); intro w88 hw; have n0_ : Aside0 (Kd.R (Kd.int .i64) 3 w88 w.heap.size (fun _ => True) (.slice (some ⟨go28, 0, none⟩) t421.length co69) y429) := ⟨(by rw [hw]; exact (by (with_reducible repeat (first | apply Kd.R_alloc | apply Kd.R_drewN | apply Kd.R_drew)); exact Kd.R_mono (Kd.R_far (p := ⟨gb427, 1, none⟩) (Kd.R_types HO423.out BK427.out (by decide)) (fun _ hk => hk.2) (.slice Ao86 y440.length co86)) (fun _ hk => trivial)))⟩; have n1_ : Aside0 (Kd.R k41 41 w88 w.heap.size (fun k_ => k_ ≠ gb416) (.slice Ao86 y440.length co86) y440) := ⟨(by rw [hw]; exact (by (with_reducible repeat (first | apply Kd.R_alloc | apply Kd.R_drewN | apply Kd.R_drew)); exact Kd.R_mono (Kd.R_far (p := ⟨gb427, 1, none⟩) (Kd.R_types HO442.out BK427.out (by decide)) (fun _ hk => hk.2) (.slice Ao86 y440.length co86)) (fun _ hk => hk.1)))⟩; have n2_ : Aside0 (w88.heap[gb415]? = some (.cells #[.slice A0_0 l0_0.length c0_0, .slice A0_1 l0_1.length c0_1] 29 (0, 0))) := ⟨(by rw [hw]; exact (by (with_reducible repeat (first | refine blk_drewN ?_ _ | refine blk_drew ?_ | refine blk_alloc ?_ _)); refine blk_far ?_ NB415_427.out _; (with_reducible repeat (first | refine blk_drewN ?_ _ | refine blk_drew ?_ | refine blk_alloc ?_ _)); exact BK415.out))⟩; have n3_ : Aside0 (w88.heap[gb416]? = some (.cells #[.int .i64 a1_0, .int .i64 a1_1, .int .i64 a1_2, .int .i64 a1_3] 41 (0, 0))) := ⟨(by rw [hw]; exact (by (with_reducible repeat (first | refine blk_drewN ?_ _ | refine blk_drew ?_ | refine blk_alloc ?_ _)); refine blk_far ?_ NB416_427.out _; (with_reducible repeat (first | refine blk_drewN ?_ _ | refine blk_drew ?_ | refine blk_alloc ?_ _)); exact BK416.out))⟩; have n4_ : Aside0 (w88.heap[gb417]? = some (.cells #[.slice none 0 0, .slice none 0 0] 29 (0, 0))) := ⟨(by rw [hw]; exact (by (with_reducible repeat (first | refine blk_drewN ?_ _ | refine blk_drew ?_ | refine blk_alloc ?_ _)); refine blk_far ?_ NB417_427.out _; (with_reducible repeat (first | refine blk_drewN ?_ _ | refine blk_drew ?_ | refine blk_alloc ?_ _)); exact BK417.out))⟩; have n5_ : Aside0 (w88.heap[gb427]? = some (.cells #[.slice (some ⟨go28, 0, none⟩) t421.length co69, .slice Ao86 y440.length co86] 29 (0, 0))) := ⟨(by rw [hw]; exact (by (with_reducible repeat (first | refine blk_drewN ?_ _ | refine blk_drew ?_ | refine blk_alloc ?_ _)); refine blk_put (cs := #[.slice (some ⟨go28, 0, none⟩) t421.length co69, .slice Ao74 t424.length co74]) ?_ 1 _ rfl; (with_reducible repeat (first | refine blk_drewN ?_ _ | refine blk_drew ?_ | refine blk_alloc ?_ _)); exact BK427.out))⟩; have n6_ : Aside0 (Below w.heap.size w w88) := ⟨(by rw [hw]; exact bq)⟩; clear hw; clear HO423; clear HO442; clear BK415; clear BK416; clear BK417; clear BK427; clear HB; have HO423 := n0_; have HO442 := n1_; have BK415 := n2_; have BK416 := n3_; have BK417 := n4_; have BK427 := n5_; have HB := n6_; clear n0_ n1_ n2_ n3_ n4_ n5_ n6_; have ⟨hcz89_0, hcz89_1, hfz89_0, hfz89_1⟩ := bc2 BK427) | ((with_reducible refine gate_callee (f := 38) rfl ?_); refine goesQ (some 64) Try.func38 #[.agg #[.slice (some ⟨go28, 0, none⟩) t421.length co69, .slice Ao86 y440.length co86]] ?_; (with_reducible refine (impl_validShop.calls kj2 (fun k_ => some k_ = (.slice (some ⟨go28, 0, none⟩) t421.length co69 : Value).ownBlock) (.slice (some ⟨go28, 0, none⟩) t421.length co69) y429 (fun k_ => some k_ = (.slice Ao86 y440.length co86 : Value).ownBlock) (.slice Ao86 y440.length co86) y440 t443 t446 t449 w _ ?s1 ?s2 ?s3 A63.out).mono ?_); (case s1 => repeat (first | (with_reducible first | exact HB.out | apply below_alloc | apply pw_below_drewN | apply below_drew1 | refine below_set ?_ GE415.out | refine below_set ?_ GE416.out | refine below_set ?_ GE417.out | refine below_set ?_ GE427.out) | exact HB.out)); (case s2 => exact Kd.R_tight rfl HO423.out); (case s3 => exact Kd.R_tight rfl HO442.out); rintro e w90 ⟨v444, v447, rfl, ho0, ho1, hb, hkp⟩; refine ⟨_, rfl, ?_⟩; have n0_ := Aside0.mk (blk_kept (zq BK415) hkp (fun hs_ => Or.elim hs_ (fun e_ => (fun e_ => (Kd.R_ne HO423.out BK415.out (by decide)) e_) e_) (fun e_ => (fun e_ => (Kd.R_ne HO442.out BK415.out (by decide)) e_) e_))); have n1_ := Aside0.mk (blk_kept (zq BK416) hkp (fun hs_ => Or.elim hs_ (fun e_ => (fun e_ => (Kd.R_ne HO423.out BK416.out (by decide)) e_) e_) (fun e_ => (fun e_ => (Kd.R_away HO442.out (fun _ hk => hk)) e_) e_))); have n2_ := Aside0.mk (blk_kept (zq BK417) hkp (fun hs_ => Or.elim hs_ (fun e_ => (fun e_ => (Kd.R_ne HO423.out BK417.out (by decide)) e_) e_) (fun e_ => (fun e_ => (Kd.R_ne HO442.out BK417.out (by decide)) e_) e_))); have n3_ := Aside0.mk (blk_kept (zq BK427) hkp (fun hs_ => Or.elim hs_ (fun e_ => (fun e_ => (Kd.R_ne HO423.out BK427.out (by decide)) e_) e_) (fun e_ => (fun e_ => (Kd.R_ne HO442.out BK427.out (by decide)) e_) e_))); have n4_ := Aside0.mk (Kd.R_mono (ok' := fun k_ => True) ho0 (fun k_ hk_ => trivial)); have n5_ := Aside0.mk (Kd.R_mono (ok' := fun k_ => k_ ≠ gb416) ho1 (fun k_ hk_ => Or.elim hk_ (fun hs_ => Or.elim hs_ (fun hs_ => fun e_ => (Kd.R_ne HO423.out BK416.out (by decide)) (by rw [← e_]; exact hs_)) (fun hs_ => fun e_ => (Kd.R_away HO442.out (fun _ hk => hk)) (by rw [← e_]; exact hs_))) (fun hn_ => (Kd.freshB (g := gb416) (o := .cells #[.int .i64 a1_0, .int .i64 a1_1, .int .i64 a1_2, .int .i64 a1_3] 41 (0, 0)) (zq BK416) k_ hn_)))); have n6_ := Aside0.mk (hb); clear BK415; clear BK416; clear BK417; clear BK427; clear HB; clear HO423; clear HO442; have BK417 := n2_; have HO445 := n4_; have HO448 := n5_; have HB := n6_; clear n0_ n1_ n2_ n3_ n4_ n5_ n6_; (try clear hb hkp ho0 ho1); obtain ⟨Ao91, co91, eo91⟩ := Kd.R_slice HO445.out; subst eo91; have ⟨hcz92_0, hcz92_1, hfz92_0, hfz92_1⟩ := bc2 BK417; obtain ⟨Ao93, co93, eo93⟩ := Kd.R_slice HO448.out; subst eo93))
        refine bodyPost_ret (results_ct rfl _ _ gb417 29 #[.slice Ao91 t443.length co91, .slice Ao93 t446.length co93] (0, 0) _ rfl (by (with_reducible repeat (first | refine blk_drewN ?_ _ | refine blk_drew ?_ | refine blk_alloc ?_ _)); refine blk_put (cs := #[.slice Ao91 t443.length co91, .slice none 0 0]) ?_ 1 _ rfl; (with_reducible repeat (first | refine blk_drewN ?_ _ | refine blk_drew ?_ | refine blk_alloc ?_ _)); refine blk_put (cs := #[.slice none 0 0, .slice none 0 0]) ?_ 0 _ rfl; (with_reducible repeat (first | refine blk_drewN ?_ _ | refine blk_drew ?_ | refine blk_alloc ?_ _)); exact BK417.out) Try.underlying29 rfl (by kernel_rfl)) rfl ?_
        exact ⟨_, _, eq_, by (with_reducible repeat (first | apply Kd.R_alloc | apply Kd.R_drewN | apply Kd.R_drew)); exact Kd.R_mono (Kd.R_far (p := ⟨gb417, 1, none⟩) (Kd.R_far (p := ⟨gb417, 0, none⟩) (Kd.R_types HO445.out BK417.out (by decide)) (fun _ hk => hk.2) (.slice Ao91 t443.length co91)) (fun _ hk => hk.2) (.slice Ao93 t446.length co93)) (fun _ hk => trivial), by (with_reducible repeat (first | apply Kd.R_alloc | apply Kd.R_drewN | apply Kd.R_drew)); exact Kd.R_mono (Kd.R_far (p := ⟨gb417, 1, none⟩) (Kd.R_far (p := ⟨gb417, 0, none⟩) (Kd.R_types HO448.out BK417.out (by decide)) (fun _ hk => hk.2) (.slice Ao91 t443.length co91)) (fun _ hk => hk.2) (.slice Ao93 t446.length co93)) (fun _ hk => trivial), bq⟩
       ·rw [if_neg c62] at H
        exact absurd H (by simp)
     ·rw [if_neg c27] at H
      exact absurd H (by simp)
    ·rw [if_neg c26] at H
     exact absurd H (by simp)




end Go.Proofs.Ytokigipkoeeddaa.Pall
