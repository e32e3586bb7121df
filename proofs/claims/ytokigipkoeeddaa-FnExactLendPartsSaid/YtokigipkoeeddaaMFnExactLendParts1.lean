-- written by the kit's print program, put together by a program
import Derived.Test.YtokigipkoeeddaaMFnExactLendParts0
namespace Go.Proofs.Ytokigipkoeeddaa.Pall
open Go.RowKit Go.Proofs.YtokigipkoeeddaaW.PrintWords Go.Proofs.YtokigipkoeeddaaW.PrintLast Go.Proofs.YtokigipkoeeddaaW.PrintMore
attribute [local go_sem] max2_int min2_int max_two min_two max_three min_three max_four min_four   -- for this text's walks alone
set_option linter.unusedVariables false
set_option linter.unusedSimpArgs false
/-! ### spec_LendParts: function 16 -/
def spec_LendParts.j0 : Nat → Bool → List Int → List (S41) → Int → Int → Int → Int → Option (List Int × (List (S41)) × Bool)
 | 0, _, _, _, _, _, _, _ => none
 | k + 1, x26, x381000, x381001, x382000, x382001, x382002, x382003 => if x26 = true then (some (([] : List Int), ([] : List (S41)), false)) else ((spec_psOwn.f x381000 x381001).bind fun bt386 => (if 0 ≤ x382001 then (if x382001 < (bt386.1.length : Int) then ((some (bt386.1.set (x382001 : Int).toNat (wrap64 ((rd bt386.1 x382001) - x382002)) : List Int)).bind fun y394 => ((spec_psSame.f k x381000 x381001 x382000 x382001 x382002 x382003).bind fun t395 => (if t395 ≥ 0 then (if 0 ≤ t395 then (if t395 < (bt386.2.length : Int) then ((spec_psIf.f k y394 (bt386.2.set (t395 : Int).toNat (⟨(rd_T41 bt386.2 t395).f0, (rd_T41 bt386.2 t395).f1, wrap64 (((rd_T41 bt386.2 t395).f2) + x382002), (rd_T41 bt386.2 t395).f3⟩ : S41))).bind fun bt398 => (some (bt398.1, bt398.2.1, bt398.2.2))) else (none)) else (none)) else (if bt386.2.length < 4398046511104 then ((spec_psIf.f k y394 (bt386.2 ++ [(⟨x382000, x382001, x382002, x382003⟩ : S41)])).bind fun bt408 => (some (bt408.1, bt408.2.1, bt408.2.2))) else (none))))) else (none)) else (none)))
def spec_LendParts.f (k : Nat) (l0_0 : List Int) (l0_1 : List (S41)) (a1_0 : Int) (a1_1 : Int) (a1_2 : Int) (a1_3 : Int) : Option (List Int × (List (S41)) × Bool) := (spec_psGood.f k l0_0 l0_1).bind fun t383 => (if t383 = true then ((spec_psLoan.f a1_0 a1_1 a1_2 a1_3).bind fun t384 => (if t384 = true then (if 0 ≤ a1_1 then (if a1_1 < (l0_0.length : Int) then (spec_LendParts.j0 k (decide ((rd l0_0 a1_1) < a1_2)) l0_0 l0_1 a1_0 a1_1 a1_2 a1_3) else (none)) else (none)) else (spec_LendParts.j0 k true l0_0 l0_1 a1_0 a1_1 a1_2 a1_3))) else (spec_LendParts.j0 k true l0_0 l0_1 a1_0 a1_1 a1_2 a1_3))
theorem spec_LendParts.mono_l : ∀ k, (∀ y0 y1 y2 y3 y4 y5 y6, LeO (spec_LendParts.j0 k y0 y1 y2 y3 y4 y5 y6) (spec_LendParts.j0 (k + 1) y0 y1 y2 y3 y4 y5 y6))
 | 0 => fun _ _ _ _ _ _ _ r h => by simp [spec_LendParts.j0] at h
 | k + 1 => by
  have ih0 := spec_LendParts.mono_l k
  ·intro y0 y1 y2 y3 y4 y5 y6
   unfold spec_LendParts.j0
   repeat' first
   | (with_reducible exact ih0 _ _ _ _ _ _ _)
   | (with_reducible exact spec_psGood.mono _ _ _)
   | (with_reducible exact spec_psIf.mono _ _ _)
   | (with_reducible exact spec_psSame.mono _ _ _ _ _ _ _)
   | (with_reducible exact LeO.refl _)
   | (with_reducible exact LeO.none _)
   | (with_reducible refine LeO.ite ?_ ?_)
   | (with_reducible refine LeO.bind ?_ (fun _ => ?_))
   | exact ih0 _ _ _ _ _ _ _
   | exact spec_psGood.mono _ _ _
   | exact spec_psIf.mono _ _ _
   | exact spec_psSame.mono _ _ _ _ _ _ _
   | exact LeO.none _
   | refine LeO.ite ?_ ?_
   | refine LeO.bind ?_ (fun _ => ?_)
theorem spec_LendParts.mono : ∀ a0 a1 a2 a3 a4 a5 k, LeO (spec_LendParts.f k a0 a1 a2 a3 a4 a5) (spec_LendParts.f (k + 1) a0 a1 a2 a3 a4 a5) := by
 intro a0 a1 a2 a3 a4 a5 k
 have ih0 := spec_LendParts.mono_l k
 unfold spec_LendParts.f
 repeat' first
   | (with_reducible exact ih0 _ _ _ _ _ _ _)
   | (with_reducible exact spec_psGood.mono _ _ _)
   | (with_reducible exact spec_psIf.mono _ _ _)
   | (with_reducible exact spec_psSame.mono _ _ _ _ _ _ _)
   | (with_reducible exact LeO.refl _)
   | (with_reducible exact LeO.none _)
   | (with_reducible refine LeO.ite ?_ ?_)
   | (with_reducible refine LeO.bind ?_ (fun _ => ?_))
   | exact ih0 _ _ _ _ _ _ _
   | exact spec_psGood.mono _ _ _
   | exact spec_psIf.mono _ _ _
   | exact spec_psSame.mono _ _ _ _ _ _ _
   | exact LeO.none _
   | refine LeO.ite ?_ ?_
   | refine LeO.bind ?_ (fun _ => ?_)
def spec_LendParts.T1 : Bool × List (List Nat × List Nat) := (true, [([], []), ([0], [0]), ([1], [1]), ([2, 1], [2]), ([3], [3]), ([4, 3, 3], [3, 4]), ([5, 3], [3, 5]), ([3, 6], [3, 6]), ([7, 5], [7]), ([8], [8]), ([9, 8], [8, 9]), ([8], [8]), ([11, 8], [8, 11]), ([10, 12, 8], [8, 10, 12]), ([13, 8], [8, 13]), ([8], [8]), ([15, 8], [8, 15]), ([14, 16, 8], [8, 14, 16]), ([8, 17], [8, 17])])
def spec_LendParts.B1 : List Nat := [0, 1, 3, 7, 15, 31, 63, 127, 255, 511, 1023, 511, 2559, 8191, 16383, 511, 33279, 131071, 262143]
theorem spec_LendParts.tab1 : rtab .any (opsOf Try.f16 1) = spec_LendParts.T1 := by kernel_rfl
theorem spec_LendParts.bits1 : waitsOk spec_LendParts.T1.2 spec_LendParts.B1 = true := by kernel_rfl
def spec_LendParts.T4 : Bool × List (List Nat × List Nat) := (true, [([], []), ([0], [0]), ([], []), ([2], [2]), ([1, 3], [1, 3]), ([4], [4]), ([], []), ([6], [6]), ([5, 7], [5, 7]), ([1, 3, 0, 1, 2, 3, 4, 5, 6, 7, 8], [1, 3]), ([9, 8, 0, 1, 2, 3, 4, 5, 6, 7, 8], [8, 9])])
def spec_LendParts.B4 : List Nat := [0, 1, 0, 4, 15, 31, 0, 64, 255, 511, 1023]
theorem spec_LendParts.tab4 : rtab .any (opsOf Try.f16 4) = spec_LendParts.T4 := by kernel_rfl
theorem spec_LendParts.bits4 : waitsOk spec_LendParts.T4.2 spec_LendParts.B4 = true := by kernel_rfl
def spec_LendParts.T7 : Bool × List (List Nat × List Nat) := (true, [([], []), ([0], [0]), ([], []), ([1, 2], [1, 2]), ([3], [3]), ([4], [4]), ([], []), ([6], [6]), ([5, 7], [5, 7]), ([1, 2, 0, 1, 2, 3, 4, 5, 6, 7, 8], [1, 2]), ([9, 0, 1, 2, 3, 4, 5, 6, 7, 8], [9]), ([10, 8, 0, 1, 2, 3, 4, 5, 6, 7, 8], [8, 10])])
def spec_LendParts.B7 : List Nat := [0, 1, 0, 7, 15, 31, 0, 64, 255, 511, 1023, 2047]
theorem spec_LendParts.tab7 : rtab .any (opsOf Try.f16 7) = spec_LendParts.T7 := by kernel_rfl
theorem spec_LendParts.bits7 : waitsOk spec_LendParts.T7.2 spec_LendParts.B7 = true := by kernel_rfl
set_option maxHeartbeats 8000000 in
set_option maxRecDepth 100000 in
theorem spec_LendParts.calls (k : Nat) (A0_0 : Option Addr) (c0_0 : Nat) (l0_0 : List Int) (A0_1 : Option Addr) (c0_1 : Nat) (l0_1 : List (S41)) (a1_0 : Int) (a1_1 : Int) (a1_2 : Int) (a1_3 : Int) (r1 : List Int) (r2 : List (S41)) (r3 : Bool) (w : World) (hr0_0 : Kd.C (Kd.int .i64) w A0_0 l0_0.length l0_0) (hc0_0 : l0_0.length ≤ c0_0) (hr0_1 : Kd.C k41 w A0_1 l0_1.length l0_1) (hc0_1 : l0_1.length ≤ c0_1) (h : spec_LendParts.f k l0_0 l0_1 a1_0 a1_1 a1_2 a1_3 = some (r1, r2, r3)) :
  Calls Try.prog 16 #[.agg #[.slice A0_0 l0_0.length c0_0, .slice A0_1 l0_1.length c0_1], .agg #[.int .i64 a1_0, .int .i64 a1_1, .int .i64 a1_2, .int .i64 a1_3]] w fun e w' => ∃ v0_ v1_ : Value, e = .returned (.tuple #[.agg #[v0_, v1_], .bool r3]) ∧ Kd.R (Kd.int .i64) 3 w' w.heap.size (fun _ => True) v0_ r1 ∧ Kd.R k41 41 w' w.heap.size (fun _ => True) v1_ r2 ∧ Below w.heap.size w w' := by
 have hu29 := Try.underlying29
 have hu41 := Try.underlying41
 have HR0_0 := Aside0.mk hr0_0
 have HC0_0 := Aside0.mk hc0_0
 clear hr0_0 hc0_0
 have HR0_1 := Aside0.mk hr0_1
 have HC0_1 := Aside0.mk hc0_1
 clear hr0_1 hc0_1
 have HB := Aside0.mk (Below.refl w.heap.size w)
 have H : ((spec_psGood.f k l0_0 l0_1).bind fun t383 => (if t383 = true then ((spec_psLoan.f a1_0 a1_1 a1_2 a1_3).bind fun t384 => (if t384 = true then (if 0 ≤ a1_1 then (if a1_1 < (l0_0.length : Int) then (spec_LendParts.j0 k (decide ((rd l0_0 a1_1) < a1_2)) l0_0 l0_1 a1_0 a1_1 a1_2 a1_3) else (none)) else (none)) else (spec_LendParts.j0 k true l0_0 l0_1 a1_0 a1_1 a1_2 a1_3))) else (spec_LendParts.j0 k true l0_0 l0_1 a1_0 a1_1 a1_2 a1_3))) = some (r1, r2, r3) := h
 clear h
 have HC3 := Aside0.mk H
 clear H
 go_enter Try.func16, Try.ntmps16
 go_upto_region 1 with (first | ((with_reducible refine gate_dst (N := 2) rfl ?_); refine box_event ?hg (N := 2) ?hd (cs := #[.slice A0_0 l0_0.length c0_0, .slice A0_1 l0_1.length c0_1]) (t := 29) ?hr ?_; (case hd => rfl); (case hg => rfl); (case hr => first | (go_simp; done) | (go_simp; rfl)); intro gb380 hg w4 hbox hb; have BK380 := Aside0.mk (hbox); have GE380 := Aside0.mk (gq hg); replace HB := sb hb; clear hb hbox hg) | ((with_reducible refine gate_dst (N := 3) rfl ?_); refine box_event ?hg (N := 3) ?hd (cs := #[.int .i64 a1_0, .int .i64 a1_1, .int .i64 a1_2, .int .i64 a1_3]) (t := 41) ?hr ?_; (case hd => rfl); (case hg => rfl); (case hr => first | (go_simp; done) | (go_simp; rfl)); intro gb381 hg w5 hbox hb; have BK381 := Aside0.mk (hbox); have GE381 := Aside0.mk (gq hg); replace HB := sb hb; have NB380_381 := nl hg BK380; have NB381_380 := ng hg BK380; replace BK380 := zb BK380 hb; clear hb hbox hg) | ((with_reducible refine gate_dst (N := 4) rfl ?_); refine box_event ?hg (N := 4) ?hd (cs := #[.slice none 0 0, .slice none 0 0]) (t := 29) ?hr ?_; (case hd => rfl); (case hg => rfl); (case hr => first | (go_simp; done) | (go_simp; rfl)); intro gb382 hg w6 hbox hb; have BK382 := Aside0.mk (hbox); have GE382 := Aside0.mk (gq hg); replace HB := sb hb; have NB380_382 := nl hg BK380; have NB382_380 := ng hg BK380; replace BK380 := zb BK380 hb; have NB381_382 := nl hg BK381; have NB382_381 := ng hg BK381; replace BK381 := zb BK381 hb; clear hb hbox hg))
 (try simp only [Act.put, List.setIfInBounds_toArray, List.set_cons_zero, List.set_cons_succ])
 go_cut [26] (fun v26 wc => ∃ (kq : Nat) (x26_2 : Bool), v26 = .bool x26_2 ∧ Aside0 (spec_LendParts.j0 kq x26_2 l0_0 l0_1 a1_0 a1_1 a1_2 a1_3 = some (r1, r2, r3)) ∧ Aside0 (kq ≤ k) ∧ Aside0 (wc.heap[gb380]? = some (.cells #[(.slice A0_0 l0_0.length c0_0), (.slice A0_1 l0_1.length c0_1)] 29 (0, 0))) ∧ Aside0 (wc.heap[gb381]? = some (.cells #[.int .i64 a1_0, .int .i64 a1_1, .int .i64 a1_2, .int .i64 a1_3] 41 (0, 0))) ∧ Aside0 (wc.heap[gb382]? = some (.cells #[(.slice none 0 0), (.slice none 0 0)] 29 (0, 0))) ∧ Aside0 (Below w.heap.size w wc))
 case first =>
  have H := HC3.out
  clear HC3
  replace H := Option.bind_eq_some_iff.mp H
  obtain ⟨t383, A70, H⟩ := H
  replace H : (if t383 = true then ((spec_psLoan.f a1_0 a1_1 a1_2 a1_3).bind fun t384 => (if t384 = true then (if 0 ≤ a1_1 then (if a1_1 < (l0_0.length : Int) then (spec_LendParts.j0 k (decide ((rd l0_0 a1_1) < a1_2)) l0_0 l0_1 a1_0 a1_1 a1_2 a1_3) else (none)) else (none)) else (spec_LendParts.j0 k true l0_0 l0_1 a1_0 a1_1 a1_2 a1_3))) else (spec_LendParts.j0 k true l0_0 l0_1 a1_0 a1_1 a1_2 a1_3)) = some (r1, r2, r3) := H
  have A7 := Aside0.mk A70
  clear A70
  by_cases c8 : t383 = true
  ·subst c8
   have H1 : ((spec_psLoan.f a1_0 a1_1 a1_2 a1_3).bind fun t384 => (if t384 = true then (if 0 ≤ a1_1 then (if a1_1 < (l0_0.length : Int) then (spec_LendParts.j0 k (decide ((rd l0_0 a1_1) < a1_2)) l0_0 l0_1 a1_0 a1_1 a1_2 a1_3) else (none)) else (none)) else (spec_LendParts.j0 k true l0_0 l0_1 a1_0 a1_1 a1_2 a1_3))) = some (r1, r2, r3) := by rw [if_pos rfl] at H; exact H
   clear H
   have H := H1
   clear H1
   replace H := Option.bind_eq_some_iff.mp H
   obtain ⟨t384, A90, H⟩ := H
   replace H : (if t384 = true then (if 0 ≤ a1_1 then (if a1_1 < (l0_0.length : Int) then (spec_LendParts.j0 k (decide ((rd l0_0 a1_1) < a1_2)) l0_0 l0_1 a1_0 a1_1 a1_2 a1_3) else (none)) else (none)) else (spec_LendParts.j0 k true l0_0 l0_1 a1_0 a1_1 a1_2 a1_3)) = some (r1, r2, r3) := H
   have A9 := Aside0.mk A90
   clear A90
   by_cases c10 : t384 = true
   ·subst c10
    have H1 : (if 0 ≤ a1_1 then (if a1_1 < (l0_0.length : Int) then (spec_LendParts.j0 k (decide ((rd l0_0 a1_1) < a1_2)) l0_0 l0_1 a1_0 a1_1 a1_2 a1_3) else (none)) else (none)) = some (r1, r2, r3) := by rw [if_pos rfl] at H; exact H
    clear H
    have H := H1
    clear H1
    by_cases c11 : 0 ≤ a1_1
    ·rw [if_pos c11] at H
     have c11b0 : decide (0 ≤ a1_1) = true := decide_eq_true c11
     clear c11
     (first | rw [c11b0] | (simp only [i64_w, i32_w]; rw [c11b0]) | skip)
     by_cases c12 : a1_1 < (l0_0.length : Int)
     ·rw [if_pos c12] at H
      have c12b0 : decide (a1_1 < (l0_0.length : Int)) = true := decide_eq_true c12
      clear c12
      have H' := Aside0.mk H
      clear H
      try go_wp2
      replace BK380 := Aside0.mk (blk_drew BK380.out)
      replace BK381 := Aside0.mk (blk_drew BK381.out)
      replace BK382 := Aside0.mk (blk_drew BK382.out)
      replace HB := Aside0.mk (below_drew1 HB.out)
      have p385 : 0 ≤ (a1_1 : Int) := of_decide_eq_true aq
      have q385 : a1_1 < (l0_0.length : Int) := of_decide_eq_true aq
      obtain ⟨ad385, e385, hx385_0⟩ := Kd.at_int HR0_0.out a1_1 p385 q385
      have hw385_0 := hx385_0
      cases e385
      replace hx385_0 := (HB.out.cell (World.block_lt_of_cell? w _ hx385_0)).trans hx385_0
      replace p385 := eq_true p385
      replace q385 := eq_true q385
      refine start_ (n := 19) (S := fun w' => w'.cell? ⟨gb380, 0, none⟩ = some (.slice (some ad385) l0_0.length c0_0) ∧ w'.cell? ⟨gb380, 1, none⟩ = some (.slice A0_1 l0_1.length c0_1) ∧ w'.cell? ⟨gb381, 0, none⟩ = some (.int .i64 a1_0) ∧ w'.cell? ⟨gb381, 1, none⟩ = some (.int .i64 a1_1) ∧ w'.cell? ⟨gb381, 2, none⟩ = some (.int .i64 a1_2) ∧ w'.cell? ⟨gb381, 3, none⟩ = some (.int .i64 a1_3) ∧ w'.cell? (ad385.add (a1_1).toNat) = some (.int .i64 (rd l0_0 a1_1))) (ds := []) #[false, false, false, false, false, false, false, false, false, false, false, false, false, false, false, false, false, false, false] (by kernel_rfl) rfl rfl ⟨(blk_cell BK380.out 0).trans rfl, (blk_cell BK380.out 1).trans rfl, (blk_cell BK381.out 0).trans rfl, (blk_cell BK381.out 1).trans rfl, (blk_cell BK381.out 2).trans rfl, (blk_cell BK381.out 3).trans rfl, ((HB.out.cell (World.block_lt_of_cell? w _ hw385_0)).trans hw385_0)⟩ (fun hHeld => ?_); refine with_tabW spec_LendParts.tab1 spec_LendParts.bits1 (fun HT_ HW_ => ?_)
      generalize w6.drew = w13 at BK380 BK381 BK382 HB hx385_0 hHeld ⊢
      refine take_ (i := 0) (N := some 8) (v := ?_) (a' := ?_) #[true, false, false, false, false, false, false, false, false, false, false, false, false, false, false, false, false, false, false] rfl rfl (take_ofW HT_.out HW_.out (by kernel_rfl)) (fun _ _ _ h => h) (Or.inl ⟨by rfl, ?_⟩) hHeld ?_ ?_
      rotate_left
      ·rintro w' ⟨s0, s1, s2, s3, s4, s5, s6⟩
       go_simp
       with_reducible rfl
      rotate_left
      ·simp only [Act.put, List.setIfInBounds_toArray, List.set_cons_zero, List.set_cons_succ, i64_w, i32_w]
       rfl
      refine one_ (i := 1) (N := some 9) #[true, true, false, false, false, false, false, false, false, false, false, false, false, false, false, false, false, false, false] rfl rfl (one_of HT_.out (by kernel_rfl)) (by decide) (fun K hK => ?_)
      refine goes_ Try.func39 (by kernel_rfl) rfl #[.agg #[.slice (some ad385) l0_0.length c0_0, .slice A0_1 l0_1.length c0_1]] (by rfl) rfl rfl mq ?_
      with_reducible refine (spec_psGood.calls k _ _ l0_0 _ _ l0_1 true _ ?s1 ?s2 ?s3 ?s4 A7.out).mono ?_
      (case s1 => exact cq (Kd.C_below HR0_0.out HB.out))
      (case s2 => exact HC0_0.out)
      (case s3 => exact cq (Kd.C_below HR0_1.out HB.out))
      (case s4 => exact HC0_1.out)
      rintro e w14 ⟨rfl, hb⟩
      refine ⟨_, rfl, ?_⟩
      replace BK380 := zb BK380 hb
      replace BK381 := zb BK381 hb
      replace BK382 := zb BK382 hb
      replace HB := sb hb
      (try clear hb)
      refine hK.out _ _ ⟨(blk_cell BK380.out 0).trans rfl, (blk_cell BK380.out 1).trans rfl, (blk_cell BK381.out 0).trans rfl, (blk_cell BK381.out 1).trans rfl, (blk_cell BK381.out 2).trans rfl, (blk_cell BK381.out 3).trans rfl, ((HB.out.cell (World.block_lt_of_cell? w _ hw385_0)).trans hw385_0)⟩ (fun hHeld => ?_)
      clear hK K
      refine norm_ (a' := ?_) ?_ ?_
      rotate_left
      ·show Act.put _ (some 9) _ = _
       simp only [Act.put, List.setIfInBounds_toArray, List.set_cons_zero, List.set_cons_succ, i64_w, i32_w]
       rfl
      refine pure_ (i := 2) (N := some 10) (v := ?_) (a' := ?_) #[true, true, true, false, false, false, false, false, false, false, false, false, false, false, false, false, false, false, false] rfl rfl (any_of HT_.out (by kernel_rfl)) (fun _ _ _ h => h) (Or.inl ⟨by rfl, ?_⟩) ?_ ?_
      rotate_left
      ·intro w'
       go_simp
       with_reducible rfl
      rotate_left
      ·simp only [Act.put, List.setIfInBounds_toArray, List.set_cons_zero, List.set_cons_succ, i64_w, i32_w]
       rfl
      refine pure_ (i := 3) (N := some 11) (v := ?_) (a' := ?_) #[true, true, true, true, false, false, false, false, false, false, false, false, false, false, false, false, false, false, false] rfl rfl (any_of HT_.out (by kernel_rfl)) (fun _ _ _ h => h) (Or.inl ⟨by rfl, ?_⟩) ?_ ?_
      rotate_left
      ·intro w'
       go_simp
       with_reducible rfl
      rotate_left
      ·simp only [Act.put, List.setIfInBounds_toArray, List.set_cons_zero, List.set_cons_succ, i64_w, i32_w]
       rfl
      refine take_ (i := 4) (N := some 12) (v := ?_) (a' := ?_) #[true, true, true, true, true, false, false, false, false, false, false, false, false, false, false, false, false, false, false] rfl rfl (take_ofW HT_.out HW_.out (by kernel_rfl)) (fun _ _ _ h => h) (Or.inl ⟨by rfl, ?_⟩) hHeld ?_ ?_
      rotate_left
      ·rintro w' ⟨s0, s1, s2, s3, s4, s5, s6⟩
       go_simp
       with_reducible rfl
      rotate_left
      ·simp only [Act.put, List.setIfInBounds_toArray, List.set_cons_zero, List.set_cons_succ, i64_w, i32_w]
       rfl
      refine one_ (i := 5) (N := some 13) #[true, true, true, true, true, true, false, false, false, false, false, false, false, false, false, false, false, false, false] rfl rfl (one_of HT_.out (by kernel_rfl)) (by decide) (fun K hK => ?_)
      refine goes_ Try.func40 (by kernel_rfl) rfl #[.agg #[.int .i64 a1_0, .int .i64 a1_1, .int .i64 a1_2, .int .i64 a1_3]] (by rfl) rfl rfl mq ?_
      with_reducible refine (spec_psLoan.calls a1_0 a1_1 a1_2 a1_3 true _ A9.out).mono ?_
      rintro e w15 ⟨rfl, hb⟩
      refine ⟨_, rfl, ?_⟩
      replace BK380 := zb BK380 hb
      replace BK381 := zb BK381 hb
      replace BK382 := zb BK382 hb
      replace HB := sb hb
      (try clear hb)
      refine hK.out _ _ ⟨(blk_cell BK380.out 0).trans rfl, (blk_cell BK380.out 1).trans rfl, (blk_cell BK381.out 0).trans rfl, (blk_cell BK381.out 1).trans rfl, (blk_cell BK381.out 2).trans rfl, (blk_cell BK381.out 3).trans rfl, ((HB.out.cell (World.block_lt_of_cell? w _ hw385_0)).trans hw385_0)⟩ (fun hHeld => ?_)
      clear hK K
      refine norm_ (a' := ?_) ?_ ?_
      rotate_left
      ·show Act.put _ (some 13) _ = _
       simp only [Act.put, List.setIfInBounds_toArray, List.set_cons_zero, List.set_cons_succ, i64_w, i32_w]
       rfl
      refine pure_ (i := 6) (N := some 14) (v := ?_) (a' := ?_) #[true, true, true, true, true, true, true, false, false, false, false, false, false, false, false, false, false, false, false] rfl rfl (any_of HT_.out (by kernel_rfl)) (fun _ _ _ h => h) (Or.inl ⟨by rfl, ?_⟩) ?_ ?_
      rotate_left
      ·intro w'
       go_simp
       with_reducible rfl
      rotate_left
      ·simp only [Act.put, List.setIfInBounds_toArray, List.set_cons_zero, List.set_cons_succ, i64_w, i32_w]
       rfl
      refine pure_ (i := 7) (N := some 15) (v := ?_) (a' := ?_) #[true, true, true, true, true, true, true, true, false, false, false, false, false, false, false, false, false, false, false] rfl rfl (any_of HT_.out (by kernel_rfl)) (fun _ _ _ h => h) (Or.inl ⟨by rfl, ?_⟩) ?_ ?_
      rotate_left
      ·intro w'
       go_simp
       with_reducible rfl
      rotate_left
      ·simp only [Act.put, List.setIfInBounds_toArray, List.set_cons_zero, List.set_cons_succ, i64_w, i32_w]
       rfl
      refine pure_ (i := 8) (N := some 16) (v := ?_) (a' := ?_) #[true, true, true, true, true, true, true, true, true, false, false, false, false, false, false, false, false, false, false] rfl rfl (any_of HT_.out (by kernel_rfl)) (fun _ _ _ h => h) (Or.inl ⟨by rfl, ?_⟩) ?_ ?_
      rotate_left
      ·intro w'
       go_simp
       with_reducible rfl
      rotate_left
      ·simp only [Act.put, List.setIfInBounds_toArray, List.set_cons_zero, List.set_cons_succ, i64_w, i32_w]
       rfl
      refine pure_ (i := 9) (N := some 17) (v := ?_) (a' := ?_) #[true, true, true, true, true, true, true, true, true, true, false, false, false, false, false, false, false, false, false] rfl rfl (any_of HT_.out (by kernel_rfl)) (fun _ _ _ h => h) (Or.inl ⟨by rfl, ?_⟩) ?_ ?_
      rotate_left
      ·intro w'
       go_simp
       with_reducible rfl
      rotate_left
      ·simp only [Act.put, List.setIfInBounds_toArray, List.set_cons_zero, List.set_cons_succ, i64_w, i32_w]
       rfl
      refine pure_ (i := 11) (N := some 19) (v := ?_) (a' := ?_) #[true, true, true, true, true, true, true, true, true, true, false, true, false, false, false, false, false, false, false] rfl rfl (any_of HT_.out (by kernel_rfl)) (fun _ _ _ h => h) (Or.inl ⟨by rfl, ?_⟩) ?_ ?_
      rotate_left
      ·intro w'
       go_simp
       with_reducible rfl
      rotate_left
      ·simp only [Act.put, List.setIfInBounds_toArray, List.set_cons_zero, List.set_cons_succ, i64_w, i32_w]
       rfl
      refine pure_ (i := 15) (N := some 23) (v := ?_) (a' := ?_) #[true, true, true, true, true, true, true, true, true, true, false, true, false, false, false, true, false, false, false] rfl rfl (any_of HT_.out (by kernel_rfl)) (fun _ _ _ h => h) (Or.inl ⟨by rfl, ?_⟩) ?_ ?_
      rotate_left
      ·intro w'
       go_simp
       with_reducible rfl
      rotate_left
      ·simp only [Act.put, List.setIfInBounds_toArray, List.set_cons_zero, List.set_cons_succ, i64_w, i32_w]
       rfl
      refine take_ (i := 10) (N := some 18) (v := ?_) (a' := ?_) #[true, true, true, true, true, true, true, true, true, true, true, true, false, false, false, true, false, false, false] rfl rfl (take_ofW HT_.out HW_.out (by kernel_rfl)) (fun _ _ _ h => h) (Or.inl ⟨by rfl, ?_⟩) hHeld ?_ ?_
      rotate_left
      ·rintro w' ⟨s0, s1, s2, s3, s4, s5, s6⟩
       go_simp
       with_reducible rfl
      rotate_left
      ·simp only [Act.put, List.setIfInBounds_toArray, List.set_cons_zero, List.set_cons_succ, i64_w, i32_w]
       rfl
      refine take_ (i := 12) (N := some 20) (v := ?_) (a' := ?_) #[true, true, true, true, true, true, true, true, true, true, true, true, true, false, false, true, false, false, false] rfl rfl (take_ofW HT_.out HW_.out (by kernel_rfl)) (fun _ _ _ h => h) (Or.inl ⟨by rfl, ?_⟩) hHeld ?_ ?_
      rotate_left
      ·rintro w' ⟨s0, s1, s2, s3, s4, s5, s6⟩
       go_simp
       with_reducible rfl
      rotate_left
      ·simp only [Act.put, List.setIfInBounds_toArray, List.set_cons_zero, List.set_cons_succ, i64_w, i32_w]
       rfl
      refine pure_ (i := 13) (N := some 21) (v := ?_) (a' := ?_) #[true, true, true, true, true, true, true, true, true, true, true, true, true, true, false, true, false, false, false] rfl rfl (any_of HT_.out (by kernel_rfl)) (fun _ _ _ h => h) (Or.inl ⟨by rfl, ?_⟩) ?_ ?_
      rotate_left
      ·intro w'
       go_simp
       with_reducible rfl
      rotate_left
      ·simp only [Act.put, List.setIfInBounds_toArray, List.set_cons_zero, List.set_cons_succ, i64_w, i32_w]
       rfl
      refine take_ (i := 14) (N := some 22) (v := ?_) (a' := ?_) #[true, true, true, true, true, true, true, true, true, true, true, true, true, true, true, true, false, false, false] rfl rfl (take_ofW HT_.out HW_.out (by kernel_rfl)) (fun _ _ _ h => h) (Or.inl ⟨by rfl, ?_⟩) hHeld ?_ ?_
      rotate_left
      ·rintro w' ⟨s0, s1, s2, s3, s4, s5, s6⟩
       go_simp
       with_reducible rfl
      rotate_left
      ·simp only [Act.put, List.setIfInBounds_toArray, List.set_cons_zero, List.set_cons_succ, i64_w, i32_w]
       rfl
      refine take_ (i := 16) (N := some 24) (v := ?_) (a' := ?_) #[true, true, true, true, true, true, true, true, true, true, true, true, true, true, true, true, true, false, false] rfl rfl (take_ofW HT_.out HW_.out (by kernel_rfl)) (fun _ _ _ h => h) (Or.inl ⟨by rfl, ?_⟩) hHeld ?_ ?_
      rotate_left
      ·rintro w' ⟨s0, s1, s2, s3, s4, s5, s6⟩
       go_simp
       with_reducible rfl
      rotate_left
      ·simp only [Act.put, List.setIfInBounds_toArray, List.set_cons_zero, List.set_cons_succ, i64_w, i32_w]
       rfl
      refine pure_ (i := 17) (N := some 25) (v := ?_) (a' := ?_) #[true, true, true, true, true, true, true, true, true, true, true, true, true, true, true, true, true, true, false] rfl rfl (any_of HT_.out (by kernel_rfl)) (fun _ _ _ h => h) (Or.inl ⟨by rfl, ?_⟩) ?_ ?_
      rotate_left
      ·intro w'
       go_simp
       with_reducible rfl
      rotate_left
      ·simp only [Act.put, List.setIfInBounds_toArray, List.set_cons_zero, List.set_cons_succ, i64_w, i32_w]
       rfl
      refine pure_ (i := 18) (N := some 26) (v := ?_) (a' := ?_) #[true, true, true, true, true, true, true, true, true, true, true, true, true, true, true, true, true, true, true] rfl rfl (any_of HT_.out (by kernel_rfl)) (fun _ _ _ h => h) (Or.inl ⟨by rfl, ?_⟩) ?_ ?_
      rotate_left
      ·intro w'
       go_simp
       with_reducible rfl
      rotate_left
      ·simp only [Act.put, List.setIfInBounds_toArray, List.set_cons_zero, List.set_cons_succ, i64_w, i32_w]
       rfl
      refine done_ (done_of HT_.out (by kernel_rfl)) ?_
      try go_wp2
      go_meet
      case rel => exact ⟨_, (decide ((rd l0_0 a1_1) < a1_2)), sq, H', ⟨by first | omega | exact Nat.le_refl _⟩, ⟨zq BK380⟩, ⟨zq BK381⟩, ⟨zq BK382⟩, ⟨bq⟩⟩
     ·rw [if_neg c12] at H
      exact absurd H (by simp)
    ·rw [if_neg c11] at H
     exact absurd H (by simp)
   ·replace c10 := Bool.eq_false_iff.mpr c10
    subst c10
    have H1 : (spec_LendParts.j0 k true l0_0 l0_1 a1_0 a1_1 a1_2 a1_3) = some (r1, r2, r3) := by rw [if_neg (show ¬ (false = true) by decide)] at H; exact H
    clear H
    have H := H1
    clear H1
    have H' := Aside0.mk H
    clear H
    try go_wp2
    replace BK380 := Aside0.mk (blk_drew BK380.out)
    replace BK381 := Aside0.mk (blk_drew BK381.out)
    replace BK382 := Aside0.mk (blk_drew BK382.out)
    replace HB := Aside0.mk (below_drew1 HB.out)
    refine start_ (n := 19) (S := fun w' => w'.cell? ⟨gb380, 0, none⟩ = some (.slice A0_0 l0_0.length c0_0) ∧ w'.cell? ⟨gb380, 1, none⟩ = some (.slice A0_1 l0_1.length c0_1) ∧ w'.cell? ⟨gb381, 0, none⟩ = some (.int .i64 a1_0) ∧ w'.cell? ⟨gb381, 1, none⟩ = some (.int .i64 a1_1) ∧ w'.cell? ⟨gb381, 2, none⟩ = some (.int .i64 a1_2) ∧ w'.cell? ⟨gb381, 3, none⟩ = some (.int .i64 a1_3)) (ds := []) #[false, false, false, false, false, false, false, false, false, false, false, false, false, false, false, false, false, false, false] (by kernel_rfl) rfl rfl ⟨(blk_cell BK380.out 0).trans rfl, (blk_cell BK380.out 1).trans rfl, (blk_cell BK381.out 0).trans rfl, (blk_cell BK381.out 1).trans rfl, (blk_cell BK381.out 2).trans rfl, (blk_cell BK381.out 3).trans rfl⟩ (fun hHeld => ?_); refine with_tabW spec_LendParts.tab1 spec_LendParts.bits1 (fun HT_ HW_ => ?_)
    generalize w6.drew = w16 at BK380 BK381 BK382 HB hHeld ⊢
    refine take_ (i := 0) (N := some 8) (v := ?_) (a' := ?_) #[true, false, false, false, false, false, false, false, false, false, false, false, false, false, false, false, false, false, false] rfl rfl (take_ofW HT_.out HW_.out (by kernel_rfl)) (fun _ _ _ h => h) (Or.inl ⟨by rfl, ?_⟩) hHeld ?_ ?_
    rotate_left
    ·rintro w' ⟨s0, s1, s2, s3, s4, s5⟩
     go_simp
     with_reducible rfl
    rotate_left
    ·simp only [Act.put, List.setIfInBounds_toArray, List.set_cons_zero, List.set_cons_succ, i64_w, i32_w]
     rfl
    refine one_ (i := 1) (N := some 9) #[true, true, false, false, false, false, false, false, false, false, false, false, false, false, false, false, false, false, false] rfl rfl (one_of HT_.out (by kernel_rfl)) (by decide) (fun K hK => ?_)
    refine goes_ Try.func39 (by kernel_rfl) rfl #[.agg #[.slice A0_0 l0_0.length c0_0, .slice A0_1 l0_1.length c0_1]] (by rfl) rfl rfl mq ?_
    with_reducible refine (spec_psGood.calls k _ _ l0_0 _ _ l0_1 true _ ?s1 ?s2 ?s3 ?s4 A7.out).mono ?_
    (case s1 => exact cq (Kd.C_below HR0_0.out HB.out))
    (case s2 => exact HC0_0.out)
    (case s3 => exact cq (Kd.C_below HR0_1.out HB.out))
    (case s4 => exact HC0_1.out)
    rintro e w17 ⟨rfl, hb⟩
    refine ⟨_, rfl, ?_⟩
    replace BK380 := zb BK380 hb
    replace BK381 := zb BK381 hb
    replace BK382 := zb BK382 hb
    replace HB := sb hb
    (try clear hb)
    refine hK.out _ _ ⟨(blk_cell BK380.out 0).trans rfl, (blk_cell BK380.out 1).trans rfl, (blk_cell BK381.out 0).trans rfl, (blk_cell BK381.out 1).trans rfl, (blk_cell BK381.out 2).trans rfl, (blk_cell BK381.out 3).trans rfl⟩ (fun hHeld => ?_)
    clear hK K
    refine norm_ (a' := ?_) ?_ ?_
    rotate_left
    ·show Act.put _ (some 9) _ = _
     simp only [Act.put, List.setIfInBounds_toArray, List.set_cons_zero, List.set_cons_succ, i64_w, i32_w]
     rfl
    refine pure_ (i := 2) (N := some 10) (v := ?_) (a' := ?_) #[true, true, true, false, false, false, false, false, false, false, false, false, false, false, false, false, false, false, false] rfl rfl (any_of HT_.out (by kernel_rfl)) (fun _ _ _ h => h) (Or.inl ⟨by rfl, ?_⟩) ?_ ?_
    rotate_left
    ·intro w'
     go_simp
     with_reducible rfl
    rotate_left
    ·simp only [Act.put, List.setIfInBounds_toArray, List.set_cons_zero, List.set_cons_succ, i64_w, i32_w]
     rfl
    refine pure_ (i := 3) (N := some 11) (v := ?_) (a' := ?_) #[true, true, true, true, false, false, false, false, false, false, false, false, false, false, false, false, false, false, false] rfl rfl (any_of HT_.out (by kernel_rfl)) (fun _ _ _ h => h) (Or.inl ⟨by rfl, ?_⟩) ?_ ?_
    rotate_left
    ·intro w'
     go_simp
     with_reducible rfl
    rotate_left
    ·simp only [Act.put, List.setIfInBounds_toArray, List.set_cons_zero, List.set_cons_succ, i64_w, i32_w]
     rfl
    refine take_ (i := 4) (N := some 12) (v := ?_) (a' := ?_) #[true, true, true, true, true, false, false, false, false, false, false, false, false, false, false, false, false, false, false] rfl rfl (take_ofW HT_.out HW_.out (by kernel_rfl)) (fun _ _ _ h => h) (Or.inl ⟨by rfl, ?_⟩) hHeld ?_ ?_
    rotate_left
    ·rintro w' ⟨s0, s1, s2, s3, s4, s5⟩
     go_simp
     with_reducible rfl
    rotate_left
    ·simp only [Act.put, List.setIfInBounds_toArray, List.set_cons_zero, List.set_cons_succ, i64_w, i32_w]
     rfl
    refine one_ (i := 5) (N := some 13) #[true, true, true, true, true, true, false, false, false, false, false, false, false, false, false, false, false, false, false] rfl rfl (one_of HT_.out (by kernel_rfl)) (by decide) (fun K hK => ?_)
    refine goes_ Try.func40 (by kernel_rfl) rfl #[.agg #[.int .i64 a1_0, .int .i64 a1_1, .int .i64 a1_2, .int .i64 a1_3]] (by rfl) rfl rfl mq ?_
    with_reducible refine (spec_psLoan.calls a1_0 a1_1 a1_2 a1_3 false _ A9.out).mono ?_
    rintro e w18 ⟨rfl, hb⟩
    refine ⟨_, rfl, ?_⟩
    replace BK380 := zb BK380 hb
    replace BK381 := zb BK381 hb
    replace BK382 := zb BK382 hb
    replace HB := sb hb
    (try clear hb)
    refine hK.out _ _ ⟨(blk_cell BK380.out 0).trans rfl, (blk_cell BK380.out 1).trans rfl, (blk_cell BK381.out 0).trans rfl, (blk_cell BK381.out 1).trans rfl, (blk_cell BK381.out 2).trans rfl, (blk_cell BK381.out 3).trans rfl⟩ (fun hHeld => ?_)
    clear hK K
    refine norm_ (a' := ?_) ?_ ?_
    rotate_left
    ·show Act.put _ (some 13) _ = _
     simp only [Act.put, List.setIfInBounds_toArray, List.set_cons_zero, List.set_cons_succ, i64_w, i32_w]
     rfl
    refine pure_ (i := 6) (N := some 14) (v := ?_) (a' := ?_) #[true, true, true, true, true, true, true, false, false, false, false, false, false, false, false, false, false, false, false] rfl rfl (any_of HT_.out (by kernel_rfl)) (fun _ _ _ h => h) (Or.inl ⟨by rfl, ?_⟩) ?_ ?_
    rotate_left
    ·intro w'
     go_simp
     with_reducible rfl
    rotate_left
    ·simp only [Act.put, List.setIfInBounds_toArray, List.set_cons_zero, List.set_cons_succ, i64_w, i32_w]
     rfl
    refine pure_ (i := 7) (N := some 15) (v := ?_) (a' := ?_) #[true, true, true, true, true, true, true, true, false, false, false, false, false, false, false, false, false, false, false] rfl rfl (any_of HT_.out (by kernel_rfl)) (fun _ _ _ h => h) (Or.inl ⟨by rfl, ?_⟩) ?_ ?_
    rotate_left
    ·intro w'
     go_simp
     with_reducible rfl
    rotate_left
    ·simp only [Act.put, List.setIfInBounds_toArray, List.set_cons_zero, List.set_cons_succ, i64_w, i32_w]
     rfl
    refine pure_ (i := 8) (N := some 16) (v := ?_) (a' := ?_) #[true, true, true, true, true, true, true, true, true, false, false, false, false, false, false, false, false, false, false] rfl rfl (any_of HT_.out (by kernel_rfl)) (fun _ _ _ h => h) (Or.inl ⟨by rfl, ?_⟩) ?_ ?_
    rotate_left
    ·intro w'
     go_simp
     with_reducible rfl
    rotate_left
    ·simp only [Act.put, List.setIfInBounds_toArray, List.set_cons_zero, List.set_cons_succ, i64_w, i32_w]
     rfl
    refine pure_ (i := 9) (N := some 17) (v := undef) (a' := ?_) #[true, true, true, true, true, true, true, true, true, true, false, false, false, false, false, false, false, false, false] rfl rfl (any_of HT_.out (by kernel_rfl)) (fun _ _ _ h => h) (Or.inr ⟨by rfl, rfl⟩) ?_ ?_
    rotate_left
    ·simp only [Act.put, List.setIfInBounds_toArray, List.set_cons_zero, List.set_cons_succ, i64_w, i32_w]
     rfl
    refine pure_ (i := 10) (N := some 18) (v := undef) (a' := ?_) #[true, true, true, true, true, true, true, true, true, true, true, false, false, false, false, false, false, false, false] rfl rfl (any_of HT_.out (by kernel_rfl)) (fun _ _ _ h => h) (Or.inr ⟨by rfl, rfl⟩) ?_ ?_
    rotate_left
    ·simp only [Act.put, List.setIfInBounds_toArray, List.set_cons_zero, List.set_cons_succ, i64_w, i32_w]
     rfl
    refine pure_ (i := 11) (N := some 19) (v := undef) (a' := ?_) #[true, true, true, true, true, true, true, true, true, true, true, true, false, false, false, false, false, false, false] rfl rfl (any_of HT_.out (by kernel_rfl)) (fun _ _ _ h => h) (Or.inr ⟨by rfl, rfl⟩) ?_ ?_
    rotate_left
    ·simp only [Act.put, List.setIfInBounds_toArray, List.set_cons_zero, List.set_cons_succ, i64_w, i32_w]
     rfl
    refine pure_ (i := 12) (N := some 20) (v := undef) (a' := ?_) #[true, true, true, true, true, true, true, true, true, true, true, true, true, false, false, false, false, false, false] rfl rfl (any_of HT_.out (by kernel_rfl)) (fun _ _ _ h => h) (Or.inr ⟨by rfl, rfl⟩) ?_ ?_
    rotate_left
    ·simp only [Act.put, List.setIfInBounds_toArray, List.set_cons_zero, List.set_cons_succ, i64_w, i32_w]
     rfl
    refine pure_ (i := 13) (N := some 21) (v := undef) (a' := ?_) #[true, true, true, true, true, true, true, true, true, true, true, true, true, true, false, false, false, false, false] rfl rfl (any_of HT_.out (by kernel_rfl)) (fun _ _ _ h => h) (Or.inr ⟨by rfl, rfl⟩) ?_ ?_
    rotate_left
    ·simp only [Act.put, List.setIfInBounds_toArray, List.set_cons_zero, List.set_cons_succ, i64_w, i32_w]
     rfl
    refine pure_ (i := 14) (N := some 22) (v := undef) (a' := ?_) #[true, true, true, true, true, true, true, true, true, true, true, true, true, true, true, false, false, false, false] rfl rfl (any_of HT_.out (by kernel_rfl)) (fun _ _ _ h => h) (Or.inr ⟨by rfl, rfl⟩) ?_ ?_
    rotate_left
    ·simp only [Act.put, List.setIfInBounds_toArray, List.set_cons_zero, List.set_cons_succ, i64_w, i32_w]
     rfl
    refine pure_ (i := 15) (N := some 23) (v := undef) (a' := ?_) #[true, true, true, true, true, true, true, true, true, true, true, true, true, true, true, true, false, false, false] rfl rfl (any_of HT_.out (by kernel_rfl)) (fun _ _ _ h => h) (Or.inr ⟨by rfl, rfl⟩) ?_ ?_
    rotate_left
    ·simp only [Act.put, List.setIfInBounds_toArray, List.set_cons_zero, List.set_cons_succ, i64_w, i32_w]
     rfl
    refine pure_ (i := 16) (N := some 24) (v := undef) (a' := ?_) #[true, true, true, true, true, true, true, true, true, true, true, true, true, true, true, true, true, false, false] rfl rfl (any_of HT_.out (by kernel_rfl)) (fun _ _ _ h => h) (Or.inr ⟨by rfl, rfl⟩) ?_ ?_
    rotate_left
    ·simp only [Act.put, List.setIfInBounds_toArray, List.set_cons_zero, List.set_cons_succ, i64_w, i32_w]
     rfl
    refine pure_ (i := 17) (N := some 25) (v := undef) (a' := ?_) #[true, true, true, true, true, true, true, true, true, true, true, true, true, true, true, true, true, true, false] rfl rfl (any_of HT_.out (by kernel_rfl)) (fun _ _ _ h => h) (Or.inr ⟨by rfl, rfl⟩) ?_ ?_
    rotate_left
    ·simp only [Act.put, List.setIfInBounds_toArray, List.set_cons_zero, List.set_cons_succ, i64_w, i32_w]
     rfl
    refine pure_ (i := 18) (N := some 26) (v := ?_) (a' := ?_) #[true, true, true, true, true, true, true, true, true, true, true, true, true, true, true, true, true, true, true] rfl rfl (any_of HT_.out (by kernel_rfl)) (fun _ _ _ h => h) (Or.inl ⟨by rfl, ?_⟩) ?_ ?_
    rotate_left
    ·intro w'
     go_simp
     with_reducible rfl
    rotate_left
    ·simp only [Act.put, List.setIfInBounds_toArray, List.set_cons_zero, List.set_cons_succ, i64_w, i32_w]
     rfl
    refine done_ (done_of HT_.out (by kernel_rfl)) ?_
    try go_wp2
    go_meet
    case rel => exact ⟨_, (true), sq, H', ⟨by first | omega | exact Nat.le_refl _⟩, ⟨zq BK380⟩, ⟨zq BK381⟩, ⟨zq BK382⟩, ⟨bq⟩⟩
  ·replace c8 := Bool.eq_false_iff.mpr c8
   subst c8
   have H1 : (spec_LendParts.j0 k true l0_0 l0_1 a1_0 a1_1 a1_2 a1_3) = some (r1, r2, r3) := by rw [if_neg (show ¬ (false = true) by decide)] at H; exact H
   clear H
   have H := H1
   clear H1
   have H' := Aside0.mk H
   clear H
   try go_wp2
   replace BK380 := Aside0.mk (blk_drew BK380.out)
   replace BK381 := Aside0.mk (blk_drew BK381.out)
   replace BK382 := Aside0.mk (blk_drew BK382.out)
   replace HB := Aside0.mk (below_drew1 HB.out)
   refine start_ (n := 19) (S := fun w' => w'.cell? ⟨gb380, 0, none⟩ = some (.slice A0_0 l0_0.length c0_0) ∧ w'.cell? ⟨gb380, 1, none⟩ = some (.slice A0_1 l0_1.length c0_1)) (ds := []) #[false, false, false, false, false, false, false, false, false, false, false, false, false, false, false, false, false, false, false] (by kernel_rfl) rfl rfl ⟨(blk_cell BK380.out 0).trans rfl, (blk_cell BK380.out 1).trans rfl⟩ (fun hHeld => ?_); refine with_tabW spec_LendParts.tab1 spec_LendParts.bits1 (fun HT_ HW_ => ?_)
   generalize w6.drew = w19 at BK380 BK381 BK382 HB hHeld ⊢
   refine take_ (i := 0) (N := some 8) (v := ?_) (a' := ?_) #[true, false, false, false, false, false, false, false, false, false, false, false, false, false, false, false, false, false, false] rfl rfl (take_ofW HT_.out HW_.out (by kernel_rfl)) (fun _ _ _ h => h) (Or.inl ⟨by rfl, ?_⟩) hHeld ?_ ?_
   rotate_left
   ·rintro w' ⟨s0, s1⟩
    go_simp
    with_reducible rfl
   rotate_left
   ·simp only [Act.put, List.setIfInBounds_toArray, List.set_cons_zero, List.set_cons_succ, i64_w, i32_w]
    rfl
   refine one_ (i := 1) (N := some 9) #[true, true, false, false, false, false, false, false, false, false, false, false, false, false, false, false, false, false, false] rfl rfl (one_of HT_.out (by kernel_rfl)) (by decide) (fun K hK => ?_)
   refine goes_ Try.func39 (by kernel_rfl) rfl #[.agg #[.slice A0_0 l0_0.length c0_0, .slice A0_1 l0_1.length c0_1]] (by rfl) rfl rfl mq ?_
   with_reducible refine (spec_psGood.calls k _ _ l0_0 _ _ l0_1 false _ ?s1 ?s2 ?s3 ?s4 A7.out).mono ?_
   (case s1 => exact cq (Kd.C_below HR0_0.out HB.out))
   (case s2 => exact HC0_0.out)
   (case s3 => exact cq (Kd.C_below HR0_1.out HB.out))
   (case s4 => exact HC0_1.out)
   rintro e w20 ⟨rfl, hb⟩
   refine ⟨_, rfl, ?_⟩
   replace BK380 := zb BK380 hb
   replace BK381 := zb BK381 hb
   replace BK382 := zb BK382 hb
   replace HB := sb hb
   (try clear hb)
   refine hK.out _ _ ⟨(blk_cell BK380.out 0).trans rfl, (blk_cell BK380.out 1).trans rfl⟩ (fun hHeld => ?_)
   clear hK K
   refine norm_ (a' := ?_) ?_ ?_
   rotate_left
   ·show Act.put _ (some 9) _ = _
    simp only [Act.put, List.setIfInBounds_toArray, List.set_cons_zero, List.set_cons_succ, i64_w, i32_w]
    rfl
   refine pure_ (i := 2) (N := some 10) (v := ?_) (a' := ?_) #[true, true, true, false, false, false, false, false, false, false, false, false, false, false, false, false, false, false, false] rfl rfl (any_of HT_.out (by kernel_rfl)) (fun _ _ _ h => h) (Or.inl ⟨by rfl, ?_⟩) ?_ ?_
   rotate_left
   ·intro w'
    go_simp
    with_reducible rfl
   rotate_left
   ·simp only [Act.put, List.setIfInBounds_toArray, List.set_cons_zero, List.set_cons_succ, i64_w, i32_w]
    rfl
   refine pure_ (i := 3) (N := some 11) (v := ?_) (a' := ?_) #[true, true, true, true, false, false, false, false, false, false, false, false, false, false, false, false, false, false, false] rfl rfl (any_of HT_.out (by kernel_rfl)) (fun _ _ _ h => h) (Or.inl ⟨by rfl, ?_⟩) ?_ ?_
   rotate_left
   ·intro w'
    go_simp
    with_reducible rfl
   rotate_left
   ·simp only [Act.put, List.setIfInBounds_toArray, List.set_cons_zero, List.set_cons_succ, i64_w, i32_w]
    rfl
   refine pure_ (i := 4) (N := some 12) (v := undef) (a' := ?_) #[true, true, true, true, true, false, false, false, false, false, false, false, false, false, false, false, false, false, false] rfl rfl (any_of HT_.out (by kernel_rfl)) (fun _ _ _ h => h) (Or.inr ⟨by rfl, rfl⟩) ?_ ?_
   rotate_left
   ·simp only [Act.put, List.setIfInBounds_toArray, List.set_cons_zero, List.set_cons_succ, i64_w, i32_w]
    rfl
   refine pure_ (i := 5) (N := some 13) (v := undef) (a' := ?_) #[true, true, true, true, true, true, false, false, false, false, false, false, false, false, false, false, false, false, false] rfl rfl (any_of HT_.out (by kernel_rfl)) (fun _ _ _ h => h) (Or.inr ⟨by rfl, rfl⟩) ?_ ?_
   rotate_left
   ·simp only [Act.put, List.setIfInBounds_toArray, List.set_cons_zero, List.set_cons_succ, i64_w, i32_w]
    rfl
   refine pure_ (i := 6) (N := some 14) (v := undef) (a' := ?_) #[true, true, true, true, true, true, true, false, false, false, false, false, false, false, false, false, false, false, false] rfl rfl (any_of HT_.out (by kernel_rfl)) (fun _ _ _ h => h) (Or.inr ⟨by rfl, rfl⟩) ?_ ?_
   rotate_left
   ·simp only [Act.put, List.setIfInBounds_toArray, List.set_cons_zero, List.set_cons_succ, i64_w, i32_w]
    rfl
   refine pure_ (i := 7) (N := some 15) (v := ?_) (a' := ?_) #[true, true, true, true, true, true, true, true, false, false, false, false, false, false, false, false, false, false, false] rfl rfl (any_of HT_.out (by kernel_rfl)) (fun _ _ _ h => h) (Or.inl ⟨by rfl, ?_⟩) ?_ ?_
   rotate_left
   ·intro w'
    go_simp
    with_reducible rfl
   rotate_left
   ·simp only [Act.put, List.setIfInBounds_toArray, List.set_cons_zero, List.set_cons_succ, i64_w, i32_w]
    rfl
   refine pure_ (i := 8) (N := some 16) (v := ?_) (a' := ?_) #[true, true, true, true, true, true, true, true, true, false, false, false, false, false, false, false, false, false, false] rfl rfl (any_of HT_.out (by kernel_rfl)) (fun _ _ _ h => h) (Or.inl ⟨by rfl, ?_⟩) ?_ ?_
   rotate_left
   ·intro w'
    go_simp
    with_reducible rfl
   rotate_left
   ·simp only [Act.put, List.setIfInBounds_toArray, List.set_cons_zero, List.set_cons_succ, i64_w, i32_w]
    rfl
   refine pure_ (i := 9) (N := some 17) (v := undef) (a' := ?_) #[true, true, true, true, true, true, true, true, true, true, false, false, false, false, false, false, false, false, false] rfl rfl (any_of HT_.out (by kernel_rfl)) (fun _ _ _ h => h) (Or.inr ⟨by rfl, rfl⟩) ?_ ?_
   rotate_left
   ·simp only [Act.put, List.setIfInBounds_toArray, List.set_cons_zero, List.set_cons_succ, i64_w, i32_w]
    rfl
   refine pure_ (i := 10) (N := some 18) (v := undef) (a' := ?_) #[true, true, true, true, true, true, true, true, true, true, true, false, false, false, false, false, false, false, false] rfl rfl (any_of HT_.out (by kernel_rfl)) (fun _ _ _ h => h) (Or.inr ⟨by rfl, rfl⟩) ?_ ?_
   rotate_left
   ·simp only [Act.put, List.setIfInBounds_toArray, List.set_cons_zero, List.set_cons_succ, i64_w, i32_w]
    rfl
   refine pure_ (i := 11) (N := some 19) (v := undef) (a' := ?_) #[true, true, true, true, true, true, true, true, true, true, true, true, false, false, false, false, false, false, false] rfl rfl (any_of HT_.out (by kernel_rfl)) (fun _ _ _ h => h) (Or.inr ⟨by rfl, rfl⟩) ?_ ?_
   rotate_left
   ·simp only [Act.put, List.setIfInBounds_toArray, List.set_cons_zero, List.set_cons_succ, i64_w, i32_w]
    rfl
   refine pure_ (i := 12) (N := some 20) (v := undef) (a' := ?_) #[true, true, true, true, true, true, true, true, true, true, true, true, true, false, false, false, false, false, false] rfl rfl (any_of HT_.out (by kernel_rfl)) (fun _ _ _ h => h) (Or.inr ⟨by rfl, rfl⟩) ?_ ?_
   rotate_left
   ·simp only [Act.put, List.setIfInBounds_toArray, List.set_cons_zero, List.set_cons_succ, i64_w, i32_w]
    rfl
   refine pure_ (i := 13) (N := some 21) (v := undef) (a' := ?_) #[true, true, true, true, true, true, true, true, true, true, true, true, true, true, false, false, false, false, false] rfl rfl (any_of HT_.out (by kernel_rfl)) (fun _ _ _ h => h) (Or.inr ⟨by rfl, rfl⟩) ?_ ?_
   rotate_left
   ·simp only [Act.put, List.setIfInBounds_toArray, List.set_cons_zero, List.set_cons_succ, i64_w, i32_w]
    rfl
   refine pure_ (i := 14) (N := some 22) (v := undef) (a' := ?_) #[true, true, true, true, true, true, true, true, true, true, true, true, true, true, true, false, false, false, false] rfl rfl (any_of HT_.out (by kernel_rfl)) (fun _ _ _ h => h) (Or.inr ⟨by rfl, rfl⟩) ?_ ?_
   rotate_left
   ·simp only [Act.put, List.setIfInBounds_toArray, List.set_cons_zero, List.set_cons_succ, i64_w, i32_w]
    rfl
   refine pure_ (i := 15) (N := some 23) (v := undef) (a' := ?_) #[true, true, true, true, true, true, true, true, true, true, true, true, true, true, true, true, false, false, false] rfl rfl (any_of HT_.out (by kernel_rfl)) (fun _ _ _ h => h) (Or.inr ⟨by rfl, rfl⟩) ?_ ?_
   rotate_left
   ·simp only [Act.put, List.setIfInBounds_toArray, List.set_cons_zero, List.set_cons_succ, i64_w, i32_w]
    rfl
   refine pure_ (i := 16) (N := some 24) (v := undef) (a' := ?_) #[true, true, true, true, true, true, true, true, true, true, true, true, true, true, true, true, true, false, false] rfl rfl (any_of HT_.out (by kernel_rfl)) (fun _ _ _ h => h) (Or.inr ⟨by rfl, rfl⟩) ?_ ?_
   rotate_left
   ·simp only [Act.put, List.setIfInBounds_toArray, List.set_cons_zero, List.set_cons_succ, i64_w, i32_w]
    rfl
   refine pure_ (i := 17) (N := some 25) (v := undef) (a' := ?_) #[true, true, true, true, true, true, true, true, true, true, true, true, true, true, true, true, true, true, false] rfl rfl (any_of HT_.out (by kernel_rfl)) (fun _ _ _ h => h) (Or.inr ⟨by rfl, rfl⟩) ?_ ?_
   rotate_left
   ·simp only [Act.put, List.setIfInBounds_toArray, List.set_cons_zero, List.set_cons_succ, i64_w, i32_w]
    rfl
   refine pure_ (i := 18) (N := some 26) (v := ?_) (a' := ?_) #[true, true, true, true, true, true, true, true, true, true, true, true, true, true, true, true, true, true, true] rfl rfl (any_of HT_.out (by kernel_rfl)) (fun _ _ _ h => h) (Or.inl ⟨by rfl, ?_⟩) ?_ ?_
   rotate_left
   ·intro w'
    go_simp
    with_reducible rfl
   rotate_left
   ·simp only [Act.put, List.setIfInBounds_toArray, List.set_cons_zero, List.set_cons_succ, i64_w, i32_w]
    rfl
   refine done_ (done_of HT_.out (by kernel_rfl)) ?_
   try go_wp2
   go_meet
   case rel => exact ⟨_, (true), sq, H', ⟨by first | omega | exact Nat.le_refl _⟩, ⟨zq BK380⟩, ⟨zq BK381⟩, ⟨zq BK382⟩, ⟨bq⟩⟩
 case rest =>
  clear HC3
  try clear c1
  try clear p2
  try clear c3
  try clear p3
  try clear q3
  try clear hx3
  try clear c4
  try clear c8
  try clear c10
  try clear c11
  try clear c11b0
  try clear c12
  try clear c12b0
  try clear hx385_0
  try clear p385
  try clear q385
  obtain ⟨kq, x26_2, rfl, HA, HJ2, BK380, BK381, BK382, HB⟩ := hcut
  cases kq with
  | zero => exact absurd HA.out (by simp [spec_LendParts.j0])
  | succ kj2 =>
   have H := HA.out
   clear HA
   simp only [spec_LendParts.j0] at H
   by_cases c21 : x26_2 = true
   ·subst c21
    have H1 : (some (([] : List Int), ([] : List (S41)), false)) = some (r1, r2, r3) := by rw [if_pos rfl] at H; exact H
    clear H
    have H := H1
    clear H1
    simp only [Option.some.injEq, Prod.mk.injEq] at H
    obtain ⟨rfl, rfl, rfl⟩ := H
    have hnb22 := NB382_380.out
    have hnc22 := NB380_382.out
    have hnb23 := NB382_381.out
    have hnc23 := NB381_382.out
    have ⟨hcz24_0, hcz24_1, hfz24_0, hfz24_1⟩ := bc2 BK382
    go_wp2
    refine bodyPost_ret (results_ct rfl _ _ gb382 29 #[.slice none 0 0, .slice none 0 0] (0, 0) _ rfl (by (with_reducible repeat (first | refine blk_drewN ?_ _ | refine blk_drew ?_ | refine blk_alloc ?_ _)); refine blk_put (cs := #[.slice none 0 0, .slice none 0 0]) ?_ 1 _ rfl; (with_reducible repeat (first | refine blk_drewN ?_ _ | refine blk_drew ?_ | refine blk_alloc ?_ _)); refine blk_put (cs := #[.slice none 0 0, .slice none 0 0]) ?_ 0 _ rfl; (with_reducible repeat (first | refine blk_drewN ?_ _ | refine blk_drew ?_ | refine blk_alloc ?_ _)); exact BK382.out) Try.underlying29 rfl (by kernel_rfl)) rfl ?_
    exact ⟨_, _, eq_, by first | exact Kd.R_nil _ _ _ _ _ | exact Kd.N_nil _ _ _ _ _ | exact Kd.V_nil _ _ _ _ _ | exact Kd.Q_nil _ _ _ _ _ | exact Kd.S_nil _ _ _ _ _, by first | exact Kd.R_nil _ _ _ _ _ | exact Kd.N_nil _ _ _ _ _ | exact Kd.V_nil _ _ _ _ _ | exact Kd.Q_nil _ _ _ _ _ | exact Kd.S_nil _ _ _ _ _, bq⟩
   ·replace c21 := Bool.eq_false_iff.mpr c21
    subst c21
    have H1 : ((spec_psOwn.f l0_0 l0_1).bind fun bt386 => (if 0 ≤ a1_1 then (if a1_1 < (bt386.1.length : Int) then ((some (bt386.1.set (a1_1 : Int).toNat (wrap64 ((rd bt386.1 a1_1) - a1_2)) : List Int)).bind fun y394 => ((spec_psSame.f kj2 l0_0 l0_1 a1_0 a1_1 a1_2 a1_3).bind fun t395 => (if t395 ≥ 0 then (if 0 ≤ t395 then (if t395 < (bt386.2.length : Int) then ((spec_psIf.f kj2 y394 (bt386.2.set (t395 : Int).toNat (⟨(rd_T41 bt386.2 t395).f0, (rd_T41 bt386.2 t395).f1, wrap64 (((rd_T41 bt386.2 t395).f2) + a1_2), (rd_T41 bt386.2 t395).f3⟩ : S41))).bind fun bt398 => (some (bt398.1, bt398.2.1, bt398.2.2))) else (none)) else (none)) else (if bt386.2.length < 4398046511104 then ((spec_psIf.f kj2 y394 (bt386.2 ++ [(⟨a1_0, a1_1, a1_2, a1_3⟩ : S41)])).bind fun bt408 => (some (bt408.1, bt408.2.1, bt408.2.2))) else (none))))) else (none)) else (none))) = some (r1, r2, r3) := by rw [if_neg (show ¬ (false = true) by decide)] at H; exact H
    clear H
    have H := H1
    clear H1
    replace H := Option.bind_eq_some_iff.mp H
    obtain ⟨⟨t386, t389⟩, A250, H⟩ := H
    replace H : (if 0 ≤ a1_1 then (if a1_1 < (t386.length : Int) then ((some (t386.set (a1_1 : Int).toNat (wrap64 ((rd t386 a1_1) - a1_2)) : List Int)).bind fun y394 => ((spec_psSame.f kj2 l0_0 l0_1 a1_0 a1_1 a1_2 a1_3).bind fun t395 => (if t395 ≥ 0 then (if 0 ≤ t395 then (if t395 < (t389.length : Int) then ((spec_psIf.f kj2 y394 (t389.set (t395 : Int).toNat (⟨(rd_T41 t389 t395).f0, (rd_T41 t389 t395).f1, wrap64 (((rd_T41 t389 t395).f2) + a1_2), (rd_T41 t389 t395).f3⟩ : S41))).bind fun bt398 => (some (bt398.1, bt398.2.1, bt398.2.2))) else (none)) else (none)) else (if t389.length < 4398046511104 then ((spec_psIf.f kj2 y394 (t389 ++ [(⟨a1_0, a1_1, a1_2, a1_3⟩ : S41)])).bind fun bt408 => (some (bt408.1, bt408.2.1, bt408.2.2))) else (none))))) else (none)) else (none)) = some (r1, r2, r3) := H
    have A25 := Aside0.mk A250
    clear A250
    by_cases c26 : 0 ≤ a1_1
    ·rw [if_pos c26] at H
     have c26b0 : decide (0 ≤ a1_1) = true := decide_eq_true c26
     clear c26
     by_cases c27 : a1_1 < (t386.length : Int)
     ·rw [if_pos c27] at H
      have c27b0 : decide (a1_1 < (t386.length : Int)) = true := decide_eq_true c27
      clear c27
      obtain ⟨y394, hy394⟩ : ∃ y_ : List Int, y_ = (t386.set (a1_1 : Int).toNat (wrap64 ((rd t386 a1_1) - a1_2))) := ⟨_, rfl⟩
      replace H : ((spec_psSame.f kj2 l0_0 l0_1 a1_0 a1_1 a1_2 a1_3).bind fun t395 => (if t395 ≥ 0 then (if 0 ≤ t395 then (if t395 < (t389.length : Int) then ((spec_psIf.f kj2 y394 (t389.set (t395 : Int).toNat (⟨(rd_T41 t389 t395).f0, (rd_T41 t389 t395).f1, wrap64 (((rd_T41 t389 t395).f2) + a1_2), (rd_T41 t389 t395).f3⟩ : S41))).bind fun bt398 => (some (bt398.1, bt398.2.1, bt398.2.2))) else (none)) else (none)) else (if t389.length < 4398046511104 then ((spec_psIf.f kj2 y394 (t389 ++ [(⟨a1_0, a1_1, a1_2, a1_3⟩ : S41)])).bind fun bt408 => (some (bt408.1, bt408.2.1, bt408.2.2))) else (none)))) = some (r1, r2, r3) := by first | (rw [hy394]; with_reducible exact H) | (have H2_ := (Option.bind_some _ _).symm.trans H; rw [hy394]; with_reducible exact H2_) | (have H2_ := (Option.bind_some _ _).symm.trans H; with_reducible exact H2_) | with_reducible exact H | (rw [hy394]; exact H) | exact H
      have Ny394 := Aside0.mk hy394
      clear hy394
      replace H := Option.bind_eq_some_iff.mp H
      obtain ⟨t395, A290, H⟩ := H
      replace H : (if t395 ≥ 0 then (if 0 ≤ t395 then (if t395 < (t389.length : Int) then ((spec_psIf.f kj2 y394 (t389.set (t395 : Int).toNat (⟨(rd_T41 t389 t395).f0, (rd_T41 t389 t395).f1, wrap64 (((rd_T41 t389 t395).f2) + a1_2), (rd_T41 t389 t395).f3⟩ : S41))).bind fun bt398 => (some (bt398.1, bt398.2.1, bt398.2.2))) else (none)) else (none)) else (if t389.length < 4398046511104 then ((spec_psIf.f kj2 y394 (t389 ++ [(⟨a1_0, a1_1, a1_2, a1_3⟩ : S41)])).bind fun bt408 => (some (bt408.1, bt408.2.1, bt408.2.2))) else (none))) = some (r1, r2, r3) := H
      have A29 := Aside0.mk A290
      clear A290
      by_cases c30 : t395 ≥ 0
      ·rw [if_pos c30] at H
       have c30b0 : decide (0 ≤ t395) = true := decide_eq_true c30
       clear c30
       by_cases c31 : 0 ≤ t395
       ·rw [if_pos c31] at H
        have c31b0 : decide (0 ≤ t395) = true := decide_eq_true c31
        clear c31
        by_cases c32 : t395 < (t389.length : Int)
        ·rw [if_pos c32] at H
         have c32b0 : decide (t395 < (t389.length : Int)) = true := decide_eq_true c32
         clear c32
         obtain ⟨y397, hy397⟩ : ∃ y_ : List (S41), y_ = (t389.set (t395 : Int).toNat (⟨(rd_T41 t389 t395).f0, (rd_T41 t389 t395).f1, wrap64 (((rd_T41 t389 t395).f2) + a1_2), (rd_T41 t389 t395).f3⟩ : S41)) := ⟨_, rfl⟩
         replace H : ((spec_psIf.f kj2 y394 y397).bind fun bt398 => (some (bt398.1, bt398.2.1, bt398.2.2))) = some (r1, r2, r3) := by first | (rw [hy397]; with_reducible exact H) | (have H2_ := (Option.bind_some _ _).symm.trans H; rw [hy397]; with_reducible exact H2_) | (have H2_ := (Option.bind_some _ _).symm.trans H; with_reducible exact H2_) | with_reducible exact H | (rw [hy397]; exact H) | exact H
         have Ny397 := Aside0.mk hy397
         clear hy397
         replace H := Option.bind_eq_some_iff.mp H
         obtain ⟨⟨t398, t401, t404⟩, A340, H⟩ := H
         replace H : (some (t398, t401, t404)) = some (r1, r2, r3) := H
         have A34 := Aside0.mk A340
         clear A340
         simp only [Option.some.injEq, Prod.mk.injEq] at H
         obtain ⟨rfl, rfl, rfl⟩ := H
         have hnb35 := NB380_381.out
         have hnc35 := NB381_380.out
         have hnb36 := NB380_382.out
         have hnc36 := NB382_380.out
         have ⟨hcz37_0, hcz37_1, hfz37_0, hfz37_1⟩ := bc2 BK380
         try go_wp2_with (first | ((with_reducible refine gate_callee (f := 24) rfl ?_); refine goesQ (some 29) Try.func24 #[.agg #[.slice A0_0 l0_0.length c0_0, .slice A0_1 l0_1.length c0_1]] ?_; (with_reducible refine (spec_psOwn.calls _ _ l0_0 _ _ l0_1 t386 t389 _ ?s1 ?s2 ?s3 ?s4 A25.out).mono ?_); (case s1 => exact cq (Kd.C_below HR0_0.out HB.out)); (case s2 => exact HC0_0.out); (case s3 => exact cq (Kd.C_below HR0_1.out HB.out)); (case s4 => exact HC0_1.out); rintro e w38 ⟨v387, v390, rfl, ho0, ho1, hb⟩; refine ⟨_, rfl, ?_⟩; have HO388 := rl ho0; have HO391 := Aside0.mk (Kd.R_lower (Kd.R_newB ho1 (g := gb381) (o := .cells #[.int .i64 a1_0, .int .i64 a1_1, .int .i64 a1_2, .int .i64 a1_3] 41 (0, 0)) (zq BK381)) (below_size bq)); replace BK380 := zb BK380 hb; replace BK381 := zb BK381 hb; replace BK382 := zb BK382 hb; replace HB := sb hb; (try clear hb ho0 ho1)) | ((with_reducible refine gate_dst (N := 6) rfl ?_); refine box_event ?hg (N := 6) ?hd (cs := #[.slice none 0 0, .slice none 0 0]) (t := 29) ?hr ?_; (case hd => rfl); (case hg => rfl); (case hr => first | (go_simp; done) | (go_simp; rfl)); intro gb392 hg w39 hbox hb; replace HO388 := rb HO388 hb; replace HO391 := rb HO391 hb; have BK392 := Aside0.mk (hbox); have GE392 := Aside0.mk (gq hg); replace HB := sb hb; have NB380_392 := nl hg BK380; have NB392_380 := ng hg BK380; replace BK380 := zb BK380 hb; have NB381_392 := nl hg BK381; have NB392_381 := ng hg BK381; replace BK381 := zb BK381 hb; have NB382_392 := nl hg BK382; have NB392_382 := ng hg BK382; replace BK382 := zb BK382 hb; clear hb hbox hg; obtain ⟨Ao40, co40, eo40⟩ := Kd.R_slice HO388.out; subst eo40; have hnb41 := NB392_380.out; have hnc41 := NB380_392.out; have hnb42 := NB392_381.out; have hnc42 := NB381_392.out; have hnb43 := NB392_382.out; have hnc43 := NB382_392.out; have ⟨hcz44_0, hcz44_1, hfz44_0, hfz44_1⟩ := bc2 BK392; obtain ⟨Ao45, co45, eo45⟩ := Kd.R_slice HO391.out; subst eo45))
         have n0_ : Aside0 (Kd.R (Kd.int .i64) 3 ((w39.setCell ⟨gb392, 0, none⟩ (.slice Ao40 t386.length co40)).setCell ⟨gb392, 1, none⟩ (.slice Ao45 t389.length co45)) w.heap.size (fun _ => True) (.slice Ao40 t386.length co40) t386) := ⟨by (with_reducible repeat (first | apply Kd.R_alloc | apply Kd.R_drewN | apply Kd.R_drew)); exact Kd.R_mono (Kd.R_far (p := ⟨gb392, 1, none⟩) (Kd.R_far (p := ⟨gb392, 0, none⟩) (Kd.R_types HO388.out BK392.out (by decide)) (fun _ hk => hk.2) (.slice Ao40 t386.length co40)) (fun _ hk => hk.2) (.slice Ao45 t389.length co45)) (fun _ hk => trivial)⟩
         have n1_ : Aside0 (Kd.R k41 41 ((w39.setCell ⟨gb392, 0, none⟩ (.slice Ao40 t386.length co40)).setCell ⟨gb392, 1, none⟩ (.slice Ao45 t389.length co45)) w.heap.size (fun k_ => k_ ≠ gb381) (.slice Ao45 t389.length co45) t389) := ⟨by (with_reducible repeat (first | apply Kd.R_alloc | apply Kd.R_drewN | apply Kd.R_drew)); exact Kd.R_mono (Kd.R_far (p := ⟨gb392, 1, none⟩) (Kd.R_far (p := ⟨gb392, 0, none⟩) (Kd.R_types HO391.out BK392.out (by decide)) (fun _ hk => hk.2) (.slice Ao40 t386.length co40)) (fun _ hk => hk.2) (.slice Ao45 t389.length co45)) (fun _ hk => hk.1.2)⟩
         have n2_ : Aside0 (((w39.setCell ⟨gb392, 0, none⟩ (.slice Ao40 t386.length co40)).setCell ⟨gb392, 1, none⟩ (.slice Ao45 t389.length co45)).heap[gb380]? = some (.cells #[.slice A0_0 l0_0.length c0_0, .slice A0_1 l0_1.length c0_1] 29 (0, 0))) := ⟨by (with_reducible repeat (first | refine blk_drewN ?_ _ | refine blk_drew ?_ | refine blk_alloc ?_ _)); refine blk_far ?_ NB380_392.out _; (with_reducible repeat (first | refine blk_drewN ?_ _ | refine blk_drew ?_ | refine blk_alloc ?_ _)); refine blk_far ?_ NB380_392.out _; (with_reducible repeat (first | refine blk_drewN ?_ _ | refine blk_drew ?_ | refine blk_alloc ?_ _)); exact BK380.out⟩
         have n3_ : Aside0 (((w39.setCell ⟨gb392, 0, none⟩ (.slice Ao40 t386.length co40)).setCell ⟨gb392, 1, none⟩ (.slice Ao45 t389.length co45)).heap[gb381]? = some (.cells #[.int .i64 a1_0, .int .i64 a1_1, .int .i64 a1_2, .int .i64 a1_3] 41 (0, 0))) := ⟨by (with_reducible repeat (first | refine blk_drewN ?_ _ | refine blk_drew ?_ | refine blk_alloc ?_ _)); refine blk_far ?_ NB381_392.out _; (with_reducible repeat (first | refine blk_drewN ?_ _ | refine blk_drew ?_ | refine blk_alloc ?_ _)); refine blk_far ?_ NB381_392.out _; (with_reducible repeat (first | refine blk_drewN ?_ _ | refine blk_drew ?_ | refine blk_alloc ?_ _)); exact BK381.out⟩
         have n4_ : Aside0 (((w39.setCell ⟨gb392, 0, none⟩ (.slice Ao40 t386.length co40)).setCell ⟨gb392, 1, none⟩ (.slice Ao45 t389.length co45)).heap[gb382]? = some (.cells #[.slice none 0 0, .slice none 0 0] 29 (0, 0))) := ⟨by (with_reducible repeat (first | refine blk_drewN ?_ _ | refine blk_drew ?_ | refine blk_alloc ?_ _)); refine blk_far ?_ NB382_392.out _; (with_reducible repeat (first | refine blk_drewN ?_ _ | refine blk_drew ?_ | refine blk_alloc ?_ _)); refine blk_far ?_ NB382_392.out _; (with_reducible repeat (first | refine blk_drewN ?_ _ | refine blk_drew ?_ | refine blk_alloc ?_ _)); exact BK382.out⟩
         have n5_ : Aside0 (((w39.setCell ⟨gb392, 0, none⟩ (.slice Ao40 t386.length co40)).setCell ⟨gb392, 1, none⟩ (.slice Ao45 t389.length co45)).heap[gb392]? = some (.cells #[.slice Ao40 t386.length co40, .slice Ao45 t389.length co45] 29 (0, 0))) := ⟨by (with_reducible repeat (first | refine blk_drewN ?_ _ | refine blk_drew ?_ | refine blk_alloc ?_ _)); refine blk_put (cs := #[.slice Ao40 t386.length co40, .slice none 0 0]) ?_ 1 _ rfl; (with_reducible repeat (first | refine blk_drewN ?_ _ | refine blk_drew ?_ | refine blk_alloc ?_ _)); refine blk_put (cs := #[.slice none 0 0, .slice none 0 0]) ?_ 0 _ rfl; (with_reducible repeat (first | refine blk_drewN ?_ _ | refine blk_drew ?_ | refine blk_alloc ?_ _)); exact BK392.out⟩
         have n6_ : Aside0 (Below w.heap.size w ((w39.setCell ⟨gb392, 0, none⟩ (.slice Ao40 t386.length co40)).setCell ⟨gb392, 1, none⟩ (.slice Ao45 t389.length co45))) := ⟨bq⟩
         (try clear HO388)
         (try clear HO391)
         (try clear BK380)
         (try clear BK381)
         (try clear BK382)
         (try clear BK392)
         (try clear HB)
         generalize ((w39.setCell ⟨gb392, 0, none⟩ (.slice Ao40 t386.length co40)).setCell ⟨gb392, 1, none⟩ (.slice Ao45 t389.length co45)) = w46 at n0_ n1_ n2_ n3_ n4_ n5_ n6_ ⊢
         have HO388 := n0_
         have HO391 := n1_
         have BK380 := n2_
         have BK381 := n3_
         have BK382 := n4_
         have BK392 := n5_
         have HB := n6_
         clear n0_ n1_ n2_ n3_ n4_ n5_ n6_
         replace HO388 := Aside0.mk (Kd.R_drew HO388.out)
         replace HO391 := Aside0.mk (Kd.R_drew HO391.out)
         replace BK380 := Aside0.mk (blk_drew BK380.out)
         replace BK381 := Aside0.mk (blk_drew BK381.out)
         replace BK382 := Aside0.mk (blk_drew BK382.out)
         replace BK392 := Aside0.mk (blk_drew BK392.out)
         replace HB := Aside0.mk (below_drew1 HB.out)
         have p393 : 0 ≤ (a1_1 : Int) := of_decide_eq_true aq
         have q393 : a1_1 < (t386.length : Int) := of_decide_eq_true aq
         obtain ⟨ad393, e393, hx393_0⟩ := Kd.at_int (Kd.R_reads' HO388.out).2.2 a1_1 p393 q393
         cases e393
         replace p393 := eq_true p393
         replace q393 := eq_true q393
         have p28 : 0 ≤ (a1_1 : Int) := of_decide_eq_true aq
         have q28 : (a1_1 : Int) < ((t386.length : Int) : Int) := of_decide_eq_true aq
         obtain ⟨go28, co28, eo28, gb28, gl28, cl28, HG28⟩ := Kd.R_form HO388.out (by omega)
         (first | cases eo28 | (injection eo28 with ea_ en_ ec_; (first | subst ea_ | (injection ea_ with ea_; subst ea_)); subst ec_; clear en_))
         have GB28 := Aside0.mk gb28
         have GG28 := Aside0.mk HG28
         clear gb28 gl28 HG28
         (first | simp only [add_plain] at hx393_0 | skip)
         obtain ⟨hx28_0, hf28_0⟩ := Kd.R_celln 0 HO388.out (a1_1 : Int) p28 q28
         replace p28 := eq_true p28
         replace q28 := eq_true q28
         have HP48 := Kd.R_putn HO388.out (a1_1 : Int) (wrap64 ((rd t386 a1_1) - a1_2))
         rw [← Ny394.out] at HP48
         have HQ48 := Aside0.mk HP48
         clear HP48
         refine start_ (n := 11) (S := fun w' => w'.cell? ⟨gb392, 0, none⟩ = some (.slice (some ⟨go28, 0, none⟩) t386.length co40) ∧ w'.cell? ⟨gb392, 1, none⟩ = some (.slice Ao45 t389.length co45) ∧ w'.cell? ⟨gb381, 0, none⟩ = some (.int .i64 a1_0) ∧ w'.cell? ⟨gb381, 1, none⟩ = some (.int .i64 a1_1) ∧ w'.cell? ⟨gb381, 2, none⟩ = some (.int .i64 a1_2) ∧ w'.cell? ⟨gb381, 3, none⟩ = some (.int .i64 a1_3) ∧ w'.cell? ⟨go28, (a1_1).toNat, none⟩ = some (.int .i64 (rd t386 a1_1))) (ds := [10]) #[false, false, false, false, false, false, false, false, false, false, false] (by kernel_rfl) rfl rfl ⟨(blk_cell BK392.out 0).trans rfl, (blk_cell BK392.out 1).trans rfl, (blk_cell BK381.out 0).trans rfl, (blk_cell BK381.out 1).trans rfl, (blk_cell BK381.out 2).trans rfl, (blk_cell BK381.out 3).trans rfl, hx393_0⟩ (fun hHeld => ?_); refine with_tabW spec_LendParts.tab4 spec_LendParts.bits4 (fun HT_ HW_ => ?_)
         generalize w46.drew = w47 at HO388 HO391 BK380 BK381 BK382 BK392 HB GG28 HQ48 hf28_0 hx28_0 hx393_0 hHeld ⊢
         refine pure_ (i := 0) (N := some 30) (v := ?_) (a' := ?_) #[true, false, false, false, false, false, false, false, false, false, false] rfl rfl (any_of HT_.out (by kernel_rfl)) (fun _ _ _ h => h) (Or.inl ⟨by rfl, ?_⟩) ?_ ?_
         rotate_left
         ·intro w'
          go_simp
          with_reducible rfl
         rotate_left
         ·simp only [Act.put, List.setIfInBounds_toArray, List.set_cons_zero, List.set_cons_succ, i64_w, i32_w]
          rfl
         refine pure_ (i := 2) (N := some 32) (v := ?_) (a' := ?_) #[true, false, true, false, false, false, false, false, false, false, false] rfl rfl (any_of HT_.out (by kernel_rfl)) (fun _ _ _ h => h) (Or.inl ⟨by rfl, ?_⟩) ?_ ?_
         rotate_left
         ·intro w'
          go_simp
          with_reducible rfl
         rotate_left
         ·simp only [Act.put, List.setIfInBounds_toArray, List.set_cons_zero, List.set_cons_succ, i64_w, i32_w]
          rfl
         refine pure_ (i := 6) (N := some 36) (v := ?_) (a' := ?_) #[true, false, true, false, false, false, true, false, false, false, false] rfl rfl (any_of HT_.out (by kernel_rfl)) (fun _ _ _ h => h) (Or.inl ⟨by rfl, ?_⟩) ?_ ?_
         rotate_left
         ·intro w'
          go_simp
          with_reducible rfl
         rotate_left
         ·simp only [Act.put, List.setIfInBounds_toArray, List.set_cons_zero, List.set_cons_succ, i64_w, i32_w]
          rfl
         refine take_ (i := 1) (N := some 31) (v := ?_) (a' := ?_) #[true, true, true, false, false, false, true, false, false, false, false] rfl rfl (take_ofW HT_.out HW_.out (by kernel_rfl)) (fun _ _ _ h => h) (Or.inl ⟨by rfl, ?_⟩) hHeld ?_ ?_
         rotate_left
         ·rintro w' ⟨s0, s1, s2, s3, s4, s5, s6⟩
          go_simp
          with_reducible rfl
         rotate_left
         ·simp only [Act.put, List.setIfInBounds_toArray, List.set_cons_zero, List.set_cons_succ, i64_w, i32_w]
          rfl
         refine take_ (i := 3) (N := some 33) (v := ?_) (a' := ?_) #[true, true, true, true, false, false, true, false, false, false, false] rfl rfl (take_ofW HT_.out HW_.out (by kernel_rfl)) (fun _ _ _ h => h) (Or.inl ⟨by rfl, ?_⟩) hHeld ?_ ?_
         rotate_left
         ·rintro w' ⟨s0, s1, s2, s3, s4, s5, s6⟩
          go_simp
          with_reducible rfl
         rotate_left
         ·simp only [Act.put, List.setIfInBounds_toArray, List.set_cons_zero, List.set_cons_succ, i64_w, i32_w]
          rfl
         refine pure_ (i := 4) (N := some 34) (v := ?_) (a' := ?_) #[true, true, true, true, true, false, true, false, false, false, false] rfl rfl (any_of HT_.out (by kernel_rfl)) (fun _ _ _ h => h) (Or.inl ⟨by rfl, ?_⟩) ?_ ?_
         rotate_left
         ·intro w'
          go_simp
          with_reducible rfl
         rotate_left
         ·simp only [Act.put, List.setIfInBounds_toArray, List.set_cons_zero, List.set_cons_succ, i64_w, i32_w]
          rfl
         refine take_ (i := 5) (N := some 35) (v := ?_) (a' := ?_) #[true, true, true, true, true, true, true, false, false, false, false] rfl rfl (take_ofW HT_.out HW_.out (by kernel_rfl)) (fun _ _ _ h => h) (Or.inl ⟨by rfl, ?_⟩) hHeld ?_ ?_
         rotate_left
         ·rintro w' ⟨s0, s1, s2, s3, s4, s5, s6⟩
          go_simp
          with_reducible rfl
         rotate_left
         ·simp only [Act.put, List.setIfInBounds_toArray, List.set_cons_zero, List.set_cons_succ, i64_w, i32_w]
          rfl
         refine take_ (i := 7) (N := some 37) (v := ?_) (a' := ?_) #[true, true, true, true, true, true, true, true, false, false, false] rfl rfl (take_ofW HT_.out HW_.out (by kernel_rfl)) (fun _ _ _ h => h) (Or.inl ⟨by rfl, ?_⟩) hHeld ?_ ?_
         rotate_left
         ·rintro w' ⟨s0, s1, s2, s3, s4, s5, s6⟩
          go_simp
          with_reducible rfl
         rotate_left
         ·simp only [Act.put, List.setIfInBounds_toArray, List.set_cons_zero, List.set_cons_succ, i64_w, i32_w]
          rfl
         refine pure_ (i := 8) (N := some 38) (v := ?_) (a' := ?_) #[true, true, true, true, true, true, true, true, true, false, false] rfl rfl (any_of HT_.out (by kernel_rfl)) (fun _ _ _ h => h) (Or.inl ⟨by rfl, ?_⟩) ?_ ?_
         rotate_left
         ·intro w'
          go_simp
          with_reducible rfl
         rotate_left
         ·simp only [Act.put, List.setIfInBounds_toArray, List.set_cons_zero, List.set_cons_succ, i64_w, i32_w]
          rfl
         refine pure_ (i := 9) (N := some 39) (v := ?_) (a' := ?_) #[true, true, true, true, true, true, true, true, true, true, false] rfl rfl (any_of HT_.out (by kernel_rfl)) (fun _ _ _ h => h) (Or.inl ⟨by rfl, ?_⟩) ?_ ?_
         rotate_left
         ·intro w'
          go_simp
          with_reducible rfl
         rotate_left
         ·simp only [Act.put, List.setIfInBounds_toArray, List.set_cons_zero, List.set_cons_succ, i64_w, i32_w]
          rfl
         refine last_ (i := 10) (N := none) #[true, true, true, true, true, true, true, true, true, true, true] rfl rfl (one_of HT_.out (by kernel_rfl)) (by decide) (fun K hK => ?_)
         refine skip_ (w1 := ?_) (by rfl) rfl ?_ ?_
         rotate_left
         ·go_simp
          rfl
         refine hK.out _ _ ?_
         clear hK K
         refine done_ (done_of HT_.out (by kernel_rfl)) ?_
         have n0_ : Aside0 (Kd.R (Kd.int .i64) 3 (w47.setCell ⟨go28, (a1_1 : Int).toNat, none⟩ (.int .i64 (wrap64 ((rd t386 a1_1) - a1_2)))) w.heap.size (fun _ => True) (.slice (some ⟨go28, 0, none⟩) t386.length co40) y394) := ⟨rq HQ48⟩
         have n1_ : Aside0 (Kd.R k41 41 (w47.setCell ⟨go28, (a1_1 : Int).toNat, none⟩ (.int .i64 (wrap64 ((rd t386 a1_1) - a1_2)))) w.heap.size (fun k_ => k_ ≠ gb381) (.slice Ao45 t389.length co45) t389) := ⟨by (with_reducible repeat (first | apply Kd.R_alloc | apply Kd.R_drewN | apply Kd.R_drew)); exact Kd.R_mono (Kd.R_far (p := ⟨go28, (a1_1 : Int).toNat, none⟩) (Kd.R_types HO391.out GG28.out (by decide)) (fun _ hk => hk.2) (.int .i64 (wrap64 ((rd t386 a1_1) - a1_2)))) (fun _ hk => hk.1)⟩
         have n2_ : Aside0 ((w47.setCell ⟨go28, (a1_1 : Int).toNat, none⟩ (.int .i64 (wrap64 ((rd t386 a1_1) - a1_2)))).heap[gb380]? = some (.cells #[.slice A0_0 l0_0.length c0_0, .slice A0_1 l0_1.length c0_1] 29 (0, 0))) := ⟨by (with_reducible repeat (first | refine blk_drewN ?_ _ | refine blk_drew ?_ | refine blk_alloc ?_ _)); refine blk_far ?_ (by have h_ := Kd.R_ne HO388.out BK380.out (by decide); intro e_; exact h_ (by rw [e_]; rfl)) _; (with_reducible repeat (first | refine blk_drewN ?_ _ | refine blk_drew ?_ | refine blk_alloc ?_ _)); exact BK380.out⟩
         have n3_ : Aside0 ((w47.setCell ⟨go28, (a1_1 : Int).toNat, none⟩ (.int .i64 (wrap64 ((rd t386 a1_1) - a1_2)))).heap[gb381]? = some (.cells #[.int .i64 a1_0, .int .i64 a1_1, .int .i64 a1_2, .int .i64 a1_3] 41 (0, 0))) := ⟨by (with_reducible repeat (first | refine blk_drewN ?_ _ | refine blk_drew ?_ | refine blk_alloc ?_ _)); refine blk_far ?_ (by have h_ := Kd.R_ne HO388.out BK381.out (by decide); intro e_; exact h_ (by rw [e_]; rfl)) _; (with_reducible repeat (first | refine blk_drewN ?_ _ | refine blk_drew ?_ | refine blk_alloc ?_ _)); exact BK381.out⟩
         have n4_ : Aside0 ((w47.setCell ⟨go28, (a1_1 : Int).toNat, none⟩ (.int .i64 (wrap64 ((rd t386 a1_1) - a1_2)))).heap[gb382]? = some (.cells #[.slice none 0 0, .slice none 0 0] 29 (0, 0))) := ⟨by (with_reducible repeat (first | refine blk_drewN ?_ _ | refine blk_drew ?_ | refine blk_alloc ?_ _)); refine blk_far ?_ (by have h_ := Kd.R_ne HO388.out BK382.out (by decide); intro e_; exact h_ (by rw [e_]; rfl)) _; (with_reducible repeat (first | refine blk_drewN ?_ _ | refine blk_drew ?_ | refine blk_alloc ?_ _)); exact BK382.out⟩
         have n5_ : Aside0 ((w47.setCell ⟨go28, (a1_1 : Int).toNat, none⟩ (.int .i64 (wrap64 ((rd t386 a1_1) - a1_2)))).heap[gb392]? = some (.cells #[.slice (some ⟨go28, 0, none⟩) t386.length co40, .slice Ao45 t389.length co45] 29 (0, 0))) := ⟨by (with_reducible repeat (first | refine blk_drewN ?_ _ | refine blk_drew ?_ | refine blk_alloc ?_ _)); refine blk_far ?_ (by have h_ := Kd.R_ne HO388.out BK392.out (by decide); intro e_; exact h_ (by rw [e_]; rfl)) _; (with_reducible repeat (first | refine blk_drewN ?_ _ | refine blk_drew ?_ | refine blk_alloc ?_ _)); exact BK392.out⟩
         have n6_ : Aside0 (Below w.heap.size w (w47.setCell ⟨go28, (a1_1 : Int).toNat, none⟩ (.int .i64 (wrap64 ((rd t386 a1_1) - a1_2))))) := ⟨bq⟩
         (try clear HO388)
         (try clear HO391)
         (try clear BK380)
         (try clear BK381)
         (try clear BK382)
         (try clear BK392)
         (try clear HB)
         generalize (w47.setCell ⟨go28, (a1_1 : Int).toNat, none⟩ (.int .i64 (wrap64 ((rd t386 a1_1) - a1_2)))) = w49 at n0_ n1_ n2_ n3_ n4_ n5_ n6_ ⊢
         have HO388 := n0_
         have HO391 := n1_
         have BK380 := n2_
         have BK381 := n3_
         have BK382 := n4_
         have BK392 := n5_
         have HB := n6_
         clear n0_ n1_ n2_ n3_ n4_ n5_ n6_
         have ⟨hcz50_0, hcz50_1, hfz50_0, hfz50_1⟩ := bc2 BK380
         have hnb51 := NB381_382.out
         have hnc51 := NB382_381.out
         have ⟨hcz52_0, hcz52_1, hcz52_2, hcz52_3, hfz52_0, hfz52_1, hfz52_2, hfz52_3⟩ := bc4 BK381
         try go_wp2_with (first | ((with_reducible refine gate_callee (f := 36) rfl ?_); refine goesQ (some 42) Try.func36 #[.agg #[.slice A0_0 l0_0.length c0_0, .slice A0_1 l0_1.length c0_1], .agg #[.int .i64 a1_0, .int .i64 a1_1, .int .i64 a1_2, .int .i64 a1_3]] ?_; (with_reducible refine (spec_psSame.calls kj2 _ _ l0_0 _ _ l0_1 a1_0 a1_1 a1_2 a1_3 t395 _ ?s1 ?s2 ?s3 ?s4 A29.out).mono ?_); (case s1 => exact cq (Kd.C_below HR0_0.out HB.out)); (case s2 => exact HC0_0.out); (case s3 => exact cq (Kd.C_below HR0_1.out HB.out)); (case s4 => exact HC0_1.out); rintro e w53 ⟨rfl, hb⟩; refine ⟨_, rfl, ?_⟩; replace HO388 := rb HO388 hb; replace HO391 := rb HO391 hb; replace BK380 := zb BK380 hb; replace BK381 := zb BK381 hb; replace BK382 := zb BK382 hb; replace BK392 := zb BK392 hb; replace HB := sb hb; (try clear hb)))
         replace HO388 := Aside0.mk (Kd.R_drew HO388.out)
         replace HO391 := Aside0.mk (Kd.R_drew HO391.out)
         replace BK380 := Aside0.mk (blk_drew BK380.out)
         replace BK381 := Aside0.mk (blk_drew BK381.out)
         replace BK382 := Aside0.mk (blk_drew BK382.out)
         replace BK392 := Aside0.mk (blk_drew BK392.out)
         replace HB := Aside0.mk (below_drew1 HB.out)
         have p396 : 0 ≤ (t395 : Int) := of_decide_eq_true aq
         have q396 : t395 < (t389.length : Int) := of_decide_eq_true aq
         obtain ⟨ad396, e396, hx396_0, hx396_1, hx396_2, hx396_3⟩ := at_T41 (Kd.R_reads' HO391.out).2.2 t395 p396 q396
         cases e396
         replace p396 := eq_true p396
         replace q396 := eq_true q396
         have p33 : 0 ≤ (t395 : Int) := of_decide_eq_true aq
         have q33 : (t395 : Int) < ((t389.length : Int) : Int) := of_decide_eq_true aq
         obtain ⟨go33, co33, eo33, gb33, gl33, cl33, HG33⟩ := Kd.R_form HO391.out (by omega)
         (first | cases eo33 | (injection eo33 with ea_ en_ ec_; (first | subst ea_ | (injection ea_ with ea_; subst ea_)); subst ec_; clear en_))
         have GB33 := Aside0.mk gb33
         have GG33 := Aside0.mk HG33
         clear gb33 gl33 HG33
         (first | simp only [add_plain] at hx396_0 | skip)
         (first | simp only [add_plain] at hx396_1 | skip)
         (first | simp only [add_plain] at hx396_2 | skip)
         (first | simp only [add_plain] at hx396_3 | skip)
         obtain ⟨ce33, hcl33, hM33, hcc33, hfr33⟩ := Kd.R_elem HO391.out z41 (t395 : Int) p33 q33
         obtain rfl := k41_openM hM33
         have hx33_0 : World.cell? _ ⟨go33, (t395 : Int).toNat * 4, none⟩ = some (.int .i64 ((rd_T41 t389 t395).f0)) := hcc33 0 _ rfl
         have hx33_1 : World.cell? _ ⟨go33, (t395 : Int).toNat * 4 + 1, none⟩ = some (.int .i64 ((rd_T41 t389 t395).f1)) := hcc33 1 _ rfl
         have hx33_2 : World.cell? _ ⟨go33, (t395 : Int).toNat * 4 + 2, none⟩ = some (.int .i64 ((rd_T41 t389 t395).f2)) := hcc33 2 _ rfl
         have hx33_3 : World.cell? _ ⟨go33, (t395 : Int).toNat * 4 + 3, none⟩ = some (.int .i64 ((rd_T41 t389 t395).f3)) := hcc33 3 _ rfl
         have hf33_0 : World.frozen? _ ⟨go33, (t395 : Int).toNat * 4, none⟩ = false := hfr33 0
         have hf33_1 : World.frozen? _ ⟨go33, (t395 : Int).toNat * 4 + 1, none⟩ = false := hfr33 1
         have hf33_2 : World.frozen? _ ⟨go33, (t395 : Int).toNat * 4 + 2, none⟩ = false := hfr33 2
         have hf33_3 : World.frozen? _ ⟨go33, (t395 : Int).toNat * 4 + 3, none⟩ = false := hfr33 3
         clear hcl33 hcc33 hfr33 hM33
         replace p33 := eq_true p33
         replace q33 := eq_true q33
         obtain ⟨ce55, hcl55, hM55, hcc55, hfr55⟩ := Kd.R_elem HO391.out z41 (t395 : Int) (of_decide_eq_true aq) (by have h_ : (t395 : Int) < ((t389.length : Int) : Int) := of_decide_eq_true aq; first | exact h_ | (have e_ := (Kd.R_reads' HO391.out).1; omega) | simpa using h_)
         obtain rfl := k41_openM hM55
         have HP55 := (Kd.R_seg HO391.out (t395 : Int) (of_decide_eq_true aq) (by have h_ : (t395 : Int) < ((t389.length : Int) : Int) := of_decide_eq_true aq; first | exact h_ | (have e_ := (Kd.R_reads' HO391.out).1; omega) | simpa using h_) (seg := [.int .i64 (wrap64 (((rd_T41 t389 t395).f2) + a1_2))]) (j := 2) hcl55 hcc55 (show 3 ≤ 4 from by decide) (x' := (⟨(rd_T41 t389 t395).f0, (rd_T41 t389 t395).f1, wrap64 (((rd_T41 t389 t395).f2) + a1_2), (rd_T41 t389 t395).f3⟩ : S41)) (k41_mkM _ _ _ (⟨(rd_T41 t389 t395).f0, (rd_T41 t389 t395).f1, wrap64 (((rd_T41 t389 t395).f2) + a1_2), (rd_T41 t389 t395).f3⟩ : S41) ) (fun _ hk => hk)).1
         rw [← Ny397.out] at HP55
         have HQ55 := Aside0.mk HP55
         clear hcl55 hcc55 hfr55 hM55 HP55
         refine start_ (n := 12) (S := fun w' => w'.cell? ⟨gb392, 0, none⟩ = some (.slice (some ⟨go28, 0, none⟩) t386.length co40) ∧ w'.cell? ⟨gb392, 1, none⟩ = some (.slice (some ⟨go33, 0, none⟩) t389.length co45) ∧ w'.cell? ⟨gb381, 0, none⟩ = some (.int .i64 a1_0) ∧ w'.cell? ⟨gb381, 1, none⟩ = some (.int .i64 a1_1) ∧ w'.cell? ⟨gb381, 2, none⟩ = some (.int .i64 a1_2) ∧ w'.cell? ⟨gb381, 3, none⟩ = some (.int .i64 a1_3) ∧ w'.cell? ⟨go33, ((t395).toNat * 4), none⟩ = some (.int .i64 ((rd_T41 t389 t395).f0)) ∧ w'.cell? ⟨go33, ((t395).toNat * 4) + 1, none⟩ = some (.int .i64 ((rd_T41 t389 t395).f1)) ∧ w'.cell? ⟨go33, ((t395).toNat * 4) + 2, none⟩ = some (.int .i64 ((rd_T41 t389 t395).f2)) ∧ w'.cell? ⟨go33, ((t395).toNat * 4) + 3, none⟩ = some (.int .i64 ((rd_T41 t389 t395).f3))) (ds := [11]) #[false, false, false, false, false, false, false, false, false, false, false, false] (by kernel_rfl) rfl rfl ⟨(blk_cell BK392.out 0).trans rfl, (blk_cell BK392.out 1).trans rfl, (blk_cell BK381.out 0).trans rfl, (blk_cell BK381.out 1).trans rfl, (blk_cell BK381.out 2).trans rfl, (blk_cell BK381.out 3).trans rfl, hx396_0, hx396_1, hx396_2, hx396_3⟩ (fun hHeld => ?_); refine with_tabW spec_LendParts.tab7 spec_LendParts.bits7 (fun HT_ HW_ => ?_)
         generalize w53.drew = w54 at HO388 HO391 BK380 BK381 BK382 BK392 HB GG33 HQ55 hf33_0 hf33_1 hf33_2 hf33_3 hx33_0 hx33_1 hx33_2 hx33_3 hx396_0 hx396_1 hx396_2 hx396_3 hHeld ⊢
         refine pure_ (i := 0) (N := some 45) (v := ?_) (a' := ?_) #[true, false, false, false, false, false, false, false, false, false, false, false] rfl rfl (any_of HT_.out (by kernel_rfl)) (fun _ _ _ h => h) (Or.inl ⟨by rfl, ?_⟩) ?_ ?_
         rotate_left
         ·intro w'
          go_simp
          with_reducible rfl
         rotate_left
         ·simp only [Act.put, List.setIfInBounds_toArray, List.set_cons_zero, List.set_cons_succ, i64_w, i32_w]
          rfl
         refine pure_ (i := 2) (N := some 47) (v := ?_) (a' := ?_) #[true, false, true, false, false, false, false, false, false, false, false, false] rfl rfl (any_of HT_.out (by kernel_rfl)) (fun _ _ _ h => h) (Or.inl ⟨by rfl, ?_⟩) ?_ ?_
         rotate_left
         ·intro w'
          go_simp
          with_reducible rfl
         rotate_left
         ·simp only [Act.put, List.setIfInBounds_toArray, List.set_cons_zero, List.set_cons_succ, i64_w, i32_w]
          rfl
         refine pure_ (i := 6) (N := some 51) (v := ?_) (a' := ?_) #[true, false, true, false, false, false, true, false, false, false, false, false] rfl rfl (any_of HT_.out (by kernel_rfl)) (fun _ _ _ h => h) (Or.inl ⟨by rfl, ?_⟩) ?_ ?_
         rotate_left
         ·intro w'
          go_simp
          with_reducible rfl
         rotate_left
         ·simp only [Act.put, List.setIfInBounds_toArray, List.set_cons_zero, List.set_cons_succ, i64_w, i32_w]
          rfl
         refine take_ (i := 1) (N := some 46) (v := ?_) (a' := ?_) #[true, true, true, false, false, false, true, false, false, false, false, false] rfl rfl (take_ofW HT_.out HW_.out (by kernel_rfl)) (fun _ _ _ h => h) (Or.inl ⟨by rfl, ?_⟩) hHeld ?_ ?_
         rotate_left
         ·rintro w' ⟨s0, s1, s2, s3, s4, s5, s6, s7, s8, s9⟩
          go_simp
          with_reducible rfl
         rotate_left
         ·simp only [Act.put, List.setIfInBounds_toArray, List.set_cons_zero, List.set_cons_succ, i64_w, i32_w]
          rfl
         refine pure_ (i := 3) (N := some 48) (v := ?_) (a' := ?_) #[true, true, true, true, false, false, true, false, false, false, false, false] rfl rfl (any_of HT_.out (by kernel_rfl)) (fun _ _ _ h => h) (Or.inl ⟨by rfl, ?_⟩) ?_ ?_
         rotate_left
         ·intro w'
          go_simp
          with_reducible rfl
         rotate_left
         ·simp only [Act.put, List.setIfInBounds_toArray, List.set_cons_zero, List.set_cons_succ, i64_w, i32_w]
          rfl
         refine pure_ (i := 4) (N := some 49) (v := ?_) (a' := ?_) #[true, true, true, true, true, false, true, false, false, false, false, false] rfl rfl (any_of HT_.out (by kernel_rfl)) (fun _ _ _ h => h) (Or.inl ⟨by rfl, ?_⟩) ?_ ?_
         rotate_left
         ·intro w'
          go_simp
          with_reducible rfl
         rotate_left
         ·simp only [Act.put, List.setIfInBounds_toArray, List.set_cons_zero, List.set_cons_succ, i64_w, i32_w]
          rfl
         refine take_ (i := 5) (N := some 50) (v := ?_) (a' := ?_) #[true, true, true, true, true, true, true, false, false, false, false, false] rfl rfl (take_ofW HT_.out HW_.out (by kernel_rfl)) (fun _ _ _ h => h) (Or.inl ⟨by rfl, ?_⟩) hHeld ?_ ?_
         rotate_left
         ·rintro w' ⟨s0, s1, s2, s3, s4, s5, s6, s7, s8, s9⟩
          go_simp
          with_reducible rfl
         rotate_left
         ·simp only [Act.put, List.setIfInBounds_toArray, List.set_cons_zero, List.set_cons_succ, i64_w, i32_w]
          rfl
         refine take_ (i := 7) (N := some 52) (v := ?_) (a' := ?_) #[true, true, true, true, true, true, true, true, false, false, false, false] rfl rfl (take_ofW HT_.out HW_.out (by kernel_rfl)) (fun _ _ _ h => h) (Or.inl ⟨by rfl, ?_⟩) hHeld ?_ ?_
         rotate_left
         ·rintro w' ⟨s0, s1, s2, s3, s4, s5, s6, s7, s8, s9⟩
          go_simp
          with_reducible rfl
         rotate_left
         ·simp only [Act.put, List.setIfInBounds_toArray, List.set_cons_zero, List.set_cons_succ, i64_w, i32_w]
          rfl
         refine pure_ (i := 8) (N := some 53) (v := ?_) (a' := ?_) #[true, true, true, true, true, true, true, true, true, false, false, false] rfl rfl (any_of HT_.out (by kernel_rfl)) (fun _ _ _ h => h) (Or.inl ⟨by rfl, ?_⟩) ?_ ?_
         rotate_left
         ·intro w'
          go_simp
          with_reducible rfl
         rotate_left
         ·simp only [Act.put, List.setIfInBounds_toArray, List.set_cons_zero, List.set_cons_succ, i64_w, i32_w]
          rfl
         refine pure_ (i := 9) (N := some 54) (v := ?_) (a' := ?_) #[true, true, true, true, true, true, true, true, true, true, false, false] rfl rfl (any_of HT_.out (by kernel_rfl)) (fun _ _ _ h => h) (Or.inl ⟨by rfl, ?_⟩) ?_ ?_
         rotate_left
         ·intro w'
          go_simp
          with_reducible rfl
         rotate_left
         ·simp only [Act.put, List.setIfInBounds_toArray, List.set_cons_zero, List.set_cons_succ, i64_w, i32_w]
          rfl
         refine pure_ (i := 10) (N := some 55) (v := ?_) (a' := ?_) #[true, true, true, true, true, true, true, true, true, true, true, false] rfl rfl (any_of HT_.out (by kernel_rfl)) (fun _ _ _ h => h) (Or.inl ⟨by rfl, ?_⟩) ?_ ?_
         rotate_left
         ·intro w'
          go_simp
          with_reducible rfl
         rotate_left
         ·simp only [Act.put, List.setIfInBounds_toArray, List.set_cons_zero, List.set_cons_succ, i64_w, i32_w]
          rfl
         refine last_ (i := 11) (N := none) #[true, true, true, true, true, true, true, true, true, true, true, true] rfl rfl (one_of HT_.out (by kernel_rfl)) (by decide) (fun K hK => ?_)
         refine skip_ (w1 := ?_) (by rfl) rfl ?_ ?_
         rotate_left
         ·go_simp
          rfl
         refine hK.out _ _ ?_
         clear hK K
         refine done_ (done_of HT_.out (by kernel_rfl)) ?_
         have n0_ : Aside0 (Kd.R (Kd.int .i64) 3 (w54.setCell ⟨go33, (t395 : Int).toNat * 4 + 2, none⟩ (.int .i64 (wrap64 (((rd_T41 t389 t395).f2) + a1_2)))) w.heap.size (fun _ => True) (.slice (some ⟨go28, 0, none⟩) t386.length co40) y394) := ⟨by (with_reducible repeat (first | apply Kd.R_alloc | apply Kd.R_drewN | apply Kd.R_drew)); exact Kd.R_mono (Kd.R_far (p := ⟨go33, (t395 : Int).toNat * 4 + 2, none⟩) (Kd.R_types HO388.out GG33.out (by decide)) (fun _ hk => hk.2) (.int .i64 (wrap64 (((rd_T41 t389 t395).f2) + a1_2)))) (fun _ hk => trivial)⟩
         have n1_ : Aside0 (Kd.R k41 41 (w54.setCell ⟨go33, (t395 : Int).toNat * 4 + 2, none⟩ (.int .i64 (wrap64 (((rd_T41 t389 t395).f2) + a1_2)))) w.heap.size (fun k_ => k_ ≠ gb381) (.slice (some ⟨go33, 0, none⟩) t389.length co45) y397) := ⟨rq HQ55⟩
         have n2_ : Aside0 ((w54.setCell ⟨go33, (t395 : Int).toNat * 4 + 2, none⟩ (.int .i64 (wrap64 (((rd_T41 t389 t395).f2) + a1_2)))).heap[gb380]? = some (.cells #[.slice A0_0 l0_0.length c0_0, .slice A0_1 l0_1.length c0_1] 29 (0, 0))) := ⟨by (with_reducible repeat (first | refine blk_drewN ?_ _ | refine blk_drew ?_ | refine blk_alloc ?_ _)); refine blk_far ?_ (by have h_ := Kd.R_ne HO391.out BK380.out (by decide); intro e_; exact h_ (by rw [e_]; rfl)) _; (with_reducible repeat (first | refine blk_drewN ?_ _ | refine blk_drew ?_ | refine blk_alloc ?_ _)); exact BK380.out⟩
         have n3_ : Aside0 ((w54.setCell ⟨go33, (t395 : Int).toNat * 4 + 2, none⟩ (.int .i64 (wrap64 (((rd_T41 t389 t395).f2) + a1_2)))).heap[gb381]? = some (.cells #[.int .i64 a1_0, .int .i64 a1_1, .int .i64 a1_2, .int .i64 a1_3] 41 (0, 0))) := ⟨by (with_reducible repeat (first | refine blk_drewN ?_ _ | refine blk_drew ?_ | refine blk_alloc ?_ _)); refine blk_far ?_ (by have h_ := Kd.R_away HO391.out (fun _ hk => hk); intro e_; exact h_ (by rw [e_]; rfl)) _; (with_reducible repeat (first | refine blk_drewN ?_ _ | refine blk_drew ?_ | refine blk_alloc ?_ _)); exact BK381.out⟩
         have n4_ : Aside0 ((w54.setCell ⟨go33, (t395 : Int).toNat * 4 + 2, none⟩ (.int .i64 (wrap64 (((rd_T41 t389 t395).f2) + a1_2)))).heap[gb382]? = some (.cells #[.slice none 0 0, .slice none 0 0] 29 (0, 0))) := ⟨by (with_reducible repeat (first | refine blk_drewN ?_ _ | refine blk_drew ?_ | refine blk_alloc ?_ _)); refine blk_far ?_ (by have h_ := Kd.R_ne HO391.out BK382.out (by decide); intro e_; exact h_ (by rw [e_]; rfl)) _; (with_reducible repeat (first | refine blk_drewN ?_ _ | refine blk_drew ?_ | refine blk_alloc ?_ _)); exact BK382.out⟩
         have n5_ : Aside0 ((w54.setCell ⟨go33, (t395 : Int).toNat * 4 + 2, none⟩ (.int .i64 (wrap64 (((rd_T41 t389 t395).f2) + a1_2)))).heap[gb392]? = some (.cells #[.slice (some ⟨go28, 0, none⟩) t386.length co40, .slice (some ⟨go33, 0, none⟩) t389.length co45] 29 (0, 0))) := ⟨by (with_reducible repeat (first | refine blk_drewN ?_ _ | refine blk_drew ?_ | refine blk_alloc ?_ _)); refine blk_far ?_ (by have h_ := Kd.R_ne HO391.out BK392.out (by decide); intro e_; exact h_ (by rw [e_]; rfl)) _; (with_reducible repeat (first | refine blk_drewN ?_ _ | refine blk_drew ?_ | refine blk_alloc ?_ _)); exact BK392.out⟩
         have n6_ : Aside0 (Below w.heap.size w (w54.setCell ⟨go33, (t395 : Int).toNat * 4 + 2, none⟩ (.int .i64 (wrap64 (((rd_T41 t389 t395).f2) + a1_2))))) := ⟨bq⟩
         (try clear HO388)
         (try clear HO391)
         (try clear BK380)
         (try clear BK381)
         (try clear BK382)
         (try clear BK392)
         (try clear HB)
         generalize (w54.setCell ⟨go33, (t395 : Int).toNat * 4 + 2, none⟩ (.int .i64 (wrap64 (((rd_T41 t389 t395).f2) + a1_2)))) = w56 at n0_ n1_ n2_ n3_ n4_ n5_ n6_ ⊢
         have HO388 := n0_
         have HO391 := n1_
         have BK380 := n2_
         have BK381 := n3_
         have BK382 := n4_
         have BK392 := n5_
         have HB := n6_
         clear n0_ n1_ n2_ n3_ n4_ n5_ n6_
         have ⟨hcz57_0, hcz57_1, hfz57_0, hfz57_1⟩ := bc2 BK392
         try go_wp2_with (first | ((with_reducible refine gate_callee (f := 41) rfl ?_); refine goesQ (some 63) Try.func41 #[.agg #[.slice (some ⟨go28, 0, none⟩) t386.length co40, .slice (some ⟨go33, 0, none⟩) t389.length co45]] ?_; (with_reducible refine (spec_psIf.calls kj2 (fun k_ => some k_ = (.slice (some ⟨go28, 0, none⟩) t386.length co40 : Value).ownBlock) (.slice (some ⟨go28, 0, none⟩) t386.length co40) y394 (fun k_ => some k_ = (.slice (some ⟨go33, 0, none⟩) t389.length co45 : Value).ownBlock) (.slice (some ⟨go33, 0, none⟩) t389.length co45) y397 t398 t401 t404 w _ ?s1 ?s2 ?s3 A34.out).mono ?_); (case s1 => repeat (first | (with_reducible first | exact HB.out | apply below_alloc | apply pw_below_drewN | apply below_drew1 | refine below_set ?_ GE380.out | refine below_set ?_ GE381.out | refine below_set ?_ GE382.out | refine below_set ?_ GE392.out) | exact HB.out)); (case s2 => exact Kd.R_tight rfl HO388.out); (case s3 => exact Kd.R_tight rfl HO391.out); rintro e w58 ⟨v399, v402, rfl, ho0, ho1, hb, hkp⟩; refine ⟨_, rfl, ?_⟩; have n0_ := Aside0.mk (blk_kept (zq BK380) hkp (fun hs_ => Or.elim hs_ (fun e_ => (fun e_ => (Kd.R_ne HO388.out BK380.out (by decide)) e_) e_) (fun e_ => (fun e_ => (Kd.R_ne HO391.out BK380.out (by decide)) e_) e_))); have n1_ := Aside0.mk (blk_kept (zq BK381) hkp (fun hs_ => Or.elim hs_ (fun e_ => (fun e_ => (Kd.R_ne HO388.out BK381.out (by decide)) e_) e_) (fun e_ => (fun e_ => (Kd.R_away HO391.out (fun _ hk => hk)) e_) e_))); have n2_ := Aside0.mk (blk_kept (zq BK382) hkp (fun hs_ => Or.elim hs_ (fun e_ => (fun e_ => (Kd.R_ne HO388.out BK382.out (by decide)) e_) e_) (fun e_ => (fun e_ => (Kd.R_ne HO391.out BK382.out (by decide)) e_) e_))); have n3_ := Aside0.mk (blk_kept (zq BK392) hkp (fun hs_ => Or.elim hs_ (fun e_ => (fun e_ => (Kd.R_ne HO388.out BK392.out (by decide)) e_) e_) (fun e_ => (fun e_ => (Kd.R_ne HO391.out BK392.out (by decide)) e_) e_))); have n4_ := Aside0.mk (Kd.R_mono (ok' := fun k_ => True) ho0 (fun k_ hk_ => trivial)); have n5_ := Aside0.mk (Kd.R_mono (ok' := fun k_ => k_ ≠ gb381) ho1 (fun k_ hk_ => Or.elim hk_ (fun hs_ => Or.elim hs_ (fun hs_ => fun e_ => (Kd.R_ne HO388.out BK381.out (by decide)) (by rw [← e_]; exact hs_)) (fun hs_ => fun e_ => (Kd.R_away HO391.out (fun _ hk => hk)) (by rw [← e_]; exact hs_))) (fun hn_ => (Kd.freshB (g := gb381) (o := .cells #[.int .i64 a1_0, .int .i64 a1_1, .int .i64 a1_2, .int .i64 a1_3] 41 (0, 0)) (zq BK381) k_ hn_)))); have n6_ := Aside0.mk (hb); clear BK380; clear BK381; clear BK382; clear BK392; clear HB; clear HO388; clear HO391; have BK380 := n0_; have BK381 := n1_; have BK382 := n2_; have BK392 := n3_; have HO400 := n4_; have HO403 := n5_; have HB := n6_; clear n0_ n1_ n2_ n3_ n4_ n5_ n6_; (try clear hb hkp ho0 ho1); obtain ⟨Ao59, co59, eo59⟩ := Kd.R_slice HO400.out; subst eo59; have ⟨hcz60_0, hcz60_1, hfz60_0, hfz60_1⟩ := bc2 BK382; obtain ⟨Ao61, co61, eo61⟩ := Kd.R_slice HO403.out; subst eo61))
         refine bodyPost_ret (results_ct rfl _ _ gb382 29 #[.slice Ao59 t398.length co59, .slice Ao61 t401.length co61] (0, 0) _ rfl (by (with_reducible repeat (first | refine blk_drewN ?_ _ | refine blk_drew ?_ | refine blk_alloc ?_ _)); refine blk_put (cs := #[.slice Ao59 t398.length co59, .slice none 0 0]) ?_ 1 _ rfl; (with_reducible repeat (first | refine blk_drewN ?_ _ | refine blk_drew ?_ | refine blk_alloc ?_ _)); refine blk_put (cs := #[.slice none 0 0, .slice none 0 0]) ?_ 0 _ rfl; (with_reducible repeat (first | refine blk_drewN ?_ _ | refine blk_drew ?_ | refine blk_alloc ?_ _)); exact BK382.out) Try.underlying29 rfl (by kernel_rfl)) rfl ?_
         exact ⟨_, _, eq_, by (with_reducible repeat (first | apply Kd.R_alloc | apply Kd.R_drewN | apply Kd.R_drew)); exact Kd.R_mono (Kd.R_far (p := ⟨gb382, 1, none⟩) (Kd.R_far (p := ⟨gb382, 0, none⟩) (Kd.R_types HO400.out BK382.out (by decide)) (fun _ hk => hk.2) (.slice Ao59 t398.length co59)) (fun _ hk => hk.2) (.slice Ao61 t401.length co61)) (fun _ hk => trivial), by (with_reducible repeat (first | apply Kd.R_alloc | apply Kd.R_drewN | apply Kd.R_drew)); exact Kd.R_mono (Kd.R_far (p := ⟨gb382, 1, none⟩) (Kd.R_far (p := ⟨gb382, 0, none⟩) (Kd.R_types HO403.out BK382.out (by decide)) (fun _ hk => hk.2) (.slice Ao59 t398.length co59)) (fun _ hk => hk.2) (.slice Ao61 t401.length co61)) (fun _ hk => trivial), bq⟩
        ·rw [if_neg c32] at H
         exact absurd H (by simp)
       ·rw [if_neg c31] at H
        exact absurd H (by simp)
      ·rw [if_neg c30] at H
       have c30b0 : decide (0 ≤ t395) = false := decide_eq_false c30
       clear c30
       by_cases c62 : t389.length < 4398046511104
       ·rw [if_pos c62] at H
        have LMc62 := Aside0.mk c62
        clear c62
        obtain ⟨y405, hy405⟩ : ∃ y_ : List (S41), y_ = (t389 ++ [(⟨a1_0, a1_1, a1_2, a1_3⟩ : S41)]) := ⟨_, rfl⟩
        replace H : ((spec_psIf.f kj2 y394 y405).bind fun bt408 => (some (bt408.1, bt408.2.1, bt408.2.2))) = some (r1, r2, r3) := by first | (rw [hy405]; with_reducible exact H) | (have H2_ := (Option.bind_some _ _).symm.trans H; rw [hy405]; with_reducible exact H2_) | (have H2_ := (Option.bind_some _ _).symm.trans H; with_reducible exact H2_) | with_reducible exact H | (rw [hy405]; exact H) | exact H
        have Ny405 := Aside0.mk hy405
        clear hy405
        replace H := Option.bind_eq_some_iff.mp H
        obtain ⟨⟨t408, t411, t414⟩, A630, H⟩ := H
        replace H : (some (t408, t411, t414)) = some (r1, r2, r3) := H
        have A63 := Aside0.mk A630
        clear A630
        simp only [Option.some.injEq, Prod.mk.injEq] at H
        obtain ⟨rfl, rfl, rfl⟩ := H
        have hnb64 := NB380_381.out
        have hnc64 := NB381_380.out
        have hnb65 := NB380_382.out
        have hnc65 := NB382_380.out
        have ⟨hcz66_0, hcz66_1, hfz66_0, hfz66_1⟩ := bc2 BK380
        try go_wp2_with (first | ((with_reducible refine gate_callee (f := 24) rfl ?_); refine goesQ (some 29) Try.func24 #[.agg #[.slice A0_0 l0_0.length c0_0, .slice A0_1 l0_1.length c0_1]] ?_; (with_reducible refine (spec_psOwn.calls _ _ l0_0 _ _ l0_1 t386 t389 _ ?s1 ?s2 ?s3 ?s4 A25.out).mono ?_); (case s1 => exact cq (Kd.C_below HR0_0.out HB.out)); (case s2 => exact HC0_0.out); (case s3 => exact cq (Kd.C_below HR0_1.out HB.out)); (case s4 => exact HC0_1.out); rintro e w67 ⟨v387, v390, rfl, ho0, ho1, hb⟩; refine ⟨_, rfl, ?_⟩; have HO388 := rl ho0; have HO391 := Aside0.mk (Kd.R_lower (Kd.R_newB ho1 (g := gb381) (o := .cells #[.int .i64 a1_0, .int .i64 a1_1, .int .i64 a1_2, .int .i64 a1_3] 41 (0, 0)) (zq BK381)) (below_size bq)); replace BK380 := zb BK380 hb; replace BK381 := zb BK381 hb; replace BK382 := zb BK382 hb; replace HB := sb hb; (try clear hb ho0 ho1)) | ((with_reducible refine gate_dst (N := 6) rfl ?_); refine box_event ?hg (N := 6) ?hd (cs := #[.slice none 0 0, .slice none 0 0]) (t := 29) ?hr ?_; (case hd => rfl); (case hg => rfl); (case hr => first | (go_simp; done) | (go_simp; rfl)); intro gb392 hg w68 hbox hb; replace HO388 := rb HO388 hb; replace HO391 := rb HO391 hb; have BK392 := Aside0.mk (hbox); have GE392 := Aside0.mk (gq hg); replace HB := sb hb; have NB380_392 := nl hg BK380; have NB392_380 := ng hg BK380; replace BK380 := zb BK380 hb; have NB381_392 := nl hg BK381; have NB392_381 := ng hg BK381; replace BK381 := zb BK381 hb; have NB382_392 := nl hg BK382; have NB392_382 := ng hg BK382; replace BK382 := zb BK382 hb; clear hb hbox hg; obtain ⟨Ao69, co69, eo69⟩ := Kd.R_slice HO388.out; subst eo69; have hnb70 := NB392_380.out; have hnc70 := NB380_392.out; have hnb71 := NB392_381.out; have hnc71 := NB381_392.out; have hnb72 := NB392_382.out; have hnc72 := NB382_392.out; have ⟨hcz73_0, hcz73_1, hfz73_0, hfz73_1⟩ := bc2 BK392; obtain ⟨Ao74, co74, eo74⟩ := Kd.R_slice HO391.out; subst eo74))
        have n0_ : Aside0 (Kd.R (Kd.int .i64) 3 ((w68.setCell ⟨gb392, 0, none⟩ (.slice Ao69 t386.length co69)).setCell ⟨gb392, 1, none⟩ (.slice Ao74 t389.length co74)) w.heap.size (fun _ => True) (.slice Ao69 t386.length co69) t386) := ⟨by (with_reducible repeat (first | apply Kd.R_alloc | apply Kd.R_drewN | apply Kd.R_drew)); exact Kd.R_mono (Kd.R_far (p := ⟨gb392, 1, none⟩) (Kd.R_far (p := ⟨gb392, 0, none⟩) (Kd.R_types HO388.out BK392.out (by decide)) (fun _ hk => hk.2) (.slice Ao69 t386.length co69)) (fun _ hk => hk.2) (.slice Ao74 t389.length co74)) (fun _ hk => trivial)⟩
        have n1_ : Aside0 (Kd.R k41 41 ((w68.setCell ⟨gb392, 0, none⟩ (.slice Ao69 t386.length co69)).setCell ⟨gb392, 1, none⟩ (.slice Ao74 t389.length co74)) w.heap.size (fun k_ => k_ ≠ gb381) (.slice Ao74 t389.length co74) t389) := ⟨by (with_reducible repeat (first | apply Kd.R_alloc | apply Kd.R_drewN | apply Kd.R_drew)); exact Kd.R_mono (Kd.R_far (p := ⟨gb392, 1, none⟩) (Kd.R_far (p := ⟨gb392, 0, none⟩) (Kd.R_types HO391.out BK392.out (by decide)) (fun _ hk => hk.2) (.slice Ao69 t386.length co69)) (fun _ hk => hk.2) (.slice Ao74 t389.length co74)) (fun _ hk => hk.1.2)⟩
        have n2_ : Aside0 (((w68.setCell ⟨gb392, 0, none⟩ (.slice Ao69 t386.length co69)).setCell ⟨gb392, 1, none⟩ (.slice Ao74 t389.length co74)).heap[gb380]? = some (.cells #[.slice A0_0 l0_0.length c0_0, .slice A0_1 l0_1.length c0_1] 29 (0, 0))) := ⟨by (with_reducible repeat (first | refine blk_drewN ?_ _ | refine blk_drew ?_ | refine blk_alloc ?_ _)); refine blk_far ?_ NB380_392.out _; (with_reducible repeat (first | refine blk_drewN ?_ _ | refine blk_drew ?_ | refine blk_alloc ?_ _)); refine blk_far ?_ NB380_392.out _; (with_reducible repeat (first | refine blk_drewN ?_ _ | refine blk_drew ?_ | refine blk_alloc ?_ _)); exact BK380.out⟩
        have n3_ : Aside0 (((w68.setCell ⟨gb392, 0, none⟩ (.slice Ao69 t386.length co69)).setCell ⟨gb392, 1, none⟩ (.slice Ao74 t389.length co74)).heap[gb381]? = some (.cells #[.int .i64 a1_0, .int .i64 a1_1, .int .i64 a1_2, .int .i64 a1_3] 41 (0, 0))) := ⟨by (with_reducible repeat (first | refine blk_drewN ?_ _ | refine blk_drew ?_ | refine blk_alloc ?_ _)); refine blk_far ?_ NB381_392.out _; (with_reducible repeat (first | refine blk_drewN ?_ _ | refine blk_drew ?_ | refine blk_alloc ?_ _)); refine blk_far ?_ NB381_392.out _; (with_reducible repeat (first | refine blk_drewN ?_ _ | refine blk_drew ?_ | refine blk_alloc ?_ _)); exact BK381.out⟩
        have n4_ : Aside0 (((w68.setCell ⟨gb392, 0, none⟩ (.slice Ao69 t386.length co69)).setCell ⟨gb392, 1, none⟩ (.slice Ao74 t389.length co74)).heap[gb382]? = some (.cells #[.slice none 0 0, .slice none 0 0] 29 (0, 0))) := ⟨by (with_reducible repeat (first | refine blk_drewN ?_ _ | refine blk_drew ?_ | refine blk_alloc ?_ _)); refine blk_far ?_ NB382_392.out _; (with_reducible repeat (first | refine blk_drewN ?_ _ | refine blk_drew ?_ | refine blk_alloc ?_ _)); refine blk_far ?_ NB382_392.out _; (with_reducible repeat (first | refine blk_drewN ?_ _ | refine blk_drew ?_ | refine blk_alloc ?_ _)); exact BK382.out⟩
        have n5_ : Aside0 (((w68.setCell ⟨gb392, 0, none⟩ (.slice Ao69 t386.length co69)).setCell ⟨gb392, 1, none⟩ (.slice Ao74 t389.length co74)).heap[gb392]? = some (.cells #[.slice Ao69 t386.length co69, .slice Ao74 t389.length co74] 29 (0, 0))) := ⟨by (with_reducible repeat (first | refine blk_drewN ?_ _ | refine blk_drew ?_ | refine blk_alloc ?_ _)); refine blk_put (cs := #[.slice Ao69 t386.length co69, .slice none 0 0]) ?_ 1 _ rfl; (with_reducible repeat (first | refine blk_drewN ?_ _ | refine blk_drew ?_ | refine blk_alloc ?_ _)); refine blk_put (cs := #[.slice none 0 0, .slice none 0 0]) ?_ 0 _ rfl; (with_reducible repeat (first | refine blk_drewN ?_ _ | refine blk_drew ?_ | refine blk_alloc ?_ _)); exact BK392.out⟩
        have n6_ : Aside0 (Below w.heap.size w ((w68.setCell ⟨gb392, 0, none⟩ (.slice Ao69 t386.length co69)).setCell ⟨gb392, 1, none⟩ (.slice Ao74 t389.length co74))) := ⟨bq⟩
        (try clear HO388)
        (try clear HO391)
        (try clear BK380)
        (try clear BK381)
        (try clear BK382)
        (try clear BK392)
        (try clear HB)
        generalize ((w68.setCell ⟨gb392, 0, none⟩ (.slice Ao69 t386.length co69)).setCell ⟨gb392, 1, none⟩ (.slice Ao74 t389.length co74)) = w75 at n0_ n1_ n2_ n3_ n4_ n5_ n6_ ⊢
        have HO388 := n0_
        have HO391 := n1_
        have BK380 := n2_
        have BK381 := n3_
        have BK382 := n4_
        have BK392 := n5_
        have HB := n6_
        clear n0_ n1_ n2_ n3_ n4_ n5_ n6_
        replace HO388 := Aside0.mk (Kd.R_drew HO388.out)
        replace HO391 := Aside0.mk (Kd.R_drew HO391.out)
        replace BK380 := Aside0.mk (blk_drew BK380.out)
        replace BK381 := Aside0.mk (blk_drew BK381.out)
        replace BK382 := Aside0.mk (blk_drew BK382.out)
        replace BK392 := Aside0.mk (blk_drew BK392.out)
        replace HB := Aside0.mk (below_drew1 HB.out)
        have p393 : 0 ≤ (a1_1 : Int) := of_decide_eq_true aq
        have q393 : a1_1 < (t386.length : Int) := of_decide_eq_true aq
        obtain ⟨ad393, e393, hx393_0⟩ := Kd.at_int (Kd.R_reads' HO388.out).2.2 a1_1 p393 q393
        cases e393
        replace p393 := eq_true p393
        replace q393 := eq_true q393
        have p28 : 0 ≤ (a1_1 : Int) := of_decide_eq_true aq
        have q28 : (a1_1 : Int) < ((t386.length : Int) : Int) := of_decide_eq_true aq
        obtain ⟨go28, co28, eo28, gb28, gl28, cl28, HG28⟩ := Kd.R_form HO388.out (by omega)
        (first | cases eo28 | (injection eo28 with ea_ en_ ec_; (first | subst ea_ | (injection ea_ with ea_; subst ea_)); subst ec_; clear en_))
        have GB28 := Aside0.mk gb28
        have GG28 := Aside0.mk HG28
        clear gb28 gl28 HG28
        (first | simp only [add_plain] at hx393_0 | skip)
        obtain ⟨hx28_0, hf28_0⟩ := Kd.R_celln 0 HO388.out (a1_1 : Int) p28 q28
        replace p28 := eq_true p28
        replace q28 := eq_true q28
        have HP77 := Kd.R_putn HO388.out (a1_1 : Int) (wrap64 ((rd t386 a1_1) - a1_2))
        rw [← Ny394.out] at HP77
        have HQ77 := Aside0.mk HP77
        clear HP77
        refine start_ (n := 11) (S := fun w' => w'.cell? ⟨gb392, 0, none⟩ = some (.slice (some ⟨go28, 0, none⟩) t386.length co69) ∧ w'.cell? ⟨gb392, 1, none⟩ = some (.slice Ao74 t389.length co74) ∧ w'.cell? ⟨gb381, 0, none⟩ = some (.int .i64 a1_0) ∧ w'.cell? ⟨gb381, 1, none⟩ = some (.int .i64 a1_1) ∧ w'.cell? ⟨gb381, 2, none⟩ = some (.int .i64 a1_2) ∧ w'.cell? ⟨gb381, 3, none⟩ = some (.int .i64 a1_3) ∧ w'.cell? ⟨go28, (a1_1).toNat, none⟩ = some (.int .i64 (rd t386 a1_1))) (ds := [10]) #[false, false, false, false, false, false, false, false, false, false, false] (by kernel_rfl) rfl rfl ⟨(blk_cell BK392.out 0).trans rfl, (blk_cell BK392.out 1).trans rfl, (blk_cell BK381.out 0).trans rfl, (blk_cell BK381.out 1).trans rfl, (blk_cell BK381.out 2).trans rfl, (blk_cell BK381.out 3).trans rfl, hx393_0⟩ (fun hHeld => ?_); refine with_tabW spec_LendParts.tab4 spec_LendParts.bits4 (fun HT_ HW_ => ?_)
        generalize w75.drew = w76 at HO388 HO391 BK380 BK381 BK382 BK392 HB GG28 HQ77 hf28_0 hx28_0 hx393_0 hHeld ⊢
        refine pure_ (i := 0) (N := some 30) (v := ?_) (a' := ?_) #[true, false, false, false, false, false, false, false, false, false, false] rfl rfl (any_of HT_.out (by kernel_rfl)) (fun _ _ _ h => h) (Or.inl ⟨by rfl, ?_⟩) ?_ ?_
        rotate_left
        ·intro w'
         go_simp
         with_reducible rfl
        rotate_left
        ·simp only [Act.put, List.setIfInBounds_toArray, List.set_cons_zero, List.set_cons_succ, i64_w, i32_w]
         rfl
        refine pure_ (i := 2) (N := some 32) (v := ?_) (a' := ?_) #[true, false, true, false, false, false, false, false, false, false, false] rfl rfl (any_of HT_.out (by kernel_rfl)) (fun _ _ _ h => h) (Or.inl ⟨by rfl, ?_⟩) ?_ ?_
        rotate_left
        ·intro w'
         go_simp
         with_reducible rfl
        rotate_left
        ·simp only [Act.put, List.setIfInBounds_toArray, List.set_cons_zero, List.set_cons_succ, i64_w, i32_w]
         rfl
        refine pure_ (i := 6) (N := some 36) (v := ?_) (a' := ?_) #[true, false, true, false, false, false, true, false, false, false, false] rfl rfl (any_of HT_.out (by kernel_rfl)) (fun _ _ _ h => h) (Or.inl ⟨by rfl, ?_⟩) ?_ ?_
        rotate_left
        ·intro w'
         go_simp
         with_reducible rfl
        rotate_left
        ·simp only [Act.put, List.setIfInBounds_toArray, List.set_cons_zero, List.set_cons_succ, i64_w, i32_w]
         rfl
        refine take_ (i := 1) (N := some 31) (v := ?_) (a' := ?_) #[true, true, true, false, false, false, true, false, false, false, false] rfl rfl (take_ofW HT_.out HW_.out (by kernel_rfl)) (fun _ _ _ h => h) (Or.inl ⟨by rfl, ?_⟩) hHeld ?_ ?_
        rotate_left
        ·rintro w' ⟨s0, s1, s2, s3, s4, s5, s6⟩
         go_simp
         with_reducible rfl
        rotate_left
        ·simp only [Act.put, List.setIfInBounds_toArray, List.set_cons_zero, List.set_cons_succ, i64_w, i32_w]
         rfl
        refine take_ (i := 3) (N := some 33) (v := ?_) (a' := ?_) #[true, true, true, true, false, false, true, false, false, false, false] rfl rfl (take_ofW HT_.out HW_.out (by kernel_rfl)) (fun _ _ _ h => h) (Or.inl ⟨by rfl, ?_⟩) hHeld ?_ ?_
        rotate_left
        ·rintro w' ⟨s0, s1, s2, s3, s4, s5, s6⟩
         go_simp
         with_reducible rfl
        rotate_left
        ·simp only [Act.put, List.setIfInBounds_toArray, List.set_cons_zero, List.set_cons_succ, i64_w, i32_w]
         rfl
        refine pure_ (i := 4) (N := some 34) (v := ?_) (a' := ?_) #[true, true, true, true, true, false, true, false, false, false, false] rfl rfl (any_of HT_.out (by kernel_rfl)) (fun _ _ _ h => h) (Or.inl ⟨by rfl, ?_⟩) ?_ ?_
        rotate_left
        ·intro w'
         go_simp
         with_reducible rfl
        rotate_left
        ·simp only [Act.put, List.setIfInBounds_toArray, List.set_cons_zero, List.set_cons_succ, i64_w, i32_w]
         rfl
        refine take_ (i := 5) (N := some 35) (v := ?_) (a' := ?_) #[true, true, true, true, true, true, true, false, false, false, false] rfl rfl (take_ofW HT_.out HW_.out (by kernel_rfl)) (fun _ _ _ h => h) (Or.inl ⟨by rfl, ?_⟩) hHeld ?_ ?_
        rotate_left
        ·rintro w' ⟨s0, s1, s2, s3, s4, s5, s6⟩
         go_simp
         with_reducible rfl
        rotate_left
        ·simp only [Act.put, List.setIfInBounds_toArray, List.set_cons_zero, List.set_cons_succ, i64_w, i32_w]
         rfl
        refine take_ (i := 7) (N := some 37) (v := ?_) (a' := ?_) #[true, true, true, true, true, true, true, true, false, false, false] rfl rfl (take_ofW HT_.out HW_.out (by kernel_rfl)) (fun _ _ _ h => h) (Or.inl ⟨by rfl, ?_⟩) hHeld ?_ ?_
        rotate_left
        ·rintro w' ⟨s0, s1, s2, s3, s4, s5, s6⟩
         go_simp
         with_reducible rfl
        rotate_left
        ·simp only [Act.put, List.setIfInBounds_toArray, List.set_cons_zero, List.set_cons_succ, i64_w, i32_w]
         rfl
        refine pure_ (i := 8) (N := some 38) (v := ?_) (a' := ?_) #[true, true, true, true, true, true, true, true, true, false, false] rfl rfl (any_of HT_.out (by kernel_rfl)) (fun _ _ _ h => h) (Or.inl ⟨by rfl, ?_⟩) ?_ ?_
        rotate_left
        ·intro w'
         go_simp
         with_reducible rfl
        rotate_left
        ·simp only [Act.put, List.setIfInBounds_toArray, List.set_cons_zero, List.set_cons_succ, i64_w, i32_w]
         rfl
        refine pure_ (i := 9) (N := some 39) (v := ?_) (a' := ?_) #[true, true, true, true, true, true, true, true, true, true, false] rfl rfl (any_of HT_.out (by kernel_rfl)) (fun _ _ _ h => h) (Or.inl ⟨by rfl, ?_⟩) ?_ ?_
        rotate_left
        ·intro w'
         go_simp
         with_reducible rfl
        rotate_left
        ·simp only [Act.put, List.setIfInBounds_toArray, List.set_cons_zero, List.set_cons_succ, i64_w, i32_w]
         rfl
        refine last_ (i := 10) (N := none) #[true, true, true, true, true, true, true, true, true, true, true] rfl rfl (one_of HT_.out (by kernel_rfl)) (by decide) (fun K hK => ?_)
        refine skip_ (w1 := ?_) (by rfl) rfl ?_ ?_
        rotate_left
        ·go_simp
         rfl
        refine hK.out _ _ ?_
        clear hK K
        refine done_ (done_of HT_.out (by kernel_rfl)) ?_
        have n0_ : Aside0 (Kd.R (Kd.int .i64) 3 (w76.setCell ⟨go28, (a1_1 : Int).toNat, none⟩ (.int .i64 (wrap64 ((rd t386 a1_1) - a1_2)))) w.heap.size (fun _ => True) (.slice (some ⟨go28, 0, none⟩) t386.length co69) y394) := ⟨rq HQ77⟩
        have n1_ : Aside0 (Kd.R k41 41 (w76.setCell ⟨go28, (a1_1 : Int).toNat, none⟩ (.int .i64 (wrap64 ((rd t386 a1_1) - a1_2)))) w.heap.size (fun k_ => k_ ≠ gb381) (.slice Ao74 t389.length co74) t389) := ⟨by (with_reducible repeat (first | apply Kd.R_alloc | apply Kd.R_drewN | apply Kd.R_drew)); exact Kd.R_mono (Kd.R_far (p := ⟨go28, (a1_1 : Int).toNat, none⟩) (Kd.R_types HO391.out GG28.out (by decide)) (fun _ hk => hk.2) (.int .i64 (wrap64 ((rd t386 a1_1) - a1_2)))) (fun _ hk => hk.1)⟩
        have n2_ : Aside0 ((w76.setCell ⟨go28, (a1_1 : Int).toNat, none⟩ (.int .i64 (wrap64 ((rd t386 a1_1) - a1_2)))).heap[gb380]? = some (.cells #[.slice A0_0 l0_0.length c0_0, .slice A0_1 l0_1.length c0_1] 29 (0, 0))) := ⟨by (with_reducible repeat (first | refine blk_drewN ?_ _ | refine blk_drew ?_ | refine blk_alloc ?_ _)); refine blk_far ?_ (by have h_ := Kd.R_ne HO388.out BK380.out (by decide); intro e_; exact h_ (by rw [e_]; rfl)) _; (with_reducible repeat (first | refine blk_drewN ?_ _ | refine blk_drew ?_ | refine blk_alloc ?_ _)); exact BK380.out⟩
        have n3_ : Aside0 ((w76.setCell ⟨go28, (a1_1 : Int).toNat, none⟩ (.int .i64 (wrap64 ((rd t386 a1_1) - a1_2)))).heap[gb381]? = some (.cells #[.int .i64 a1_0, .int .i64 a1_1, .int .i64 a1_2, .int .i64 a1_3] 41 (0, 0))) := ⟨by (with_reducible repeat (first | refine blk_drewN ?_ _ | refine blk_drew ?_ | refine blk_alloc ?_ _)); refine blk_far ?_ (by have h_ := Kd.R_ne HO388.out BK381.out (by decide); intro e_; exact h_ (by rw [e_]; rfl)) _; (with_reducible repeat (first | refine blk_drewN ?_ _ | refine blk_drew ?_ | refine blk_alloc ?_ _)); exact BK381.out⟩
        have n4_ : Aside0 ((w76.setCell ⟨go28, (a1_1 : Int).toNat, none⟩ (.int .i64 (wrap64 ((rd t386 a1_1) - a1_2)))).heap[gb382]? = some (.cells #[.slice none 0 0, .slice none 0 0] 29 (0, 0))) := ⟨by (with_reducible repeat (first | refine blk_drewN ?_ _ | refine blk_drew ?_ | refine blk_alloc ?_ _)); refine blk_far ?_ (by have h_ := Kd.R_ne HO388.out BK382.out (by decide); intro e_; exact h_ (by rw [e_]; rfl)) _; (with_reducible repeat (first | refine blk_drewN ?_ _ | refine blk_drew ?_ | refine blk_alloc ?_ _)); exact BK382.out⟩
        have n5_ : Aside0 ((w76.setCell ⟨go28, (a1_1 : Int).toNat, none⟩ (.int .i64 (wrap64 ((rd t386 a1_1) - a1_2)))).heap[gb392]? = some (.cells #[.slice (some ⟨go28, 0, none⟩) t386.length co69, .slice Ao74 t389.length co74] 29 (0, 0))) := ⟨by (with_reducible repeat (first | refine blk_drewN ?_ _ | refine blk_drew ?_ | refine blk_alloc ?_ _)); refine blk_far ?_ (by have h_ := Kd.R_ne HO388.out BK392.out (by decide); intro e_; exact h_ (by rw [e_]; rfl)) _; (with_reducible repeat (first | refine blk_drewN ?_ _ | refine blk_drew ?_ | refine blk_alloc ?_ _)); exact BK392.out⟩
        have n6_ : Aside0 (Below w.heap.size w (w76.setCell ⟨go28, (a1_1 : Int).toNat, none⟩ (.int .i64 (wrap64 ((rd t386 a1_1) - a1_2))))) := ⟨bq⟩
        (try clear HO388)
        (try clear HO391)
        (try clear BK380)
        (try clear BK381)
        (try clear BK382)
        (try clear BK392)
        (try clear HB)
        generalize (w76.setCell ⟨go28, (a1_1 : Int).toNat, none⟩ (.int .i64 (wrap64 ((rd t386 a1_1) - a1_2)))) = w78 at n0_ n1_ n2_ n3_ n4_ n5_ n6_ ⊢
        have HO388 := n0_
        have HO391 := n1_
        have BK380 := n2_
        have BK381 := n3_
        have BK382 := n4_
        have BK392 := n5_
        have HB := n6_
        clear n0_ n1_ n2_ n3_ n4_ n5_ n6_
        have ⟨hcz79_0, hcz79_1, hfz79_0, hfz79_1⟩ := bc2 BK380
        have hnb80 := NB381_382.out
        have hnc80 := NB382_381.out
        have ⟨hcz81_0, hcz81_1, hcz81_2, hcz81_3, hfz81_0, hfz81_1, hfz81_2, hfz81_3⟩ := bc4 BK381
        try go_wp2_with (first | ((with_reducible refine gate_callee (f := 36) rfl ?_); refine goesQ (some 42) Try.func36 #[.agg #[.slice A0_0 l0_0.length c0_0, .slice A0_1 l0_1.length c0_1], .agg #[.int .i64 a1_0, .int .i64 a1_1, .int .i64 a1_2, .int .i64 a1_3]] ?_; (with_reducible refine (spec_psSame.calls kj2 _ _ l0_0 _ _ l0_1 a1_0 a1_1 a1_2 a1_3 t395 _ ?s1 ?s2 ?s3 ?s4 A29.out).mono ?_); (case s1 => exact cq (Kd.C_below HR0_0.out HB.out)); (case s2 => exact HC0_0.out); (case s3 => exact cq (Kd.C_below HR0_1.out HB.out)); (case s4 => exact HC0_1.out); rintro e w82 ⟨rfl, hb⟩; refine ⟨_, rfl, ?_⟩; replace HO388 := rb HO388 hb; replace HO391 := rb HO391 hb; replace BK380 := zb BK380 hb; replace BK381 := zb BK381 hb; replace BK382 := zb BK382 hb; replace BK392 := zb BK392 hb; replace HB := sb hb; (try clear hb); have ⟨hcz83_0, hcz83_1, hfz83_0, hfz83_1⟩ := bc2 BK392; have ⟨hcz84_0, hcz84_1, hcz84_2, hcz84_3, hfz84_0, hfz84_1, hfz84_2, hfz84_3⟩ := bc4 BK381) | ((with_reducible refine gate_builtin (b := .append) (xs := #[.tmp 57, .tmp 59]) rfl ?_); at_builtin; refine Kd.R_append k41 (w0 := w) w.heap.size rfl (.tmp 57) (.tmp 59) 27 41 (.agg #[(.int .i64 0), (.int .i64 0), (.int .i64 0), (.int .i64 0)]) 32 rfl Try.underlying27 info41 rfl (by decide) (by omega) (.slice Ao74 t389.length co74) t389 (⟨a1_0, a1_1, a1_2, a1_3⟩ : S41) [.int .i64 a1_0, .int .i64 a1_1, .int .i64 a1_2, .int .i64 a1_3] (fun k_ => k_ ≠ gb381) (fun _ => False) rfl rfl ?aP (fun _ hk => hk.elim) ?aF ?aO ?aB ?aS ?aL ?_; (case aP => exact k41_mkM _ _ _ (⟨a1_0, a1_1, a1_2, a1_3⟩ : S41)); (case aB => exact bq); (case aF => exact (fun k_ hk => Kd.freshB (g := gb381) (o := .cells #[.int .i64 a1_0, .int .i64 a1_1, .int .i64 a1_2, .int .i64 a1_3] 41 (0, 0)) (zq BK381) k_ hk)); (case aO => exact (rq HO391)); (case aS => exact (below_size bq)); (case aL => have := LMc62.out; omega); intro v406 w85 ho hb hg hat; rw [← Ny405.out] at ho; have n0_ := Aside0.mk (blk_grown (g := gb380) (o := .cells #[.slice A0_0 l0_0.length c0_0, .slice A0_1 l0_1.length c0_1] 29 (0, 0)) (zq BK380) hg (Kd.R_ne HO391.out BK380.out (by decide))); have n1_ := Aside0.mk (blk_grown (g := gb381) (o := .cells #[.int .i64 a1_0, .int .i64 a1_1, .int .i64 a1_2, .int .i64 a1_3] 41 (0, 0)) (zq BK381) hg (Kd.R_away HO391.out (fun _ hk => hk))); have n2_ := Aside0.mk (blk_grown (g := gb382) (o := .cells #[.slice none 0 0, .slice none 0 0] 29 (0, 0)) (zq BK382) hg (Kd.R_ne HO391.out BK382.out (by decide))); have n3_ := Aside0.mk (Kd.R_over' (rq HO388) (Kd.R_typed (rq HO391)) (by decide) hg); have n4_ := Aside0.mk (blk_grown (g := gb392) (o := .cells #[.slice (some ⟨go28, 0, none⟩) t386.length co69, .slice Ao74 t389.length co74] 29 (0, 0)) (zq BK392) hg (Kd.R_ne HO391.out BK392.out (by decide))); have n5_ := Aside0.mk (hb); have n6_ := Aside0.mk (ho); clear BK380; clear BK381; clear BK382; clear HO388; clear BK392; clear HB; clear HO391; have BK380 := n0_; have BK381 := n1_; have BK382 := n2_; have HO388 := n3_; have BK392 := n4_; have HB := n5_; have HO407 := n6_; clear n0_ n1_ n2_ n3_ n4_ n5_ n6_; clear ho hb hg hat; obtain ⟨Ao86, co86, eo86⟩ := Kd.R_slice HO407.out; subst eo86; have ⟨hcz87_0, hcz87_1, hfz87_0, hfz87_1⟩ := bc2 BK392) | ((with_reducible refine gate_store (t := 27) (p := 61) rfl ?_); refine store_event (t := 27) (p := 61) (v := ?vo_w88) (w1 := (w85.setCell ⟨gb392, 1, none⟩ (.slice Ao86 y405.length co86))) ?hg ?ho ?hn ?hr ?_; (case ho => rfl); (case hg => rfl); (case hn => rfl); (case hr => first | (go_simp; done) | (go_simp; rfl)); intro w88 hw; have n0_ : Aside0 (Kd.R (Kd.int .i64) 3 w88 w.heap.size (fun _ => True) (.slice (some ⟨go28, 0, none⟩) t386.length co69) y394) := ⟨(by rw [hw]; exact (by (with_reducible repeat (first | apply Kd.R_alloc | apply Kd.R_drewN | apply Kd.R_drew)); exact Kd.R_mono (Kd.R_far (p := ⟨gb392, 1, none⟩) (Kd.R_types HO388.out BK392.out (by decide)) (fun _ hk => hk.2) (.slice Ao86 y405.length co86)) (fun _ hk => trivial)))⟩; have n1_ : Aside0 (Kd.R k41 41 w88 w.heap.size (fun k_ => k_ ≠ gb381) (.slice Ao86 y405.length co86) y405) := ⟨(by rw [hw]; exact (by (with_reducible repeat (first | apply Kd.R_alloc | apply Kd.R_drewN | apply Kd.R_drew)); exact Kd.R_mono (Kd.R_far (p := ⟨gb392, 1, none⟩) (Kd.R_types HO407.out BK392.out (by decide)) (fun _ hk => hk.2) (.slice Ao86 y405.length co86)) (fun _ hk => hk.1)))⟩; have n2_ : Aside0 (w88.heap[gb380]? = some (.cells #[.slice A0_0 l0_0.length c0_0, .slice A0_1 l0_1.length c0_1] 29 (0, 0))) := ⟨(by rw [hw]; exact (by (with_reducible repeat (first | refine blk_drewN ?_ _ | refine blk_drew ?_ | refine blk_alloc ?_ _)); refine blk_far ?_ NB380_392.out _; (with_reducible repeat (first | refine blk_drewN ?_ _ | refine blk_drew ?_ | refine blk_alloc ?_ _)); exact BK380.out))⟩; have n3_ : Aside0 (w88.heap[gb381]? = some (.cells #[.int .i64 a1_0, .int .i64 a1_1, .int .i64 a1_2, .int .i64 a1_3] 41 (0, 0))) := ⟨(by rw [hw]; exact (by (with_reducible repeat (first | refine blk_drewN ?_ _ | refine blk_drew ?_ | refine blk_alloc ?_ _)); refine blk_far ?_ NB381_392.out _; (with_reducible repeat (first | refine blk_drewN ?_ _ | refine blk_drew ?_ | refine blk_alloc ?_ _)); exact BK381.out))⟩; have n4_ : Aside0 (w88.heap[gb382]? = some (.cells #[.slice none 0 0, .slice none 0 0] 29 (0, 0))) := ⟨(by rw [hw]; exact (by (with_reducible repeat (first | refine blk_drewN ?_ _ | refine blk_drew ?_ | refine blk_alloc ?_ _)); refine blk_far ?_ NB382_392.out _; (with_reducible repeat (first | refine blk_drewN ?_ _ | refine blk_drew ?_ | refine blk_alloc ?_ _)); exact BK382.out))⟩; have n5_ : Aside0 (w88.heap[gb392]? = some (.cells #[.slice (some ⟨go28, 0, none⟩) t386.length co69, .slice Ao86 y405.length co86] 29 (0, 0))) := ⟨(by rw [hw]; exact (by (with_reducible repeat (first | refine blk_drewN ?_ _ | refine blk_drew ?_ | refine blk_alloc ?_ _)); refine blk_put (cs := #[.slice (some ⟨go28, 0, none⟩) t386.length co69, .slice Ao74 t389.length co74]) ?_ 1 _ rfl; (with_reducible repeat (first | refine blk_drewN ?_ _ | refine blk_drew ?_ | refine blk_alloc ?_ _)); exact BK392.out))⟩; have n6_ : Aside0 (Below w.heap.size w w88) := ⟨(by rw [hw]; exact bq)⟩; clear hw; clear HO388; clear HO407; clear BK380; clear BK381; clear BK382; clear BK392; clear HB; have HO388 := n0_; have HO407 := n1_; have BK380 := n2_; have BK381 := n3_; have BK382 := n4_; have BK392 := n5_; have HB := n6_; clear n0_ n1_ n2_ n3_ n4_ n5_ n6_; have ⟨hcz89_0, hcz89_1, hfz89_0, hfz89_1⟩ := bc2 BK392) | ((with_reducible refine gate_callee (f := 41) rfl ?_); refine goesQ (some 63) Try.func41 #[.agg #[.slice (some ⟨go28, 0, none⟩) t386.length co69, .slice Ao86 y405.length co86]] ?_; (with_reducible refine (spec_psIf.calls kj2 (fun k_ => some k_ = (.slice (some ⟨go28, 0, none⟩) t386.length co69 : Value).ownBlock) (.slice (some ⟨go28, 0, none⟩) t386.length co69) y394 (fun k_ => some k_ = (.slice Ao86 y405.length co86 : Value).ownBlock) (.slice Ao86 y405.length co86) y405 t408 t411 t414 w _ ?s1 ?s2 ?s3 A63.out).mono ?_); (case s1 => repeat (first | (with_reducible first | exact HB.out | apply below_alloc | apply pw_below_drewN | apply below_drew1 | refine below_set ?_ GE380.out | refine below_set ?_ GE381.out | refine below_set ?_ GE382.out | refine below_set ?_ GE392.out) | exact HB.out)); (case s2 => exact Kd.R_tight rfl HO388.out); (case s3 => exact Kd.R_tight rfl HO407.out); rintro e w90 ⟨v409, v412, rfl, ho0, ho1, hb, hkp⟩; refine ⟨_, rfl, ?_⟩; have n0_ := Aside0.mk (blk_kept (zq BK380) hkp (fun hs_ => Or.elim hs_ (fun e_ => (fun e_ => (Kd.R_ne HO388.out BK380.out (by decide)) e_) e_) (fun e_ => (fun e_ => (Kd.R_ne HO407.out BK380.out (by decide)) e_) e_))); have n1_ := Aside0.mk (blk_kept (zq BK381) hkp (fun hs_ => Or.elim hs_ (fun e_ => (fun e_ => (Kd.R_ne HO388.out BK381.out (by decide)) e_) e_) (fun e_ => (fun e_ => (Kd.R_away HO407.out (fun _ hk => hk)) e_) e_))); have n2_ := Aside0.mk (blk_kept (zq BK382) hkp (fun hs_ => Or.elim hs_ (fun e_ => (fun e_ => (Kd.R_ne HO388.out BK382.out (by decide)) e_) e_) (fun e_ => (fun e_ => (Kd.R_ne HO407.out BK382.out (by decide)) e_) e_))); have n3_ := Aside0.mk (blk_kept (zq BK392) hkp (fun hs_ => Or.elim hs_ (fun e_ => (fun e_ => (Kd.R_ne HO388.out BK392.out (by decide)) e_) e_) (fun e_ => (fun e_ => (Kd.R_ne HO407.out BK392.out (by decide)) e_) e_))); have n4_ := Aside0.mk (Kd.R_mono (ok' := fun k_ => True) ho0 (fun k_ hk_ => trivial)); have n5_ := Aside0.mk (Kd.R_mono (ok' := fun k_ => k_ ≠ gb381) ho1 (fun k_ hk_ => Or.elim hk_ (fun hs_ => Or.elim hs_ (fun hs_ => fun e_ => (Kd.R_ne HO388.out BK381.out (by decide)) (by rw [← e_]; exact hs_)) (fun hs_ => fun e_ => (Kd.R_away HO407.out (fun _ hk => hk)) (by rw [← e_]; exact hs_))) (fun hn_ => (Kd.freshB (g := gb381) (o := .cells #[.int .i64 a1_0, .int .i64 a1_1, .int .i64 a1_2, .int .i64 a1_3] 41 (0, 0)) (zq BK381) k_ hn_)))); have n6_ := Aside0.mk (hb); clear BK380; clear BK381; clear BK382; clear BK392; clear HB; clear HO388; clear HO407; have BK382 := n2_; have HO410 := n4_; have HO413 := n5_; have HB := n6_; clear n0_ n1_ n2_ n3_ n4_ n5_ n6_; (try clear hb hkp ho0 ho1); obtain ⟨Ao91, co91, eo91⟩ := Kd.R_slice HO410.out; subst eo91; have ⟨hcz92_0, hcz92_1, hfz92_0, hfz92_1⟩ := bc2 BK382; obtain ⟨Ao93, co93, eo93⟩ := Kd.R_slice HO413.out; subst eo93))
        refine bodyPost_ret (results_ct rfl _ _ gb382 29 #[.slice Ao91 t408.length co91, .slice Ao93 t411.length co93] (0, 0) _ rfl (by (with_reducible repeat (first | refine blk_drewN ?_ _ | refine blk_drew ?_ | refine blk_alloc ?_ _)); refine blk_put (cs := #[.slice Ao91 t408.length co91, .slice none 0 0]) ?_ 1 _ rfl; (with_reducible repeat (first | refine blk_drewN ?_ _ | refine blk_drew ?_ | refine blk_alloc ?_ _)); refine blk_put (cs := #[.slice none 0 0, .slice none 0 0]) ?_ 0 _ rfl; (with_reducible repeat (first | refine blk_drewN ?_ _ | refine blk_drew ?_ | refine blk_alloc ?_ _)); exact BK382.out) Try.underlying29 rfl (by kernel_rfl)) rfl ?_
        exact ⟨_, _, eq_, by (with_reducible repeat (first | apply Kd.R_alloc | apply Kd.R_drewN | apply Kd.R_drew)); exact Kd.R_mono (Kd.R_far (p := ⟨gb382, 1, none⟩) (Kd.R_far (p := ⟨gb382, 0, none⟩) (Kd.R_types HO410.out BK382.out (by decide)) (fun _ hk => hk.2) (.slice Ao91 t408.length co91)) (fun _ hk => hk.2) (.slice Ao93 t411.length co93)) (fun _ hk => trivial), by (with_reducible repeat (first | apply Kd.R_alloc | apply Kd.R_drewN | apply Kd.R_drew)); exact Kd.R_mono (Kd.R_far (p := ⟨gb382, 1, none⟩) (Kd.R_far (p := ⟨gb382, 0, none⟩) (Kd.R_types HO413.out BK382.out (by decide)) (fun _ hk => hk.2) (.slice Ao91 t408.length co91)) (fun _ hk => hk.2) (.slice Ao93 t411.length co93)) (fun _ hk => trivial), bq⟩
       ·rw [if_neg c62] at H
        exact absurd H (by simp)
     ·rw [if_neg c27] at H
      exact absurd H (by simp)
    ·rw [if_neg c26] at H
     exact absurd H (by simp)



/-! ### impl_isDay: function 37 -/
def impl_isDay.f (a0 : Int) : Option (Bool) := if a0 ≥ 0 then (some (decide (a0 ≤ 999))) else (some false)
set_option maxHeartbeats 8000000 in
set_option maxRecDepth 100000 in
theorem impl_isDay.calls (a0 : Int) (r : Bool) (w : World) (h : impl_isDay.f a0 = some r) :
  Calls Try.prog 37 #[.int .i64 a0] w fun e w' => e = .returned (.bool r) ∧ Drawn0 w w' := by
 have H : (if a0 ≥ 0 then (some (decide (a0 ≤ 999))) else (some false)) = some r := h
 clear h
 by_cases c2 : a0 ≥ 0
 ·rw [if_pos c2] at H
  have c2b0 : decide (0 ≤ a0) = true := decide_eq_true c2
  clear c2
  obtain rfl := Option.some.inj H
  go_enter Try.func37, Try.ntmps37
  go_wp2
  go_ret
  exact ⟨sq, by repeat (first | exact Drawn0.refl _ | apply Drawn0.step)⟩
 ·rw [if_neg c2] at H
  have c2b0 : decide (0 ≤ a0) = false := decide_eq_false c2
  clear c2
  obtain rfl := Option.some.inj H
  go_enter Try.func37, Try.ntmps37
  go_wp2
  go_ret
  exact ⟨sq, by repeat (first | exact Drawn0.refl _ | apply Drawn0.step)⟩


/-! ### impl_isLoan: function 42 -/
def impl_isLoan.f (a0_0 : Int) (a0_1 : Int) (a0_2 : Int) (a0_3 : Int) : Option (Bool) := if a0_0 ≥ 1 then (if a0_0 ≤ 99 then (if a0_1 ≥ 1 then (if a0_1 ≤ 7 then (if a0_2 ≥ 1 then (if a0_2 ≤ 99 then ((impl_isDay.f a0_3).bind fun t187 => (some t187)) else (some false)) else (some false)) else (some false)) else (some false)) else (some false)) else (some false)
set_option maxHeartbeats 8000000 in
set_option maxRecDepth 100000 in
theorem impl_isLoan.calls (a0_0 : Int) (a0_1 : Int) (a0_2 : Int) (a0_3 : Int) (r : Bool) (w : World) (h : impl_isLoan.f a0_0 a0_1 a0_2 a0_3 = some r) :
  Calls Try.prog 42 #[.agg #[.int .i64 a0_0, .int .i64 a0_1, .int .i64 a0_2, .int .i64 a0_3]] w fun e w' => e = .returned (.bool r) ∧ Below w.heap.size w w' := by
 have hu41 := Try.underlying41
 have HB := Aside0.mk (Below.refl w.heap.size w)
 have H : (if a0_0 ≥ 1 then (if a0_0 ≤ 99 then (if a0_1 ≥ 1 then (if a0_1 ≤ 7 then (if a0_2 ≥ 1 then (if a0_2 ≤ 99 then ((impl_isDay.f a0_3).bind fun t187 => (some t187)) else (some false)) else (some false)) else (some false)) else (some false)) else (some false)) else (some false)) = some r := h
 clear h
 by_cases c2 : a0_0 ≥ 1
 ·rw [if_pos c2] at H
  have c2b0 : decide (1 ≤ a0_0) = true := decide_eq_true c2
  clear c2
  by_cases c3 : a0_0 ≤ 99
  ·rw [if_pos c3] at H
   have c3b0 : decide (a0_0 ≤ 99) = true := decide_eq_true c3
   clear c3
   by_cases c4 : a0_1 ≥ 1
   ·rw [if_pos c4] at H
    have c4b0 : decide (1 ≤ a0_1) = true := decide_eq_true c4
    clear c4
    by_cases c5 : a0_1 ≤ 7
    ·rw [if_pos c5] at H
     have c5b0 : decide (a0_1 ≤ 7) = true := decide_eq_true c5
     clear c5
     by_cases c6 : a0_2 ≥ 1
     ·rw [if_pos c6] at H
      have c6b0 : decide (1 ≤ a0_2) = true := decide_eq_true c6
      clear c6
      by_cases c7 : a0_2 ≤ 99
      ·rw [if_pos c7] at H
       have c7b0 : decide (a0_2 ≤ 99) = true := decide_eq_true c7
       clear c7
       obtain ⟨t187, A8, H⟩ := bindq H
       try dsimp only at H
       obtain rfl := Option.some.inj H
       go_enter Try.func42, Try.ntmps42
       go_wp2_with (first | ((with_reducible refine gate_dst (N := 1) rfl ?_); refine box_event ?hg (N := 1) ?hd (cs := #[.int .i64 a0_0, .int .i64 a0_1, .int .i64 a0_2, .int .i64 a0_3]) (t := 41) ?hr ?_; (case hd => rfl); (case hg => rfl); (case hr => first | (go_simp; done) | (go_simp; rfl)); intro gb186 hg w9 hbox hb; have BK186 := Aside0.mk (hbox); have GE186 := Aside0.mk (gq hg); replace HB := sb hb; clear hb hbox hg; have ⟨hcz10_0, hcz10_1, hcz10_2, hcz10_3, hfz10_0, hfz10_1, hfz10_2, hfz10_3⟩ := bc4 BK186) | (go_at_call 37; (with_reducible refine (impl_isDay.calls a0_3 t187 _ A8.out).mono ?_); rintro e w' ⟨rfl, ⟨nd, rfl⟩⟩))
       go_ret
       exact ⟨eq_, bq⟩
      ·rw [if_neg c7] at H
       have c7b0 : decide (a0_2 ≤ 99) = false := decide_eq_false c7
       clear c7
       obtain rfl := Option.some.inj H
       go_enter Try.func42, Try.ntmps42
       go_wp2_with (first | ((with_reducible refine gate_dst (N := 1) rfl ?_); refine box_event ?hg (N := 1) ?hd (cs := #[.int .i64 a0_0, .int .i64 a0_1, .int .i64 a0_2, .int .i64 a0_3]) (t := 41) ?hr ?_; (case hd => rfl); (case hg => rfl); (case hr => first | (go_simp; done) | (go_simp; rfl)); intro gb186 hg w11 hbox hb; have BK186 := Aside0.mk (hbox); have GE186 := Aside0.mk (gq hg); replace HB := sb hb; clear hb hbox hg; have ⟨hcz12_0, hcz12_1, hcz12_2, hcz12_3, hfz12_0, hfz12_1, hfz12_2, hfz12_3⟩ := bc4 BK186))
       go_ret
       exact ⟨eq_, bq⟩
     ·rw [if_neg c6] at H
      have c6b0 : decide (1 ≤ a0_2) = false := decide_eq_false c6
      clear c6
      obtain rfl := Option.some.inj H
      go_enter Try.func42, Try.ntmps42
      go_wp2_with (first | ((with_reducible refine gate_dst (N := 1) rfl ?_); refine box_event ?hg (N := 1) ?hd (cs := #[.int .i64 a0_0, .int .i64 a0_1, .int .i64 a0_2, .int .i64 a0_3]) (t := 41) ?hr ?_; (case hd => rfl); (case hg => rfl); (case hr => first | (go_simp; done) | (go_simp; rfl)); intro gb186 hg w13 hbox hb; have BK186 := Aside0.mk (hbox); have GE186 := Aside0.mk (gq hg); replace HB := sb hb; clear hb hbox hg; have ⟨hcz14_0, hcz14_1, hcz14_2, hcz14_3, hfz14_0, hfz14_1, hfz14_2, hfz14_3⟩ := bc4 BK186))
      go_ret
      exact ⟨eq_, bq⟩
    ·rw [if_neg c5] at H
     have c5b0 : decide (a0_1 ≤ 7) = false := decide_eq_false c5
     clear c5
     obtain rfl := Option.some.inj H
     go_enter Try.func42, Try.ntmps42
     go_wp2_with (first | ((with_reducible refine gate_dst (N := 1) rfl ?_); refine box_event ?hg (N := 1) ?hd (cs := #[.int .i64 a0_0, .int .i64 a0_1, .int .i64 a0_2, .int .i64 a0_3]) (t := 41) ?hr ?_; (case hd => rfl); (case hg => rfl); (case hr => first | (go_simp; done) | (go_simp; rfl)); intro gb186 hg w15 hbox hb; have BK186 := Aside0.mk (hbox); have GE186 := Aside0.mk (gq hg); replace HB := sb hb; clear hb hbox hg; have ⟨hcz16_0, hcz16_1, hcz16_2, hcz16_3, hfz16_0, hfz16_1, hfz16_2, hfz16_3⟩ := bc4 BK186))
     go_ret
     exact ⟨eq_, bq⟩
   ·rw [if_neg c4] at H
    have c4b0 : decide (1 ≤ a0_1) = false := decide_eq_false c4
    clear c4
    obtain rfl := Option.some.inj H
    go_enter Try.func42, Try.ntmps42
    go_wp2_with (first | ((with_reducible refine gate_dst (N := 1) rfl ?_); refine box_event ?hg (N := 1) ?hd (cs := #[.int .i64 a0_0, .int .i64 a0_1, .int .i64 a0_2, .int .i64 a0_3]) (t := 41) ?hr ?_; (case hd => rfl); (case hg => rfl); (case hr => first | (go_simp; done) | (go_simp; rfl)); intro gb186 hg w17 hbox hb; have BK186 := Aside0.mk (hbox); have GE186 := Aside0.mk (gq hg); replace HB := sb hb; clear hb hbox hg; have ⟨hcz18_0, hcz18_1, hcz18_2, hcz18_3, hfz18_0, hfz18_1, hfz18_2, hfz18_3⟩ := bc4 BK186))
    go_ret
    exact ⟨eq_, bq⟩
  ·rw [if_neg c3] at H
   have c3b0 : decide (a0_0 ≤ 99) = false := decide_eq_false c3
   clear c3
   obtain rfl := Option.some.inj H
   go_enter Try.func42, Try.ntmps42
   go_wp2_with (first | ((with_reducible refine gate_dst (N := 1) rfl ?_); refine box_event ?hg (N := 1) ?hd (cs := #[.int .i64 a0_0, .int .i64 a0_1, .int .i64 a0_2, .int .i64 a0_3]) (t := 41) ?hr ?_; (case hd => rfl); (case hg => rfl); (case hr => first | (go_simp; done) | (go_simp; rfl)); intro gb186 hg w19 hbox hb; have BK186 := Aside0.mk (hbox); have GE186 := Aside0.mk (gq hg); replace HB := sb hb; clear hb hbox hg; have ⟨hcz20_0, hcz20_1, hcz20_2, hcz20_3, hfz20_0, hfz20_1, hfz20_2, hfz20_3⟩ := bc4 BK186))
   go_ret
   exact ⟨eq_, bq⟩
 ·rw [if_neg c2] at H
  have c2b0 : decide (1 ≤ a0_0) = false := decide_eq_false c2
  clear c2
  obtain rfl := Option.some.inj H
  go_enter Try.func42, Try.ntmps42
  go_wp2_with (first | ((with_reducible refine gate_dst (N := 1) rfl ?_); refine box_event ?hg (N := 1) ?hd (cs := #[.int .i64 a0_0, .int .i64 a0_1, .int .i64 a0_2, .int .i64 a0_3]) (t := 41) ?hr ?_; (case hd => rfl); (case hg => rfl); (case hr => first | (go_simp; done) | (go_simp; rfl)); intro gb186 hg w21 hbox hb; have BK186 := Aside0.mk (hbox); have GE186 := Aside0.mk (gq hg); replace HB := sb hb; clear hb hbox hg; have ⟨hcz22_0, hcz22_1, hcz22_2, hcz22_3, hfz22_0, hfz22_1, hfz22_2, hfz22_3⟩ := bc4 BK186))
  go_ret
  exact ⟨eq_, bq⟩



/-! ### impl_sameLoan: function 43 -/
def impl_sameLoan.l0 : Nat → List (S41) → Int → Int → Int → Int → Int → Int → Option (Int)
 | 0, _, _, _, _, _, _, _ => none
 | k + 1, x7, x8, x9, x189000, x189001, x189002, x189003 => if x9 < x8 then (if 0 ≤ x9 then (if x9 < (x7.length : Int) then (if x189000 = ((rd_T41 x7 x9).f0) then (if x189001 = ((rd_T41 x7 x9).f1) then (if x189003 = ((rd_T41 x7 x9).f3) then (some x9) else (impl_sameLoan.l0 k x7 x8 (wrap64 (x9 + 1)) x189000 x189001 x189002 x189003)) else (impl_sameLoan.l0 k x7 x8 (wrap64 (x9 + 1)) x189000 x189001 x189002 x189003)) else (impl_sameLoan.l0 k x7 x8 (wrap64 (x9 + 1)) x189000 x189001 x189002 x189003)) else (none)) else (none)) else (some (-1))
def impl_sameLoan.f (k : Nat) (l0 : List (S41)) (a1_0 : Int) (a1_1 : Int) (a1_2 : Int) (a1_3 : Int) : Option (Int) := impl_sameLoan.l0 k l0 (l0.length : Int) 0 a1_0 a1_1 a1_2 a1_3
theorem impl_sameLoan.mono_l : ∀ k, (∀ y0 y1 y2 y3 y4 y5 y6, LeO (impl_sameLoan.l0 k y0 y1 y2 y3 y4 y5 y6) (impl_sameLoan.l0 (k + 1) y0 y1 y2 y3 y4 y5 y6))
 | 0 => fun _ _ _ _ _ _ _ r h => by simp [impl_sameLoan.l0] at h
 | k + 1 => by
  have ih0 := impl_sameLoan.mono_l k
  ·intro y0 y1 y2 y3 y4 y5 y6
   unfold impl_sameLoan.l0
   repeat' first
   | (with_reducible exact ih0 _ _ _ _ _ _ _)
   | (with_reducible exact LeO.refl _)
   | (with_reducible exact LeO.none _)
   | (with_reducible refine LeO.ite ?_ ?_)
   | (with_reducible refine LeO.bind ?_ (fun _ => ?_))
   | exact ih0 _ _ _ _ _ _ _
   | exact LeO.none _
   | refine LeO.ite ?_ ?_
   | refine LeO.bind ?_ (fun _ => ?_)
theorem impl_sameLoan.mono : ∀ a0 a1 a2 a3 a4 k, LeO (impl_sameLoan.f k a0 a1 a2 a3 a4) (impl_sameLoan.f (k + 1) a0 a1 a2 a3 a4) := by
 intro a0 a1 a2 a3 a4 k
 have ih0 := impl_sameLoan.mono_l k
 unfold impl_sameLoan.f
 repeat' first
   | (with_reducible exact ih0 _ _ _ _ _ _ _)
   | (with_reducible exact LeO.refl _)
   | (with_reducible exact LeO.none _)
   | (with_reducible refine LeO.ite ?_ ?_)
   | (with_reducible refine LeO.bind ?_ (fun _ => ?_))
   | exact ih0 _ _ _ _ _ _ _
   | exact LeO.none _
   | refine LeO.ite ?_ ?_
   | refine LeO.bind ?_ (fun _ => ?_)
set_option maxHeartbeats 8000000 in
set_option maxRecDepth 100000 in
theorem impl_sameLoan.calls (k : Nat) (A0 : Option Addr) (c0 : Nat) (l0 : List (S41)) (a1_0 : Int) (a1_1 : Int) (a1_2 : Int) (a1_3 : Int) (r : Int) (w : World) (hr0 : Kd.C k41 w A0 l0.length l0) (hc0 : l0.length ≤ c0) (h : impl_sameLoan.f k l0 a1_0 a1_1 a1_2 a1_3 = some r) :
  Calls Try.prog 43 #[.slice A0 l0.length c0, .agg #[.int .i64 a1_0, .int .i64 a1_1, .int .i64 a1_2, .int .i64 a1_3]] w fun e w' => e = .returned (.int .i64 r) ∧ Below w.heap.size w w' := by
 have hu41 := Try.underlying41
 have HR0 := Aside0.mk hr0
 have HC0 := Aside0.mk hc0
 clear hr0 hc0
 have HB := Aside0.mk (Below.refl w.heap.size w)
 have H : (impl_sameLoan.l0 k l0 (l0.length : Int) 0 a1_0 a1_1 a1_2 a1_3) = some r := h
 clear h
 have H' := Aside0.mk H
 clear H
 go_enter Try.func43, Try.ntmps43
 go_wp2_with (first | ((with_reducible refine gate_dst (N := 3) rfl ?_); refine box_event ?hg (N := 3) ?hd (cs := #[.int .i64 a1_0, .int .i64 a1_1, .int .i64 a1_2, .int .i64 a1_3]) (t := 41) ?hr ?_; (case hd => rfl); (case hg => rfl); (case hr => first | (go_simp; done) | (go_simp; rfl)); intro gb188 hg w3 hbox hb; have BK188 := Aside0.mk (hbox); have GE188 := Aside0.mk (gq hg); replace HB := sb hb; clear hb hbox hg))
 go_loopg [9] k (fun kq v9 w' => ∃ (x9_1 : Int), v9 = .int .i64 x9_1 ∧ Aside0 (impl_sameLoan.l0 kq l0 (l0.length : Int) x9_1 a1_0 a1_1 a1_2 a1_3 = some r) ∧ Aside0 (kq ≤ k) ∧ Aside0 (w'.heap[gb188]? = some (.cells #[.int .i64 a1_0, .int .i64 a1_1, .int .i64 a1_2, .int .i64 a1_3] 41 (0, 0))) ∧ Aside0 (Below w.heap.size w w'))
 case atStart => exact ⟨(0), sq, H', ⟨Nat.le_refl _⟩, ⟨zq BK188⟩, ⟨bq⟩⟩
 case round =>
  clear H'
  try clear p2
  obtain ⟨x9_1, rfl, HA, HK1, BK188, HB⟩ := hrel
  cases gk with
  | zero => exact absurd HA.out (by simp [impl_sameLoan.l0])
  | succ k1 =>
   have H := HA.out
   clear HA
   simp only [impl_sameLoan.l0] at H
   by_cases c4 : x9_1 < (l0.length : Int)
   ·rw [if_pos c4] at H
    have c4b0 : decide (x9_1 < (l0.length : Int)) = true := decide_eq_true c4
    clear c4
    by_cases c5 : 0 ≤ x9_1
    ·rw [if_pos c5] at H
     have c5b0 : decide (0 ≤ x9_1) = true := decide_eq_true c5
     clear c5
     by_cases c6 : x9_1 < (l0.length : Int)
     ·rw [if_pos c6] at H
      have c6b0 : decide (x9_1 < (l0.length : Int)) = true := decide_eq_true c6
      clear c6
      by_cases c7 : a1_0 = ((rd_T41 l0 x9_1).f0)
      ·rw [if_pos c7] at H
       have c7b0 : (a1_0 == ((rd_T41 l0 x9_1).f0)) = true := beq_iff_eq.mpr c7
       have c7b1 : (a1_0 != ((rd_T41 l0 x9_1).f0)) = false := bne_eq_false_iff_eq.mpr c7
       clear c7
       by_cases c8 : a1_1 = ((rd_T41 l0 x9_1).f1)
       ·rw [if_pos c8] at H
        have c8b0 : (a1_1 == ((rd_T41 l0 x9_1).f1)) = true := beq_iff_eq.mpr c8
        have c8b1 : (a1_1 != ((rd_T41 l0 x9_1).f1)) = false := bne_eq_false_iff_eq.mpr c8
        clear c8
        by_cases c9 : a1_3 = ((rd_T41 l0 x9_1).f3)
        ·rw [if_pos c9] at H
         have c9b0 : (a1_3 == ((rd_T41 l0 x9_1).f3)) = true := beq_iff_eq.mpr c9
         have c9b1 : (a1_3 != ((rd_T41 l0 x9_1).f3)) = false := bne_eq_false_iff_eq.mpr c9
         clear c9
         obtain rfl := Option.some.inj H
         have p189 : 0 ≤ (x9_1 : Int) := of_decide_eq_true aq
         have q189 : x9_1 < (l0.length : Int) := of_decide_eq_true aq
         obtain ⟨ad189, e189, hx189_0, hx189_1, hx189_2, hx189_3⟩ := at_T41 HR0.out x9_1 p189 q189
         cases e189
         replace hx189_0 := (HB.out.cell (World.block_lt_of_cell? w _ hx189_0)).trans hx189_0
         replace hx189_1 := (HB.out.cell (World.block_lt_of_cell? w _ hx189_1)).trans hx189_1
         replace hx189_2 := (HB.out.cell (World.block_lt_of_cell? w _ hx189_2)).trans hx189_2
         replace hx189_3 := (HB.out.cell (World.block_lt_of_cell? w _ hx189_3)).trans hx189_3
         replace p189 := eq_true p189
         replace q189 := eq_true q189
         go_wp2_with (first | ((with_reducible refine gate_dst (N := 6) rfl ?_); refine box_event ?hg (N := 6) ?hd (cs := #[.int .i64 0, .int .i64 0, .int .i64 0, .int .i64 0]) (t := 41) ?hr ?_; (case hd => rfl); (case hg => rfl); (case hr => first | (go_simp; done) | (go_simp; rfl)); intro gb190 hg w10 hbox hb; have BK190 := Aside0.mk (hbox); have GE190 := Aside0.mk (gq hg); replace HB := sb hb; have NB188_190 := nl hg BK188; have NB190_188 := ng hg BK188; replace BK188 := zb BK188 hb; clear hb hbox hg; have hnb11 := NB190_188.out; have hnc11 := NB188_190.out; have ⟨hcz12_0, hcz12_1, hcz12_2, hcz12_3, hfz12_0, hfz12_1, hfz12_2, hfz12_3⟩ := bc4 BK190; have ⟨hcz13_0, hcz13_1, hcz13_2, hcz13_3, hfz13_0, hfz13_1, hfz13_2, hfz13_3⟩ := bc4 BK188))
         go_ret
         exact ⟨eq_, bq⟩
        ·rw [if_neg c9] at H
         have c9b0 : (a1_3 == ((rd_T41 l0 x9_1).f3)) = false := beq_eq_false_iff_ne.mpr c9
         have c9b1 : (a1_3 != ((rd_T41 l0 x9_1).f3)) = true := bne_iff_ne.mpr c9
         have H' := Aside0.mk H
         clear H
         have p189 : 0 ≤ (x9_1 : Int) := of_decide_eq_true aq
         have q189 : x9_1 < (l0.length : Int) := of_decide_eq_true aq
         obtain ⟨ad189, e189, hx189_0, hx189_1, hx189_2, hx189_3⟩ := at_T41 HR0.out x9_1 p189 q189
         cases e189
         replace hx189_0 := (HB.out.cell (World.block_lt_of_cell? w _ hx189_0)).trans hx189_0
         replace hx189_1 := (HB.out.cell (World.block_lt_of_cell? w _ hx189_1)).trans hx189_1
         replace hx189_2 := (HB.out.cell (World.block_lt_of_cell? w _ hx189_2)).trans hx189_2
         replace hx189_3 := (HB.out.cell (World.block_lt_of_cell? w _ hx189_3)).trans hx189_3
         replace p189 := eq_true p189
         replace q189 := eq_true q189
         go_wp2_with (first | ((with_reducible refine gate_dst (N := 6) rfl ?_); refine box_event ?hg (N := 6) ?hd (cs := #[.int .i64 0, .int .i64 0, .int .i64 0, .int .i64 0]) (t := 41) ?hr ?_; (case hd => rfl); (case hg => rfl); (case hr => first | (go_simp; done) | (go_simp; rfl)); intro gb190 hg w14 hbox hb; have BK190 := Aside0.mk (hbox); have GE190 := Aside0.mk (gq hg); replace HB := sb hb; have NB188_190 := nl hg BK188; have NB190_188 := ng hg BK188; replace BK188 := zb BK188 hb; clear hb hbox hg; have hnb15 := NB190_188.out; have hnc15 := NB188_190.out; have ⟨hcz16_0, hcz16_1, hcz16_2, hcz16_3, hfz16_0, hfz16_1, hfz16_2, hfz16_3⟩ := bc4 BK190; have ⟨hcz17_0, hcz17_1, hcz17_2, hcz17_3, hfz17_0, hfz17_1, hfz17_2, hfz17_3⟩ := bc4 BK188))
         go_roundg k1
         case measure => have := HK1.out; omega
         case rel => exact ⟨(wrap64 (x9_1 + 1)), sq, H', ⟨by have := HK1.out; omega⟩, ⟨by (with_reducible repeat (first | refine blk_drewN ?_ _ | refine blk_drew ?_ | refine blk_alloc ?_ _)); refine blk_far ?_ NB188_190.out _; (with_reducible repeat (first | refine blk_drewN ?_ _ | refine blk_drew ?_ | refine blk_alloc ?_ _)); refine blk_far ?_ NB188_190.out _; (with_reducible repeat (first | refine blk_drewN ?_ _ | refine blk_drew ?_ | refine blk_alloc ?_ _)); refine blk_far ?_ NB188_190.out _; (with_reducible repeat (first | refine blk_drewN ?_ _ | refine blk_drew ?_ | refine blk_alloc ?_ _)); refine blk_far ?_ NB188_190.out _; (with_reducible repeat (first | refine blk_drewN ?_ _ | refine blk_drew ?_ | refine blk_alloc ?_ _)); exact BK188.out⟩, ⟨bq⟩⟩
       ·rw [if_neg c8] at H
        have c8b0 : (a1_1 == ((rd_T41 l0 x9_1).f1)) = false := beq_eq_false_iff_ne.mpr c8
        have c8b1 : (a1_1 != ((rd_T41 l0 x9_1).f1)) = true := bne_iff_ne.mpr c8
        have H' := Aside0.mk H
        clear H
        have p189 : 0 ≤ (x9_1 : Int) := of_decide_eq_true aq
        have q189 : x9_1 < (l0.length : Int) := of_decide_eq_true aq
        obtain ⟨ad189, e189, hx189_0, hx189_1, hx189_2, hx189_3⟩ := at_T41 HR0.out x9_1 p189 q189
        cases e189
        replace hx189_0 := (HB.out.cell (World.block_lt_of_cell? w _ hx189_0)).trans hx189_0
        replace hx189_1 := (HB.out.cell (World.block_lt_of_cell? w _ hx189_1)).trans hx189_1
        replace hx189_2 := (HB.out.cell (World.block_lt_of_cell? w _ hx189_2)).trans hx189_2
        replace hx189_3 := (HB.out.cell (World.block_lt_of_cell? w _ hx189_3)).trans hx189_3
        replace p189 := eq_true p189
        replace q189 := eq_true q189
        go_wp2_with (first | ((with_reducible refine gate_dst (N := 6) rfl ?_); refine box_event ?hg (N := 6) ?hd (cs := #[.int .i64 0, .int .i64 0, .int .i64 0, .int .i64 0]) (t := 41) ?hr ?_; (case hd => rfl); (case hg => rfl); (case hr => first | (go_simp; done) | (go_simp; rfl)); intro gb190 hg w18 hbox hb; have BK190 := Aside0.mk (hbox); have GE190 := Aside0.mk (gq hg); replace HB := sb hb; have NB188_190 := nl hg BK188; have NB190_188 := ng hg BK188; replace BK188 := zb BK188 hb; clear hb hbox hg; have hnb19 := NB190_188.out; have hnc19 := NB188_190.out; have ⟨hcz20_0, hcz20_1, hcz20_2, hcz20_3, hfz20_0, hfz20_1, hfz20_2, hfz20_3⟩ := bc4 BK190; have ⟨hcz21_0, hcz21_1, hcz21_2, hcz21_3, hfz21_0, hfz21_1, hfz21_2, hfz21_3⟩ := bc4 BK188))
        go_roundg k1
        case measure => have := HK1.out; omega
        case rel => exact ⟨(wrap64 (x9_1 + 1)), sq, H', ⟨by have := HK1.out; omega⟩, ⟨by (with_reducible repeat (first | refine blk_drewN ?_ _ | refine blk_drew ?_ | refine blk_alloc ?_ _)); refine blk_far ?_ NB188_190.out _; (with_reducible repeat (first | refine blk_drewN ?_ _ | refine blk_drew ?_ | refine blk_alloc ?_ _)); refine blk_far ?_ NB188_190.out _; (with_reducible repeat (first | refine blk_drewN ?_ _ | refine blk_drew ?_ | refine blk_alloc ?_ _)); refine blk_far ?_ NB188_190.out _; (with_reducible repeat (first | refine blk_drewN ?_ _ | refine blk_drew ?_ | refine blk_alloc ?_ _)); refine blk_far ?_ NB188_190.out _; (with_reducible repeat (first | refine blk_drewN ?_ _ | refine blk_drew ?_ | refine blk_alloc ?_ _)); exact BK188.out⟩, ⟨bq⟩⟩
      ·rw [if_neg c7] at H
       have c7b0 : (a1_0 == ((rd_T41 l0 x9_1).f0)) = false := beq_eq_false_iff_ne.mpr c7
       have c7b1 : (a1_0 != ((rd_T41 l0 x9_1).f0)) = true := bne_iff_ne.mpr c7
       have H' := Aside0.mk H
       clear H
       have p189 : 0 ≤ (x9_1 : Int) := of_decide_eq_true aq
       have q189 : x9_1 < (l0.length : Int) := of_decide_eq_true aq
       obtain ⟨ad189, e189, hx189_0, hx189_1, hx189_2, hx189_3⟩ := at_T41 HR0.out x9_1 p189 q189
       cases e189
       replace hx189_0 := (HB.out.cell (World.block_lt_of_cell? w _ hx189_0)).trans hx189_0
       replace hx189_1 := (HB.out.cell (World.block_lt_of_cell? w _ hx189_1)).trans hx189_1
       replace hx189_2 := (HB.out.cell (World.block_lt_of_cell? w _ hx189_2)).trans hx189_2
       replace hx189_3 := (HB.out.cell (World.block_lt_of_cell? w _ hx189_3)).trans hx189_3
       replace p189 := eq_true p189
       replace q189 := eq_true q189
       go_wp2_with (first | ((with_reducible refine gate_dst (N := 6) rfl ?_); refine box_event ?hg (N := 6) ?hd (cs := #[.int .i64 0, .int .i64 0, .int .i64 0, .int .i64 0]) (t := 41) ?hr ?_; (case hd => rfl); (case hg => rfl); (case hr => first | (go_simp; done) | (go_simp; rfl)); intro gb190 hg w22 hbox hb; have BK190 := Aside0.mk (hbox); have GE190 := Aside0.mk (gq hg); replace HB := sb hb; have NB188_190 := nl hg BK188; have NB190_188 := ng hg BK188; replace BK188 := zb BK188 hb; clear hb hbox hg; have hnb23 := NB190_188.out; have hnc23 := NB188_190.out; have ⟨hcz24_0, hcz24_1, hcz24_2, hcz24_3, hfz24_0, hfz24_1, hfz24_2, hfz24_3⟩ := bc4 BK190; have ⟨hcz25_0, hcz25_1, hcz25_2, hcz25_3, hfz25_0, hfz25_1, hfz25_2, hfz25_3⟩ := bc4 BK188))
       go_roundg k1
       case measure => have := HK1.out; omega
       case rel => exact ⟨(wrap64 (x9_1 + 1)), sq, H', ⟨by have := HK1.out; omega⟩, ⟨by (with_reducible repeat (first | refine blk_drewN ?_ _ | refine blk_drew ?_ | refine blk_alloc ?_ _)); refine blk_far ?_ NB188_190.out _; (with_reducible repeat (first | refine blk_drewN ?_ _ | refine blk_drew ?_ | refine blk_alloc ?_ _)); refine blk_far ?_ NB188_190.out _; (with_reducible repeat (first | refine blk_drewN ?_ _ | refine blk_drew ?_ | refine blk_alloc ?_ _)); refine blk_far ?_ NB188_190.out _; (with_reducible repeat (first | refine blk_drewN ?_ _ | refine blk_drew ?_ | refine blk_alloc ?_ _)); refine blk_far ?_ NB188_190.out _; (with_reducible repeat (first | refine blk_drewN ?_ _ | refine blk_drew ?_ | refine blk_alloc ?_ _)); exact BK188.out⟩, ⟨bq⟩⟩
     ·rw [if_neg c6] at H
      exact absurd H (by simp)
    ·rw [if_neg c5] at H
     exact absurd H (by simp)
   ·rw [if_neg c4] at H
    have c4b0 : decide (x9_1 < (l0.length : Int)) = false := decide_eq_false c4
    clear c4
    obtain rfl := Option.some.inj H
    go_wp2
    go_ret
    exact ⟨eq_, bq⟩



/-! ### impl_IsShop: function 27 -/
mutual
def impl_IsShop.j0 : Nat → Bool → List Int → List (S41) → Option (Bool)
 | 0, _, _, _ => none
 | k + 1, x23, x192000, x192001 => if x23 = true then (some false) else (impl_IsShop.l0 k x192000 (x192000.length : Int) 0 x192000 x192001)
def impl_IsShop.l0 : Nat → List Int → Int → Int → List Int → List (S41) → Option (Bool)
 | 0, _, _, _, _, _ => none
 | k + 1, x25, x26, x27, x192000, x192001 => if x27 < x26 then (if 0 ≤ x27 then (if x27 < (x25.length : Int) then (if (rd x25 x27) < 0 then (some false) else (if (rd x25 x27) > 999 then (some false) else (impl_IsShop.l0 k x25 x26 (wrap64 (x27 + 1)) x192000 x192001))) else (none)) else (none)) else (impl_IsShop.l1 k x192001 (x192001.length : Int) 0 x192000 x192001)
def impl_IsShop.l1 : Nat → List (S41) → Int → Int → List Int → List (S41) → Option (Bool)
 | 0, _, _, _, _, _ => none
 | k + 1, x39, x40, x41, x192000, x192001 => if x41 < x40 then (if 0 ≤ x41 then (if x41 < (x39.length : Int) then ((impl_isLoan.f ((rd_T41 x39 x41).f0) ((rd_T41 x39 x41).f1) ((rd_T41 x39 x41).f2) ((rd_T41 x39 x41).f3)).bind fun t196 => (if t196 = true then (if x41 ≤ (x192001.length : Int) then ((impl_sameLoan.f k (x192001.take (x41 : Int).toNat) ((rd_T41 x39 x41).f0) ((rd_T41 x39 x41).f1) ((rd_T41 x39 x41).f2) ((rd_T41 x39 x41).f3)).bind fun t201 => (if t201 ≥ 0 then (some false) else (impl_IsShop.l1 k x39 x40 (wrap64 (x41 + 1)) x192000 x192001))) else (none)) else (some false))) else (none)) else (none)) else (some true)
end
def impl_IsShop.f (k : Nat) (l0_0 : List Int) (l0_1 : List (S41)) : Option (Bool) := if (l0_0.length : Int) = 8 then (if 0 < (l0_0.length : Int) then (if (rd l0_0 0) = 0 then (impl_IsShop.j0 k (decide ((l0_1.length : Int) > 20)) l0_0 l0_1) else (impl_IsShop.j0 k true l0_0 l0_1)) else (none)) else (impl_IsShop.j0 k true l0_0 l0_1)
theorem impl_IsShop.mono_l : ∀ k, (∀ y0 y1 y2, LeO (impl_IsShop.j0 k y0 y1 y2) (impl_IsShop.j0 (k + 1) y0 y1 y2)) ∧ (∀ y0 y1 y2 y3 y4, LeO (impl_IsShop.l0 k y0 y1 y2 y3 y4) (impl_IsShop.l0 (k + 1) y0 y1 y2 y3 y4)) ∧ (∀ y0 y1 y2 y3 y4, LeO (impl_IsShop.l1 k y0 y1 y2 y3 y4) (impl_IsShop.l1 (k + 1) y0 y1 y2 y3 y4))
 | 0 => ⟨fun _ _ _ r h => by simp [impl_IsShop.j0] at h, fun _ _ _ _ _ r h => by simp [impl_IsShop.l0] at h, fun _ _ _ _ _ r h => by simp [impl_IsShop.l1] at h⟩
 | k + 1 => by
  obtain ⟨ih0, ih1, ih2⟩ := impl_IsShop.mono_l k
  refine ⟨?_, ?_, ?_⟩
  ·intro y0 y1 y2
   unfold impl_IsShop.j0
   repeat' first
   | (with_reducible exact ih0 _ _ _)
   | (with_reducible exact ih1 _ _ _ _ _)
   | (with_reducible exact ih2 _ _ _ _ _)
   | (with_reducible exact impl_sameLoan.mono _ _ _ _ _ _)
   | (with_reducible exact LeO.refl _)
   | (with_reducible exact LeO.none _)
   | (with_reducible refine LeO.ite ?_ ?_)
   | (with_reducible refine LeO.bind ?_ (fun _ => ?_))
   | exact ih0 _ _ _
   | exact ih1 _ _ _ _ _
   | exact ih2 _ _ _ _ _
   | exact impl_sameLoan.mono _ _ _ _ _ _
   | exact LeO.none _
   | refine LeO.ite ?_ ?_
   | refine LeO.bind ?_ (fun _ => ?_)
  ·intro y0 y1 y2 y3 y4
   unfold impl_IsShop.l0
   repeat' first
   | (with_reducible exact ih0 _ _ _)
   | (with_reducible exact ih1 _ _ _ _ _)
   | (with_reducible exact ih2 _ _ _ _ _)
   | (with_reducible exact impl_sameLoan.mono _ _ _ _ _ _)
   | (with_reducible exact LeO.refl _)
   | (with_reducible exact LeO.none _)
   | (with_reducible refine LeO.ite ?_ ?_)
   | (with_reducible refine LeO.bind ?_ (fun _ => ?_))
   | exact ih0 _ _ _
   | exact ih1 _ _ _ _ _
   | exact ih2 _ _ _ _ _
   | exact impl_sameLoan.mono _ _ _ _ _ _
   | exact LeO.none _
   | refine LeO.ite ?_ ?_
   | refine LeO.bind ?_ (fun _ => ?_)
  ·intro y0 y1 y2 y3 y4
   unfold impl_IsShop.l1
   repeat' first
   | (with_reducible exact ih0 _ _ _)
   | (with_reducible exact ih1 _ _ _ _ _)
   | (with_reducible exact ih2 _ _ _ _ _)
   | (with_reducible exact impl_sameLoan.mono _ _ _ _ _ _)
   | (with_reducible exact LeO.refl _)
   | (with_reducible exact LeO.none _)
   | (with_reducible refine LeO.ite ?_ ?_)
   | (with_reducible refine LeO.bind ?_ (fun _ => ?_))
   | exact ih0 _ _ _
   | exact ih1 _ _ _ _ _
   | exact ih2 _ _ _ _ _
   | exact impl_sameLoan.mono _ _ _ _ _ _
   | exact LeO.none _
   | refine LeO.ite ?_ ?_
   | refine LeO.bind ?_ (fun _ => ?_)
theorem impl_IsShop.mono : ∀ a0 a1 k, LeO (impl_IsShop.f k a0 a1) (impl_IsShop.f (k + 1) a0 a1) := by
 intro a0 a1 k
 obtain ⟨ih0, ih1, ih2⟩ := impl_IsShop.mono_l k
 unfold impl_IsShop.f
 repeat' first
   | (with_reducible exact ih0 _ _ _)
   | (with_reducible exact ih1 _ _ _ _ _)
   | (with_reducible exact ih2 _ _ _ _ _)
   | (with_reducible exact impl_sameLoan.mono _ _ _ _ _ _)
   | (with_reducible exact LeO.refl _)
   | (with_reducible exact LeO.none _)
   | (with_reducible refine LeO.ite ?_ ?_)
   | (with_reducible refine LeO.bind ?_ (fun _ => ?_))
   | exact ih0 _ _ _
   | exact ih1 _ _ _ _ _
   | exact ih2 _ _ _ _ _
   | exact impl_sameLoan.mono _ _ _ _ _ _
   | exact LeO.none _
   | refine LeO.ite ?_ ?_
   | refine LeO.bind ?_ (fun _ => ?_)
def impl_IsShop.T12 : Bool × List (List Nat × List Nat) := (true, [([], []), ([0], [0]), ([1], [1]), ([2, 1], [2]), ([3], [3]), ([4, 3], [3, 4]), ([3], [3]), ([5, 6, 3], [3, 5, 6]), ([3], [3]), ([7, 8, 3, 3], [3, 7, 8]), ([9, 3], [3, 9]), ([3, 10], [3, 10])])
def impl_IsShop.B12 : List Nat := [0, 1, 3, 7, 15, 31, 15, 127, 15, 511, 1023, 2047]
theorem impl_IsShop.tab12 : rtab .any (opsOf Try.f27 12) = impl_IsShop.T12 := by kernel_rfl
theorem impl_IsShop.bits12 : waitsOk impl_IsShop.T12.2 impl_IsShop.B12 = true := by kernel_rfl
set_option maxHeartbeats 8000000 in
set_option maxRecDepth 100000 in
theorem impl_IsShop.calls (k : Nat) (A0_0 : Option Addr) (c0_0 : Nat) (l0_0 : List Int) (A0_1 : Option Addr) (c0_1 : Nat) (l0_1 : List (S41)) (r : Bool) (w : World) (hr0_0 : Kd.C (Kd.int .i64) w A0_0 l0_0.length l0_0) (hc0_0 : l0_0.length ≤ c0_0) (hr0_1 : Kd.C k41 w A0_1 l0_1.length l0_1) (hc0_1 : l0_1.length ≤ c0_1) (h : impl_IsShop.f k l0_0 l0_1 = some r) :
  Calls Try.prog 27 #[.agg #[.slice A0_0 l0_0.length c0_0, .slice A0_1 l0_1.length c0_1]] w fun e w' => e = .returned (.bool r) ∧ Below w.heap.size w w' := by
 have hu29 := Try.underlying29
 have hu41 := Try.underlying41
 have HR0_0 := Aside0.mk hr0_0
 have HC0_0 := Aside0.mk hc0_0
 clear hr0_0 hc0_0
 have HR0_1 := Aside0.mk hr0_1
 have HC0_1 := Aside0.mk hc0_1
 clear hr0_1 hc0_1
 have HB := Aside0.mk (Below.refl w.heap.size w)
 have H : (if (l0_0.length : Int) = 8 then (if 0 < (l0_0.length : Int) then (if (rd l0_0 0) = 0 then (impl_IsShop.j0 k (decide ((l0_1.length : Int) > 20)) l0_0 l0_1) else (impl_IsShop.j0 k true l0_0 l0_1)) else (none)) else (impl_IsShop.j0 k true l0_0 l0_1)) = some r := h
 clear h
 have HC2 := Aside0.mk H
 clear H
 go_enter Try.func27, Try.ntmps27
 go_upto_region 1 with (first | ((with_reducible refine gate_dst (N := 1) rfl ?_); (try (refine gate_guard (by rfl) ?_; dsimp only)); refine box_event ?hg (N := 1) ?hd (cs := #[.slice A0_0 l0_0.length c0_0, .slice A0_1 l0_1.length c0_1]) (t := 29) ?hr ?_; (case hd => rfl); (case hg => rfl); (case hr => first | (go_simp; done) | (go_simp; rfl)); intro gb191 hg w3 hbox hb; have BK191 := Aside0.mk (hbox); have GE191 := Aside0.mk (gq hg); replace HB := sb hb; clear hb hbox hg))
 (try simp only [Act.put, List.setIfInBounds_toArray, List.set_cons_zero, List.set_cons_succ])
 go_cut [23] (fun v23 wc => ∃ (kq : Nat) (x23_1 : Bool), v23 = .bool x23_1 ∧ Aside0 (impl_IsShop.j0 kq x23_1 l0_0 l0_1 = some r) ∧ Aside0 (kq ≤ k) ∧ Aside0 (wc.heap[gb191]? = some (.cells #[(.slice A0_0 l0_0.length c0_0), (.slice A0_1 l0_1.length c0_1)] 29 (0, 0))) ∧ Aside0 (Below w.heap.size w wc))
 case first =>
  have H := HC2.out
  clear HC2
  by_cases c4 : (l0_0.length : Int) = 8
  ·rw [if_pos c4] at H
   have c4b0 : ((l0_0.length : Int) == 8) = true := beq_iff_eq.mpr c4
   have c4b1 : ((l0_0.length : Int) != 8) = false := bne_eq_false_iff_eq.mpr c4
   clear c4
   (first | rw [c4b0] | (simp only [i64_w, i32_w]; rw [c4b0]) | skip)
   by_cases c5 : 0 < (l0_0.length : Int)
   ·rw [if_pos c5] at H
    have c5b0 : decide (0 < (l0_0.length : Int)) = true := decide_eq_true c5
    have c5b1 : decide (0 < l0_0.length) = true := decide_eq_true (by omega)
    clear c5
    by_cases c6 : (rd l0_0 0) = 0
    ·rw [if_pos c6] at H
     have c6b0 : ((rd l0_0 0) == 0) = true := beq_iff_eq.mpr c6
     have c6b1 : ((rd l0_0 0) != 0) = false := bne_eq_false_iff_eq.mpr c6
     clear c6
     have H' := Aside0.mk H
     clear H
     have ⟨hcz7_0, hcz7_1, hfz7_0, hfz7_1⟩ := bc2 BK191
     have p192 : 0 ≤ (0 : Int) := (by omega)
     have q192 : 0 < (l0_0.length : Int) := of_decide_eq_true aq
     obtain ⟨ad192, e192, hx192_0⟩ := Kd.at_int HR0_0.out 0 p192 q192
     cases e192
     have qi192 : (0 < l0_0.length) = True := eq_true (by omega)
     (try rw [show ((0 : Int)).toNat = 0 from rfl] at hx192_0)
     (try rw [Addr.add_zero'] at hx192_0)
     replace hx192_0 := (HB.out.cell (World.block_lt_of_cell? w _ hx192_0)).trans hx192_0
     replace p192 := eq_true p192
     replace q192 := eq_true q192
     go_wp2
     go_meet
     case rel => exact ⟨_, (decide ((l0_1.length : Int) > 20)), sq, H', ⟨by first | omega | exact Nat.le_refl _⟩, ⟨zq BK191⟩, ⟨bq⟩⟩
    ·rw [if_neg c6] at H
     have c6b0 : ((rd l0_0 0) == 0) = false := beq_eq_false_iff_ne.mpr c6
     have c6b1 : ((rd l0_0 0) != 0) = true := bne_iff_ne.mpr c6
     have H' := Aside0.mk H
     clear H
     have ⟨hcz8_0, hcz8_1, hfz8_0, hfz8_1⟩ := bc2 BK191
     have p192 : 0 ≤ (0 : Int) := (by omega)
     have q192 : 0 < (l0_0.length : Int) := of_decide_eq_true aq
     obtain ⟨ad192, e192, hx192_0⟩ := Kd.at_int HR0_0.out 0 p192 q192
     cases e192
     have qi192 : (0 < l0_0.length) = True := eq_true (by omega)
     (try rw [show ((0 : Int)).toNat = 0 from rfl] at hx192_0)
     (try rw [Addr.add_zero'] at hx192_0)
     replace hx192_0 := (HB.out.cell (World.block_lt_of_cell? w _ hx192_0)).trans hx192_0
     replace p192 := eq_true p192
     replace q192 := eq_true q192
     go_wp2
     go_meet
     case rel => exact ⟨_, (true), sq, H', ⟨by first | omega | exact Nat.le_refl _⟩, ⟨zq BK191⟩, ⟨bq⟩⟩
   ·rw [if_neg c5] at H
    exact absurd H (by simp)
  ·rw [if_neg c4] at H
   have c4b0 : ((l0_0.length : Int) == 8) = false := beq_eq_false_iff_ne.mpr c4
   have c4b1 : ((l0_0.length : Int) != 8) = true := bne_iff_ne.mpr c4
   (first | rw [c4b0] | (simp only [i64_w, i32_w]; rw [c4b0]) | skip)
   have H' := Aside0.mk H
   clear H
   have ⟨hcz9_0, hcz9_1, hfz9_0, hfz9_1⟩ := bc2 BK191
   go_wp2
   go_meet
   case rel => exact ⟨_, (true), sq, H', ⟨by first | omega | exact Nat.le_refl _⟩, ⟨zq BK191⟩, ⟨bq⟩⟩
 case rest =>
  clear HC2
  try clear p1
  try clear q1
  try clear hx1
  try clear qi1
  try clear c2
  try clear p2
  try clear c4
  try clear c4b0
  try clear c4b1
  try clear c5
  try clear c5b0
  try clear c5b1
  try clear c6
  try clear c6b0
  try clear c6b1
  try clear hcz7_0
  try clear hcz7_1
  try clear hcz8_0
  try clear hcz8_1
  try clear hcz9_0
  try clear hcz9_1
  try clear hfz7_0
  try clear hfz7_1
  try clear hfz8_0
  try clear hfz8_1
  try clear hfz9_0
  try clear hfz9_1
  try clear hx192_0
  try clear p192
  try clear q192
  obtain ⟨kq, x23_1, rfl, HA, HJ1, BK191, HB⟩ := hcut
  cases kq with
  | zero => exact absurd HA.out (by simp [impl_IsShop.j0])
  | succ kj1 =>
   have H := HA.out
   clear HA
   simp only [impl_IsShop.j0] at H
   by_cases c10 : x23_1 = true
   ·subst c10
    rw [if_pos rfl] at H
    try dsimp only at H
    obtain rfl := Option.some.inj H
    go_wp2
    go_ret
    exact ⟨eq_, bq⟩
   ·replace c10 := Bool.eq_false_iff.mpr c10
    subst c10
    rw [if_neg (show ¬ (false = true) by decide)] at H
    try dsimp only at H
    have H' := Aside0.mk H
    clear H
    have ⟨hcz11_0, hcz11_1, hfz11_0, hfz11_1⟩ := bc2 BK191
    go_wp2
    go_loopg [27] kj1 (fun kq v27 w' => ∃ (x27_2 : Int), v27 = .int .i64 x27_2 ∧ Aside0 (impl_IsShop.l0 kq l0_0 (l0_0.length : Int) x27_2 l0_0 l0_1 = some r) ∧ Aside0 (kq ≤ kj1) ∧ Aside0 (w'.heap[gb191]? = some (.cells #[(.slice A0_0 l0_0.length c0_0), (.slice A0_1 l0_1.length c0_1)] 29 (0, 0))) ∧ Aside0 (Below w.heap.size w w'))
    case atStart => exact ⟨(0), sq, H', ⟨Nat.le_refl _⟩, ⟨zq BK191⟩, ⟨bq⟩⟩
    case round =>
     clear H'
     try clear c1
     try clear p1
     try clear q1
     try clear hx1
     try clear qi1
     try clear c2
     try clear p2
     try clear c4
     try clear c4b0
     try clear c4b1
     try clear c5
     try clear c5b0
     try clear c5b1
     try clear c6
     try clear c6b0
     try clear c6b1
     try clear c10
     try clear hcz11_0
     try clear hcz11_1
     try clear hcz7_0
     try clear hcz7_1
     try clear hcz8_0
     try clear hcz8_1
     try clear hcz9_0
     try clear hcz9_1
     try clear hfz11_0
     try clear hfz11_1
     try clear hfz7_0
     try clear hfz7_1
     try clear hfz8_0
     try clear hfz8_1
     try clear hfz9_0
     try clear hfz9_1
     try clear hx192_0
     try clear p1
     try clear p192
     try clear p2
     try clear q1
     try clear q192
     obtain ⟨x27_2, rfl, HA, HK2, BK191, HB⟩ := hrel
     cases gk with
     | zero => exact absurd HA.out (by simp [impl_IsShop.l0])
     | succ k2 =>
      have H := HA.out
      clear HA
      simp only [impl_IsShop.l0] at H
      by_cases c12 : x27_2 < (l0_0.length : Int)
      ·rw [if_pos c12] at H
       have c12b0 : decide (x27_2 < (l0_0.length : Int)) = true := decide_eq_true c12
       clear c12
       by_cases c13 : 0 ≤ x27_2
       ·rw [if_pos c13] at H
        have c13b0 : decide (0 ≤ x27_2) = true := decide_eq_true c13
        clear c13
        by_cases c14 : x27_2 < (l0_0.length : Int)
        ·rw [if_pos c14] at H
         have c14b0 : decide (x27_2 < (l0_0.length : Int)) = true := decide_eq_true c14
         clear c14
         by_cases c15 : (rd l0_0 x27_2) < 0
         ·rw [if_pos c15] at H
          have c15b0 : decide ((rd l0_0 x27_2) < 0) = true := decide_eq_true c15
          clear c15
          obtain rfl := Option.some.inj H
          have p193 : 0 ≤ (x27_2 : Int) := of_decide_eq_true aq
          have q193 : x27_2 < (l0_0.length : Int) := of_decide_eq_true aq
          obtain ⟨ad193, e193, hx193_0⟩ := Kd.at_int HR0_0.out x27_2 p193 q193
          cases e193
          replace hx193_0 := (HB.out.cell (World.block_lt_of_cell? w _ hx193_0)).trans hx193_0
          replace p193 := eq_true p193
          replace q193 := eq_true q193
          go_wp2
          go_ret
          exact ⟨eq_, bq⟩
         ·rw [if_neg c15] at H
          have c15b0 : decide ((rd l0_0 x27_2) < 0) = false := decide_eq_false c15
          clear c15
          by_cases c16 : (rd l0_0 x27_2) > 999
          ·rw [if_pos c16] at H
           have c16b0 : decide (999 < (rd l0_0 x27_2)) = true := decide_eq_true c16
           clear c16
           obtain rfl := Option.some.inj H
           have p193 : 0 ≤ (x27_2 : Int) := of_decide_eq_true aq
           have q193 : x27_2 < (l0_0.length : Int) := of_decide_eq_true aq
           obtain ⟨ad193, e193, hx193_0⟩ := Kd.at_int HR0_0.out x27_2 p193 q193
           cases e193
           replace hx193_0 := (HB.out.cell (World.block_lt_of_cell? w _ hx193_0)).trans hx193_0
           replace p193 := eq_true p193
           replace q193 := eq_true q193
           go_wp2
           go_ret
           exact ⟨eq_, bq⟩
          ·rw [if_neg c16] at H
           have c16b0 : decide (999 < (rd l0_0 x27_2)) = false := decide_eq_false c16
           clear c16
           have H' := Aside0.mk H
           clear H
           have p193 : 0 ≤ (x27_2 : Int) := of_decide_eq_true aq
           have q193 : x27_2 < (l0_0.length : Int) := of_decide_eq_true aq
           obtain ⟨ad193, e193, hx193_0⟩ := Kd.at_int HR0_0.out x27_2 p193 q193
           cases e193
           replace hx193_0 := (HB.out.cell (World.block_lt_of_cell? w _ hx193_0)).trans hx193_0
           replace p193 := eq_true p193
           replace q193 := eq_true q193
           go_wp2
           go_roundg k2
           case measure => have := HJ1.out; have := HK2.out; omega
           case rel => exact ⟨(wrap64 (x27_2 + 1)), sq, H', ⟨by have := HJ1.out; have := HK2.out; omega⟩, ⟨zq BK191⟩, ⟨bq⟩⟩
        ·rw [if_neg c14] at H
         exact absurd H (by simp)
       ·rw [if_neg c13] at H
        exact absurd H (by simp)
      ·rw [if_neg c12] at H
       have c12b0 : decide (x27_2 < (l0_0.length : Int)) = false := decide_eq_false c12
       clear c12
       have H' := Aside0.mk H
       clear H
       have ⟨hcz17_0, hcz17_1, hfz17_0, hfz17_1⟩ := bc2 BK191
       go_wp2
       go_loopg [41] k2 (fun kq v41 w' => ∃ (x41_3 : Int), v41 = .int .i64 x41_3 ∧ Aside0 (impl_IsShop.l1 kq l0_1 (l0_1.length : Int) x41_3 l0_0 l0_1 = some r) ∧ Aside0 (kq ≤ k2) ∧ Aside0 (w'.heap[gb191]? = some (.cells #[(.slice A0_0 l0_0.length c0_0), (.slice A0_1 l0_1.length c0_1)] 29 (0, 0))) ∧ Aside0 (Below w.heap.size w w'))
       case atStart => exact ⟨(0), sq, H', ⟨Nat.le_refl _⟩, ⟨zq BK191⟩, ⟨bq⟩⟩
       case round =>
        clear H'
        try clear c1
        try clear p1
        try clear q1
        try clear hx1
        try clear qi1
        try clear c2
        try clear p2
        try clear c4
        try clear c4b0
        try clear c4b1
        try clear c5
        try clear c5b0
        try clear c5b1
        try clear c6
        try clear c6b0
        try clear c6b1
        try clear p6
        try clear c10
        try clear c12
        try clear c12b0
        try clear c13
        try clear c13b0
        try clear c14
        try clear c14b0
        try clear c15
        try clear c15b0
        try clear c16
        try clear c16b0
        try clear hcz11_0
        try clear hcz11_1
        try clear hcz17_0
        try clear hcz17_1
        try clear hcz7_0
        try clear hcz7_1
        try clear hcz8_0
        try clear hcz8_1
        try clear hcz9_0
        try clear hcz9_1
        try clear hfz11_0
        try clear hfz11_1
        try clear hfz17_0
        try clear hfz17_1
        try clear hfz7_0
        try clear hfz7_1
        try clear hfz8_0
        try clear hfz8_1
        try clear hfz9_0
        try clear hfz9_1
        try clear hx192_0
        try clear hx193_0
        try clear p1
        try clear p192
        try clear p193
        try clear p2
        try clear q1
        try clear q192
        try clear q193
        obtain ⟨x41_3, rfl, HA, HK3, BK191, HB⟩ := hrel
        cases gk with
        | zero => exact absurd HA.out (by simp [impl_IsShop.l1])
        | succ k3 =>
         have H := HA.out
         clear HA
         simp only [impl_IsShop.l1] at H
         by_cases c18 : x41_3 < (l0_1.length : Int)
         ·rw [if_pos c18] at H
          have c18b0 : decide (x41_3 < (l0_1.length : Int)) = true := decide_eq_true c18
          clear c18
          by_cases c19 : 0 ≤ x41_3
          ·rw [if_pos c19] at H
           have c19b0 : decide (0 ≤ x41_3) = true := decide_eq_true c19
           clear c19
           by_cases c20 : x41_3 < (l0_1.length : Int)
           ·rw [if_pos c20] at H
            have c20b0 : decide (x41_3 < (l0_1.length : Int)) = true := decide_eq_true c20
            clear c20
            obtain ⟨t196, A21, H⟩ := bindq H
            try dsimp only at H
            by_cases c22 : t196 = true
            ·subst c22
             rw [if_pos rfl] at H
             try dsimp only at H
             have c23b0 := eq_true (of_decide_eq_true aq : 0 ≤ x41_3)
             by_cases c24 : x41_3 ≤ (l0_1.length : Int)
             ·rw [if_pos c24] at H
              have c24b0 := eq_true c24
              have c24b1 : decide (x41_3 ≤ (l0_1.length : Int)) = true := decide_eq_true c24
              clear c24
              obtain ⟨y197, hy197⟩ : ∃ y_ : List (S41), y_ = (l0_1.take (x41_3 : Int).toNat) := ⟨_, rfl⟩
              replace H : ((impl_sameLoan.f k3 y197 ((rd_T41 l0_1 x41_3).f0) ((rd_T41 l0_1 x41_3).f1) ((rd_T41 l0_1 x41_3).f2) ((rd_T41 l0_1 x41_3).f3)).bind fun t201 => (if t201 ≥ 0 then (some false) else (impl_IsShop.l1 k3 l0_1 (l0_1.length : Int) (wrap64 (x41_3 + 1)) l0_0 l0_1))) = some r := by first | (rw [hy197]; with_reducible exact H) | (have H2_ := (Option.bind_some _ _).symm.trans H; rw [hy197]; with_reducible exact H2_) | (have H2_ := (Option.bind_some _ _).symm.trans H; with_reducible exact H2_) | with_reducible exact H | (rw [hy197]; exact H) | exact H
              have Ny197 := Aside0.mk hy197
              clear hy197
              obtain ⟨t201, A25, H⟩ := bindq H
              try dsimp only at H
              by_cases c26 : t201 ≥ 0
              ·rw [if_pos c26] at H
               have c26b0 : decide (0 ≤ t201) = true := decide_eq_true c26
               clear c26
               obtain rfl := Option.some.inj H
               have p194 : 0 ≤ (x41_3 : Int) := of_decide_eq_true aq
               have q194 : x41_3 < (l0_1.length : Int) := of_decide_eq_true aq
               obtain ⟨ad194, e194, hx194_0, hx194_1, hx194_2, hx194_3⟩ := at_T41 HR0_1.out x41_3 p194 q194
               cases e194
               replace hx194_0 := (HB.out.cell (World.block_lt_of_cell? w _ hx194_0)).trans hx194_0
               replace hx194_1 := (HB.out.cell (World.block_lt_of_cell? w _ hx194_1)).trans hx194_1
               replace hx194_2 := (HB.out.cell (World.block_lt_of_cell? w _ hx194_2)).trans hx194_2
               replace hx194_3 := (HB.out.cell (World.block_lt_of_cell? w _ hx194_3)).trans hx194_3
               replace p194 := eq_true p194
               replace q194 := eq_true q194
               try go_wp2_with (first | ((with_reducible refine gate_dst (N := 6) rfl ?_); (try (refine gate_guard (by rfl) ?_; dsimp only)); refine box_event ?hg (N := 6) ?hd (cs := #[.int .i64 0, .int .i64 0, .int .i64 0, .int .i64 0]) (t := 41) ?hr ?_; (case hd => rfl); (case hg => rfl); (case hr => first | (go_simp; done) | (go_simp; rfl)); intro gb195 hg w27 hbox hb; have BK195 := Aside0.mk (hbox); have GE195 := Aside0.mk (gq hg); replace HB := sb hb; have NB191_195 := nl hg BK191; have NB195_191 := ng hg BK191; replace BK191 := zb BK191 hb; clear hb hbox hg; have hnb28 := NB195_191.out; have hnc28 := NB191_195.out; have ⟨hcz29_0, hcz29_1, hcz29_2, hcz29_3, hfz29_0, hfz29_1, hfz29_2, hfz29_3⟩ := bc4 BK195))
               have n0_ : Aside0 (((((w27.setCell ⟨gb195, 0, none⟩ (.int .i64 ((rd_T41 l0_1 x41_3).f0))).setCell ⟨gb195, 1, none⟩ (.int .i64 ((rd_T41 l0_1 x41_3).f1))).setCell ⟨gb195, 2, none⟩ (.int .i64 ((rd_T41 l0_1 x41_3).f2))).setCell ⟨gb195, 3, none⟩ (.int .i64 ((rd_T41 l0_1 x41_3).f3))).heap[gb191]? = some (.cells #[.slice A0_0 l0_0.length c0_0, .slice (some ad194) l0_1.length c0_1] 29 (0, 0))) := ⟨by (with_reducible repeat (first | refine blk_drewN ?_ _ | refine blk_drew ?_ | refine blk_alloc ?_ _)); refine blk_far ?_ NB191_195.out _; (with_reducible repeat (first | refine blk_drewN ?_ _ | refine blk_drew ?_ | refine blk_alloc ?_ _)); refine blk_far ?_ NB191_195.out _; (with_reducible repeat (first | refine blk_drewN ?_ _ | refine blk_drew ?_ | refine blk_alloc ?_ _)); refine blk_far ?_ NB191_195.out _; (with_reducible repeat (first | refine blk_drewN ?_ _ | refine blk_drew ?_ | refine blk_alloc ?_ _)); refine blk_far ?_ NB191_195.out _; (with_reducible repeat (first | refine blk_drewN ?_ _ | refine blk_drew ?_ | refine blk_alloc ?_ _)); exact BK191.out⟩
               have n1_ : Aside0 (((((w27.setCell ⟨gb195, 0, none⟩ (.int .i64 ((rd_T41 l0_1 x41_3).f0))).setCell ⟨gb195, 1, none⟩ (.int .i64 ((rd_T41 l0_1 x41_3).f1))).setCell ⟨gb195, 2, none⟩ (.int .i64 ((rd_T41 l0_1 x41_3).f2))).setCell ⟨gb195, 3, none⟩ (.int .i64 ((rd_T41 l0_1 x41_3).f3))).heap[gb195]? = some (.cells #[.int .i64 ((rd_T41 l0_1 x41_3).f0), .int .i64 ((rd_T41 l0_1 x41_3).f1), .int .i64 ((rd_T41 l0_1 x41_3).f2), .int .i64 ((rd_T41 l0_1 x41_3).f3)] 41 (0, 0))) := ⟨by (with_reducible repeat (first | refine blk_drewN ?_ _ | refine blk_drew ?_ | refine blk_alloc ?_ _)); refine blk_put (cs := #[.int .i64 ((rd_T41 l0_1 x41_3).f0), .int .i64 ((rd_T41 l0_1 x41_3).f1), .int .i64 ((rd_T41 l0_1 x41_3).f2), .int .i64 0]) ?_ 3 _ rfl; (with_reducible repeat (first | refine blk_drewN ?_ _ | refine blk_drew ?_ | refine blk_alloc ?_ _)); refine blk_put (cs := #[.int .i64 ((rd_T41 l0_1 x41_3).f0), .int .i64 ((rd_T41 l0_1 x41_3).f1), .int .i64 0, .int .i64 0]) ?_ 2 _ rfl; (with_reducible repeat (first | refine blk_drewN ?_ _ | refine blk_drew ?_ | refine blk_alloc ?_ _)); refine blk_put (cs := #[.int .i64 ((rd_T41 l0_1 x41_3).f0), .int .i64 0, .int .i64 0, .int .i64 0]) ?_ 1 _ rfl; (with_reducible repeat (first | refine blk_drewN ?_ _ | refine blk_drew ?_ | refine blk_alloc ?_ _)); refine blk_put (cs := #[.int .i64 0, .int .i64 0, .int .i64 0, .int .i64 0]) ?_ 0 _ rfl; (with_reducible repeat (first | refine blk_drewN ?_ _ | refine blk_drew ?_ | refine blk_alloc ?_ _)); exact BK195.out⟩
               have n2_ : Aside0 (Below w.heap.size w ((((w27.setCell ⟨gb195, 0, none⟩ (.int .i64 ((rd_T41 l0_1 x41_3).f0))).setCell ⟨gb195, 1, none⟩ (.int .i64 ((rd_T41 l0_1 x41_3).f1))).setCell ⟨gb195, 2, none⟩ (.int .i64 ((rd_T41 l0_1 x41_3).f2))).setCell ⟨gb195, 3, none⟩ (.int .i64 ((rd_T41 l0_1 x41_3).f3)))) := ⟨bq⟩
               (try clear BK191)
               (try clear BK195)
               (try clear HB)
               generalize ((((w27.setCell ⟨gb195, 0, none⟩ (.int .i64 ((rd_T41 l0_1 x41_3).f0))).setCell ⟨gb195, 1, none⟩ (.int .i64 ((rd_T41 l0_1 x41_3).f1))).setCell ⟨gb195, 2, none⟩ (.int .i64 ((rd_T41 l0_1 x41_3).f2))).setCell ⟨gb195, 3, none⟩ (.int .i64 ((rd_T41 l0_1 x41_3).f3))) = w30 at n0_ n1_ n2_ ⊢
               have BK191 := n0_
               have BK195 := n1_
               have HB := n2_
               clear n0_ n1_ n2_
               replace BK191 := Aside0.mk (blk_drew BK191.out)
               replace BK195 := Aside0.mk (blk_drew BK195.out)
               replace HB := Aside0.mk (below_drew1 HB.out)
               refine start_ (n := 12) (S := fun w' => w'.cell? ⟨gb195, 0, none⟩ = some (.int .i64 ((rd_T41 l0_1 x41_3).f0)) ∧ w'.cell? ⟨gb195, 1, none⟩ = some (.int .i64 ((rd_T41 l0_1 x41_3).f1)) ∧ w'.cell? ⟨gb195, 2, none⟩ = some (.int .i64 ((rd_T41 l0_1 x41_3).f2)) ∧ w'.cell? ⟨gb195, 3, none⟩ = some (.int .i64 ((rd_T41 l0_1 x41_3).f3)) ∧ w'.cell? ⟨gb191, 0, none⟩ = some (.slice A0_0 l0_0.length c0_0) ∧ w'.cell? ⟨gb191, 1, none⟩ = some (.slice (some ad194) l0_1.length c0_1)) (ds := []) #[false, false, false, false, false, false, false, false, false, false, false, false] (by kernel_rfl) rfl rfl ⟨(blk_cell BK195.out 0).trans rfl, (blk_cell BK195.out 1).trans rfl, (blk_cell BK195.out 2).trans rfl, (blk_cell BK195.out 3).trans rfl, (blk_cell BK191.out 0).trans rfl, (blk_cell BK191.out 1).trans rfl⟩ (fun hHeld => ?_); refine with_tabW impl_IsShop.tab12 impl_IsShop.bits12 (fun HT_ HW_ => ?_)
               generalize w30.drew = w31 at BK191 BK195 HB hHeld ⊢
               refine take_ (i := 0) (N := some 46) (v := ?_) (a' := ?_) #[true, false, false, false, false, false, false, false, false, false, false, false] rfl rfl (take_ofW HT_.out HW_.out (by kernel_rfl)) (fun _ _ _ h => h) (Or.inl ⟨by rfl, ?_⟩) hHeld ?_ ?_
               rotate_left
               ·rintro w' ⟨s0, s1, s2, s3, s4, s5⟩
                go_simp
                with_reducible rfl
               rotate_left
               ·simp only [Act.put, List.setIfInBounds_toArray, List.set_cons_zero, List.set_cons_succ, i64_w, i32_w]
                rfl
               refine one_ (i := 1) (N := some 47) #[true, true, false, false, false, false, false, false, false, false, false, false] rfl rfl (one_of HT_.out (by kernel_rfl)) (by decide) (fun K hK => ?_)
               refine goes_ Try.func42 (by kernel_rfl) rfl #[.agg #[.int .i64 ((rd_T41 l0_1 x41_3).f0), .int .i64 ((rd_T41 l0_1 x41_3).f1), .int .i64 ((rd_T41 l0_1 x41_3).f2), .int .i64 ((rd_T41 l0_1 x41_3).f3)]] (by rfl) rfl rfl mq ?_
               with_reducible refine (impl_isLoan.calls ((rd_T41 l0_1 x41_3).f0) ((rd_T41 l0_1 x41_3).f1) ((rd_T41 l0_1 x41_3).f2) ((rd_T41 l0_1 x41_3).f3) true _ A21.out).mono ?_
               rintro e w32 ⟨rfl, hb⟩
               refine ⟨_, rfl, ?_⟩
               replace BK191 := zb BK191 hb
               replace BK195 := zb BK195 hb
               replace HB := sb hb
               (try clear hb)
               have q33 : (x41_3 : Int) ≤ ((l0_1.length : Int) : Int) := of_decide_eq_true aq
               obtain ⟨i033, hi033, _, hsz33, _⟩ := info_parts info41
               have hroom33 : l0_1.length ≤ c0_1 := HC0_1.out
               have hC33 : Kd.C k41 _ (some ad194) l0_1.length l0_1 := HR0_1.out
               have hcut33 := cut_to (P := Try.prog) 27 41 .i64 Try.underlying27 hi033 (some ad194) l0_1.length c0_1 x41_3 (of_decide_eq_true aq) q33 hroom33
               have hr33 := Kd.C_take (m := (x41_3 : Int).toNat) hC33 (by omega)
               have hy33 : y197.length = (x41_3 : Int).toNat := (by rw [Ny197.out, List.length_take]; omega)
               rw [← Ny197.out] at hr33
               rw [← hy33] at hcut33
               have HR200 := Aside0.mk hr33
               have HC200 := Aside0.mk (show y197.length ≤ c0_1 from by omega)
               clear hr33 hC33 hroom33 hi033 hsz33
               have KY33 := Aside0.mk hy33
               clear hy33
               replace q33 := eq_true q33
               refine hK.out _ _ ⟨(blk_cell BK195.out 0).trans rfl, (blk_cell BK195.out 1).trans rfl, (blk_cell BK195.out 2).trans rfl, (blk_cell BK195.out 3).trans rfl, (blk_cell BK191.out 0).trans rfl, (blk_cell BK191.out 1).trans rfl⟩ (fun hHeld => ?_)
               clear hK K
               refine norm_ (a' := ?_) ?_ ?_
               rotate_left
               ·show Act.put _ (some 47) _ = _
                simp only [Act.put, List.setIfInBounds_toArray, List.set_cons_zero, List.set_cons_succ, i64_w, i32_w]
                rfl
               refine pure_ (i := 2) (N := some 48) (v := ?_) (a' := ?_) #[true, true, true, false, false, false, false, false, false, false, false, false] rfl rfl (any_of HT_.out (by kernel_rfl)) (fun _ _ _ h => h) (Or.inl ⟨by rfl, ?_⟩) ?_ ?_
               rotate_left
               ·intro w'
                go_simp
                with_reducible rfl
               rotate_left
               ·simp only [Act.put, List.setIfInBounds_toArray, List.set_cons_zero, List.set_cons_succ, i64_w, i32_w]
                rfl
               refine pure_ (i := 3) (N := some 49) (v := ?_) (a' := ?_) #[true, true, true, true, false, false, false, false, false, false, false, false] rfl rfl (any_of HT_.out (by kernel_rfl)) (fun _ _ _ h => h) (Or.inl ⟨by rfl, ?_⟩) ?_ ?_
               rotate_left
               ·intro w'
                go_simp
                with_reducible rfl
               rotate_left
               ·simp only [Act.put, List.setIfInBounds_toArray, List.set_cons_zero, List.set_cons_succ, i64_w, i32_w]
                rfl
               refine pure_ (i := 4) (N := some 50) (v := ?_) (a' := ?_) #[true, true, true, true, true, false, false, false, false, false, false, false] rfl rfl (any_of HT_.out (by kernel_rfl)) (fun _ _ _ h => h) (Or.inl ⟨by rfl, ?_⟩) ?_ ?_
               rotate_left
               ·intro w'
                go_simp
                with_reducible rfl
               rotate_left
               ·simp only [Act.put, List.setIfInBounds_toArray, List.set_cons_zero, List.set_cons_succ, i64_w, i32_w]
                rfl
               refine pure_ (i := 6) (N := some 52) (v := ?_) (a' := ?_) #[true, true, true, true, true, false, true, false, false, false, false, false] rfl rfl (any_of HT_.out (by kernel_rfl)) (fun _ _ _ h => h) (Or.inl ⟨by rfl, ?_⟩) ?_ ?_
               rotate_left
               ·intro w'
                go_simp
                with_reducible rfl
               rotate_left
               ·simp only [Act.put, List.setIfInBounds_toArray, List.set_cons_zero, List.set_cons_succ, i64_w, i32_w]
                rfl
               refine take_ (i := 5) (N := some 51) (v := ?_) (a' := ?_) #[true, true, true, true, true, true, true, false, false, false, false, false] rfl rfl (take_ofW HT_.out HW_.out (by kernel_rfl)) (fun _ _ _ h => h) (Or.inl ⟨by rfl, ?_⟩) hHeld ?_ ?_
               rotate_left
               ·rintro w' ⟨s0, s1, s2, s3, s4, s5⟩
                go_simp
                with_reducible rfl
               rotate_left
               ·simp only [Act.put, List.setIfInBounds_toArray, List.set_cons_zero, List.set_cons_succ, i64_w, i32_w]
                rfl
               refine pure_ (i := 7) (N := some 53) (v := ?_) (a' := ?_) #[true, true, true, true, true, true, true, true, false, false, false, false] rfl rfl (any_of HT_.out (by kernel_rfl)) (fun _ _ _ h => h) (Or.inl ⟨by rfl, ?_⟩) ?_ ?_
               rotate_left
               ·intro w'
                go_simp
                with_reducible rfl
               rotate_left
               ·simp only [Act.put, List.setIfInBounds_toArray, List.set_cons_zero, List.set_cons_succ, i64_w, i32_w]
                rfl
               refine take_ (i := 8) (N := some 54) (v := ?_) (a' := ?_) #[true, true, true, true, true, true, true, true, true, false, false, false] rfl rfl (take_ofW HT_.out HW_.out (by kernel_rfl)) (fun _ _ _ h => h) (Or.inl ⟨by rfl, ?_⟩) hHeld ?_ ?_
               rotate_left
               ·rintro w' ⟨s0, s1, s2, s3, s4, s5⟩
                go_simp
                with_reducible rfl
               rotate_left
               ·simp only [Act.put, List.setIfInBounds_toArray, List.set_cons_zero, List.set_cons_succ, i64_w, i32_w]
                rfl
               refine one_ (i := 9) (N := some 55) #[true, true, true, true, true, true, true, true, true, true, false, false] rfl rfl (one_of HT_.out (by kernel_rfl)) (by decide) (fun K hK => ?_)
               refine goes_ Try.func43 (by kernel_rfl) rfl #[.slice (some ad194) y197.length c0_1, .agg #[.int .i64 ((rd_T41 l0_1 x41_3).f0), .int .i64 ((rd_T41 l0_1 x41_3).f1), .int .i64 ((rd_T41 l0_1 x41_3).f2), .int .i64 ((rd_T41 l0_1 x41_3).f3)]] (by rfl) rfl rfl mq ?_
               with_reducible refine (impl_sameLoan.calls k3 _ _ y197 ((rd_T41 l0_1 x41_3).f0) ((rd_T41 l0_1 x41_3).f1) ((rd_T41 l0_1 x41_3).f2) ((rd_T41 l0_1 x41_3).f3) t201 _ ?s1 ?s2 A25.out).mono ?_
               (case s1 => exact cq (Kd.C_below HR200.out HB.out))
               (case s2 => exact HC200.out)
               rintro e w34 ⟨rfl, hb⟩
               refine ⟨_, rfl, ?_⟩
               replace BK191 := zb BK191 hb
               replace BK195 := zb BK195 hb
               replace HB := sb hb
               (try clear hb)
               refine hK.out _ _ ⟨(blk_cell BK195.out 0).trans rfl, (blk_cell BK195.out 1).trans rfl, (blk_cell BK195.out 2).trans rfl, (blk_cell BK195.out 3).trans rfl, (blk_cell BK191.out 0).trans rfl, (blk_cell BK191.out 1).trans rfl⟩ (fun hHeld => ?_)
               clear hK K
               refine norm_ (a' := ?_) ?_ ?_
               rotate_left
               ·show Act.put _ (some 55) _ = _
                simp only [Act.put, List.setIfInBounds_toArray, List.set_cons_zero, List.set_cons_succ, i64_w, i32_w]
                rfl
               refine pure_ (i := 10) (N := some 56) (v := ?_) (a' := ?_) #[true, true, true, true, true, true, true, true, true, true, true, false] rfl rfl (any_of HT_.out (by kernel_rfl)) (fun _ _ _ h => h) (Or.inl ⟨by rfl, ?_⟩) ?_ ?_
               rotate_left
               ·intro w'
                go_simp
                with_reducible rfl
               rotate_left
               ·simp only [Act.put, List.setIfInBounds_toArray, List.set_cons_zero, List.set_cons_succ, i64_w, i32_w]
                rfl
               refine pure_ (i := 11) (N := some 57) (v := ?_) (a' := ?_) #[true, true, true, true, true, true, true, true, true, true, true, true] rfl rfl (any_of HT_.out (by kernel_rfl)) (fun _ _ _ h => h) (Or.inl ⟨by rfl, ?_⟩) ?_ ?_
               rotate_left
               ·intro w'
                go_simp
                with_reducible rfl
               rotate_left
               ·simp only [Act.put, List.setIfInBounds_toArray, List.set_cons_zero, List.set_cons_succ, i64_w, i32_w]
                rfl
               refine done_ (done_of HT_.out (by kernel_rfl)) ?_
               try go_wp2
               go_ret
               exact ⟨eq_, bq⟩
              ·rw [if_neg c26] at H
               have c26b0 : decide (0 ≤ t201) = false := decide_eq_false c26
               clear c26
               have H' := Aside0.mk H
               clear H
               have p194 : 0 ≤ (x41_3 : Int) := of_decide_eq_true aq
               have q194 : x41_3 < (l0_1.length : Int) := of_decide_eq_true aq
               obtain ⟨ad194, e194, hx194_0, hx194_1, hx194_2, hx194_3⟩ := at_T41 HR0_1.out x41_3 p194 q194
               cases e194
               replace hx194_0 := (HB.out.cell (World.block_lt_of_cell? w _ hx194_0)).trans hx194_0
               replace hx194_1 := (HB.out.cell (World.block_lt_of_cell? w _ hx194_1)).trans hx194_1
               replace hx194_2 := (HB.out.cell (World.block_lt_of_cell? w _ hx194_2)).trans hx194_2
               replace hx194_3 := (HB.out.cell (World.block_lt_of_cell? w _ hx194_3)).trans hx194_3
               replace p194 := eq_true p194
               replace q194 := eq_true q194
               try go_wp2_with (first | ((with_reducible refine gate_dst (N := 6) rfl ?_); (try (refine gate_guard (by rfl) ?_; dsimp only)); refine box_event ?hg (N := 6) ?hd (cs := #[.int .i64 0, .int .i64 0, .int .i64 0, .int .i64 0]) (t := 41) ?hr ?_; (case hd => rfl); (case hg => rfl); (case hr => first | (go_simp; done) | (go_simp; rfl)); intro gb195 hg w35 hbox hb; have BK195 := Aside0.mk (hbox); have GE195 := Aside0.mk (gq hg); replace HB := sb hb; have NB191_195 := nl hg BK191; have NB195_191 := ng hg BK191; replace BK191 := zb BK191 hb; clear hb hbox hg; have hnb36 := NB195_191.out; have hnc36 := NB191_195.out; have ⟨hcz37_0, hcz37_1, hcz37_2, hcz37_3, hfz37_0, hfz37_1, hfz37_2, hfz37_3⟩ := bc4 BK195))
               have n0_ : Aside0 (((((w35.setCell ⟨gb195, 0, none⟩ (.int .i64 ((rd_T41 l0_1 x41_3).f0))).setCell ⟨gb195, 1, none⟩ (.int .i64 ((rd_T41 l0_1 x41_3).f1))).setCell ⟨gb195, 2, none⟩ (.int .i64 ((rd_T41 l0_1 x41_3).f2))).setCell ⟨gb195, 3, none⟩ (.int .i64 ((rd_T41 l0_1 x41_3).f3))).heap[gb191]? = some (.cells #[.slice A0_0 l0_0.length c0_0, .slice (some ad194) l0_1.length c0_1] 29 (0, 0))) := ⟨by (with_reducible repeat (first | refine blk_drewN ?_ _ | refine blk_drew ?_ | refine blk_alloc ?_ _)); refine blk_far ?_ NB191_195.out _; (with_reducible repeat (first | refine blk_drewN ?_ _ | refine blk_drew ?_ | refine blk_alloc ?_ _)); refine blk_far ?_ NB191_195.out _; (with_reducible repeat (first | refine blk_drewN ?_ _ | refine blk_drew ?_ | refine blk_alloc ?_ _)); refine blk_far ?_ NB191_195.out _; (with_reducible repeat (first | refine blk_drewN ?_ _ | refine blk_drew ?_ | refine blk_alloc ?_ _)); refine blk_far ?_ NB191_195.out _; (with_reducible repeat (first | refine blk_drewN ?_ _ | refine blk_drew ?_ | refine blk_alloc ?_ _)); exact BK191.out⟩
               have n1_ : Aside0 (((((w35.setCell ⟨gb195, 0, none⟩ (.int .i64 ((rd_T41 l0_1 x41_3).f0))).setCell ⟨gb195, 1, none⟩ (.int .i64 ((rd_T41 l0_1 x41_3).f1))).setCell ⟨gb195, 2, none⟩ (.int .i64 ((rd_T41 l0_1 x41_3).f2))).setCell ⟨gb195, 3, none⟩ (.int .i64 ((rd_T41 l0_1 x41_3).f3))).heap[gb195]? = some (.cells #[.int .i64 ((rd_T41 l0_1 x41_3).f0), .int .i64 ((rd_T41 l0_1 x41_3).f1), .int .i64 ((rd_T41 l0_1 x41_3).f2), .int .i64 ((rd_T41 l0_1 x41_3).f3)] 41 (0, 0))) := ⟨by (with_reducible repeat (first | refine blk_drewN ?_ _ | refine blk_drew ?_ | refine blk_alloc ?_ _)); refine blk_put (cs := #[.int .i64 ((rd_T41 l0_1 x41_3).f0), .int .i64 ((rd_T41 l0_1 x41_3).f1), .int .i64 ((rd_T41 l0_1 x41_3).f2), .int .i64 0]) ?_ 3 _ rfl; (with_reducible repeat (first | refine blk_drewN ?_ _ | refine blk_drew ?_ | refine blk_alloc ?_ _)); refine blk_put (cs := #[.int .i64 ((rd_T41 l0_1 x41_3).f0), .int .i64 ((rd_T41 l0_1 x41_3).f1), .int .i64 0, .int .i64 0]) ?_ 2 _ rfl; (with_reducible repeat (first | refine blk_drewN ?_ _ | refine blk_drew ?_ | refine blk_alloc ?_ _)); refine blk_put (cs := #[.int .i64 ((rd_T41 l0_1 x41_3).f0), .int .i64 0, .int .i64 0, .int .i64 0]) ?_ 1 _ rfl; (with_reducible repeat (first | refine blk_drewN ?_ _ | refine blk_drew ?_ | refine blk_alloc ?_ _)); refine blk_put (cs := #[.int .i64 0, .int .i64 0, .int .i64 0, .int .i64 0]) ?_ 0 _ rfl; (with_reducible repeat (first | refine blk_drewN ?_ _ | refine blk_drew ?_ | refine blk_alloc ?_ _)); exact BK195.out⟩
               have n2_ : Aside0 (Below w.heap.size w ((((w35.setCell ⟨gb195, 0, none⟩ (.int .i64 ((rd_T41 l0_1 x41_3).f0))).setCell ⟨gb195, 1, none⟩ (.int .i64 ((rd_T41 l0_1 x41_3).f1))).setCell ⟨gb195, 2, none⟩ (.int .i64 ((rd_T41 l0_1 x41_3).f2))).setCell ⟨gb195, 3, none⟩ (.int .i64 ((rd_T41 l0_1 x41_3).f3)))) := ⟨bq⟩
               (try clear BK191)
               (try clear BK195)
               (try clear HB)
               generalize ((((w35.setCell ⟨gb195, 0, none⟩ (.int .i64 ((rd_T41 l0_1 x41_3).f0))).setCell ⟨gb195, 1, none⟩ (.int .i64 ((rd_T41 l0_1 x41_3).f1))).setCell ⟨gb195, 2, none⟩ (.int .i64 ((rd_T41 l0_1 x41_3).f2))).setCell ⟨gb195, 3, none⟩ (.int .i64 ((rd_T41 l0_1 x41_3).f3))) = w38 at n0_ n1_ n2_ ⊢
               have BK191 := n0_
               have BK195 := n1_
               have HB := n2_
               clear n0_ n1_ n2_
               replace BK191 := Aside0.mk (blk_drew BK191.out)
               replace BK195 := Aside0.mk (blk_drew BK195.out)
               replace HB := Aside0.mk (below_drew1 HB.out)
               refine start_ (n := 12) (S := fun w' => w'.cell? ⟨gb195, 0, none⟩ = some (.int .i64 ((rd_T41 l0_1 x41_3).f0)) ∧ w'.cell? ⟨gb195, 1, none⟩ = some (.int .i64 ((rd_T41 l0_1 x41_3).f1)) ∧ w'.cell? ⟨gb195, 2, none⟩ = some (.int .i64 ((rd_T41 l0_1 x41_3).f2)) ∧ w'.cell? ⟨gb195, 3, none⟩ = some (.int .i64 ((rd_T41 l0_1 x41_3).f3)) ∧ w'.cell? ⟨gb191, 0, none⟩ = some (.slice A0_0 l0_0.length c0_0) ∧ w'.cell? ⟨gb191, 1, none⟩ = some (.slice (some ad194) l0_1.length c0_1)) (ds := []) #[false, false, false, false, false, false, false, false, false, false, false, false] (by kernel_rfl) rfl rfl ⟨(blk_cell BK195.out 0).trans rfl, (blk_cell BK195.out 1).trans rfl, (blk_cell BK195.out 2).trans rfl, (blk_cell BK195.out 3).trans rfl, (blk_cell BK191.out 0).trans rfl, (blk_cell BK191.out 1).trans rfl⟩ (fun hHeld => ?_); refine with_tabW impl_IsShop.tab12 impl_IsShop.bits12 (fun HT_ HW_ => ?_)
               generalize w38.drew = w39 at BK191 BK195 HB hHeld ⊢
               refine take_ (i := 0) (N := some 46) (v := ?_) (a' := ?_) #[true, false, false, false, false, false, false, false, false, false, false, false] rfl rfl (take_ofW HT_.out HW_.out (by kernel_rfl)) (fun _ _ _ h => h) (Or.inl ⟨by rfl, ?_⟩) hHeld ?_ ?_
               rotate_left
               ·rintro w' ⟨s0, s1, s2, s3, s4, s5⟩
                go_simp
                with_reducible rfl
               rotate_left
               ·simp only [Act.put, List.setIfInBounds_toArray, List.set_cons_zero, List.set_cons_succ, i64_w, i32_w]
                rfl
               refine one_ (i := 1) (N := some 47) #[true, true, false, false, false, false, false, false, false, false, false, false] rfl rfl (one_of HT_.out (by kernel_rfl)) (by decide) (fun K hK => ?_)
               refine goes_ Try.func42 (by kernel_rfl) rfl #[.agg #[.int .i64 ((rd_T41 l0_1 x41_3).f0), .int .i64 ((rd_T41 l0_1 x41_3).f1), .int .i64 ((rd_T41 l0_1 x41_3).f2), .int .i64 ((rd_T41 l0_1 x41_3).f3)]] (by rfl) rfl rfl mq ?_
               with_reducible refine (impl_isLoan.calls ((rd_T41 l0_1 x41_3).f0) ((rd_T41 l0_1 x41_3).f1) ((rd_T41 l0_1 x41_3).f2) ((rd_T41 l0_1 x41_3).f3) true _ A21.out).mono ?_
               rintro e w40 ⟨rfl, hb⟩
               refine ⟨_, rfl, ?_⟩
               replace BK191 := zb BK191 hb
               replace BK195 := zb BK195 hb
               replace HB := sb hb
               (try clear hb)
               have q41 : (x41_3 : Int) ≤ ((l0_1.length : Int) : Int) := of_decide_eq_true aq
               obtain ⟨i041, hi041, _, hsz41, _⟩ := info_parts info41
               have hroom41 : l0_1.length ≤ c0_1 := HC0_1.out
               have hC41 : Kd.C k41 _ (some ad194) l0_1.length l0_1 := HR0_1.out
               have hcut41 := cut_to (P := Try.prog) 27 41 .i64 Try.underlying27 hi041 (some ad194) l0_1.length c0_1 x41_3 (of_decide_eq_true aq) q41 hroom41
               have hr41 := Kd.C_take (m := (x41_3 : Int).toNat) hC41 (by omega)
               have hy41 : y197.length = (x41_3 : Int).toNat := (by rw [Ny197.out, List.length_take]; omega)
               rw [← Ny197.out] at hr41
               rw [← hy41] at hcut41
               have HR200 := Aside0.mk hr41
               have HC200 := Aside0.mk (show y197.length ≤ c0_1 from by omega)
               clear hr41 hC41 hroom41 hi041 hsz41
               have KY41 := Aside0.mk hy41
               clear hy41
               replace q41 := eq_true q41
               refine hK.out _ _ ⟨(blk_cell BK195.out 0).trans rfl, (blk_cell BK195.out 1).trans rfl, (blk_cell BK195.out 2).trans rfl, (blk_cell BK195.out 3).trans rfl, (blk_cell BK191.out 0).trans rfl, (blk_cell BK191.out 1).trans rfl⟩ (fun hHeld => ?_)
               clear hK K
               refine norm_ (a' := ?_) ?_ ?_
               rotate_left
               ·show Act.put _ (some 47) _ = _
                simp only [Act.put, List.setIfInBounds_toArray, List.set_cons_zero, List.set_cons_succ, i64_w, i32_w]
                rfl
               refine pure_ (i := 2) (N := some 48) (v := ?_) (a' := ?_) #[true, true, true, false, false, false, false, false, false, false, false, false] rfl rfl (any_of HT_.out (by kernel_rfl)) (fun _ _ _ h => h) (Or.inl ⟨by rfl, ?_⟩) ?_ ?_
               rotate_left
               ·intro w'
                go_simp
                with_reducible rfl
               rotate_left
               ·simp only [Act.put, List.setIfInBounds_toArray, List.set_cons_zero, List.set_cons_succ, i64_w, i32_w]
                rfl
               refine pure_ (i := 3) (N := some 49) (v := ?_) (a' := ?_) #[true, true, true, true, false, false, false, false, false, false, false, false] rfl rfl (any_of HT_.out (by kernel_rfl)) (fun _ _ _ h => h) (Or.inl ⟨by rfl, ?_⟩) ?_ ?_
               rotate_left
               ·intro w'
                go_simp
                with_reducible rfl
               rotate_left
               ·simp only [Act.put, List.setIfInBounds_toArray, List.set_cons_zero, List.set_cons_succ, i64_w, i32_w]
                rfl
               refine pure_ (i := 4) (N := some 50) (v := ?_) (a' := ?_) #[true, true, true, true, true, false, false, false, false, false, false, false] rfl rfl (any_of HT_.out (by kernel_rfl)) (fun _ _ _ h => h) (Or.inl ⟨by rfl, ?_⟩) ?_ ?_
               rotate_left
               ·intro w'
                go_simp
                with_reducible rfl
               rotate_left
               ·simp only [Act.put, List.setIfInBounds_toArray, List.set_cons_zero, List.set_cons_succ, i64_w, i32_w]
                rfl
               refine pure_ (i := 6) (N := some 52) (v := ?_) (a' := ?_) #[true, true, true, true, true, false, true, false, false, false, false, false] rfl rfl (any_of HT_.out (by kernel_rfl)) (fun _ _ _ h => h) (Or.inl ⟨by rfl, ?_⟩) ?_ ?_
               rotate_left
               ·intro w'
                go_simp
                with_reducible rfl
               rotate_left
               ·simp only [Act.put, List.setIfInBounds_toArray, List.set_cons_zero, List.set_cons_succ, i64_w, i32_w]
                rfl
               refine take_ (i := 5) (N := some 51) (v := ?_) (a' := ?_) #[true, true, true, true, true, true, true, false, false, false, false, false] rfl rfl (take_ofW HT_.out HW_.out (by kernel_rfl)) (fun _ _ _ h => h) (Or.inl ⟨by rfl, ?_⟩) hHeld ?_ ?_
               rotate_left
               ·rintro w' ⟨s0, s1, s2, s3, s4, s5⟩
                go_simp
                with_reducible rfl
               rotate_left
               ·simp only [Act.put, List.setIfInBounds_toArray, List.set_cons_zero, List.set_cons_succ, i64_w, i32_w]
                rfl
               refine pure_ (i := 7) (N := some 53) (v := ?_) (a' := ?_) #[true, true, true, true, true, true, true, true, false, false, false, false] rfl rfl (any_of HT_.out (by kernel_rfl)) (fun _ _ _ h => h) (Or.inl ⟨by rfl, ?_⟩) ?_ ?_
               rotate_left
               ·intro w'
                go_simp
                with_reducible rfl
               rotate_left
               ·simp only [Act.put, List.setIfInBounds_toArray, List.set_cons_zero, List.set_cons_succ, i64_w, i32_w]
                rfl
               refine take_ (i := 8) (N := some 54) (v := ?_) (a' := ?_) #[true, true, true, true, true, true, true, true, true, false, false, false] rfl rfl (take_ofW HT_.out HW_.out (by kernel_rfl)) (fun _ _ _ h => h) (Or.inl ⟨by rfl, ?_⟩) hHeld ?_ ?_
               rotate_left
               ·rintro w' ⟨s0, s1, s2, s3, s4, s5⟩
                go_simp
                with_reducible rfl
               rotate_left
               ·simp only [Act.put, List.setIfInBounds_toArray, List.set_cons_zero, List.set_cons_succ, i64_w, i32_w]
                rfl
               refine one_ (i := 9) (N := some 55) #[true, true, true, true, true, true, true, true, true, true, false, false] rfl rfl (one_of HT_.out (by kernel_rfl)) (by decide) (fun K hK => ?_)
               refine goes_ Try.func43 (by kernel_rfl) rfl #[.slice (some ad194) y197.length c0_1, .agg #[.int .i64 ((rd_T41 l0_1 x41_3).f0), .int .i64 ((rd_T41 l0_1 x41_3).f1), .int .i64 ((rd_T41 l0_1 x41_3).f2), .int .i64 ((rd_T41 l0_1 x41_3).f3)]] (by rfl) rfl rfl mq ?_
               with_reducible refine (impl_sameLoan.calls k3 _ _ y197 ((rd_T41 l0_1 x41_3).f0) ((rd_T41 l0_1 x41_3).f1) ((rd_T41 l0_1 x41_3).f2) ((rd_T41 l0_1 x41_3).f3) t201 _ ?s1 ?s2 A25.out).mono ?_
               (case s1 => exact cq (Kd.C_below HR200.out HB.out))
               (case s2 => exact HC200.out)
               rintro e w42 ⟨rfl, hb⟩
               refine ⟨_, rfl, ?_⟩
               replace BK191 := zb BK191 hb
               replace BK195 := zb BK195 hb
               replace HB := sb hb
               (try clear hb)
               refine hK.out _ _ ⟨(blk_cell BK195.out 0).trans rfl, (blk_cell BK195.out 1).trans rfl, (blk_cell BK195.out 2).trans rfl, (blk_cell BK195.out 3).trans rfl, (blk_cell BK191.out 0).trans rfl, (blk_cell BK191.out 1).trans rfl⟩ (fun hHeld => ?_)
               clear hK K
               refine norm_ (a' := ?_) ?_ ?_
               rotate_left
               ·show Act.put _ (some 55) _ = _
                simp only [Act.put, List.setIfInBounds_toArray, List.set_cons_zero, List.set_cons_succ, i64_w, i32_w]
                rfl
               refine pure_ (i := 10) (N := some 56) (v := ?_) (a' := ?_) #[true, true, true, true, true, true, true, true, true, true, true, false] rfl rfl (any_of HT_.out (by kernel_rfl)) (fun _ _ _ h => h) (Or.inl ⟨by rfl, ?_⟩) ?_ ?_
               rotate_left
               ·intro w'
                go_simp
                with_reducible rfl
               rotate_left
               ·simp only [Act.put, List.setIfInBounds_toArray, List.set_cons_zero, List.set_cons_succ, i64_w, i32_w]
                rfl
               refine pure_ (i := 11) (N := some 57) (v := ?_) (a' := ?_) #[true, true, true, true, true, true, true, true, true, true, true, true] rfl rfl (any_of HT_.out (by kernel_rfl)) (fun _ _ _ h => h) (Or.inl ⟨by rfl, ?_⟩) ?_ ?_
               rotate_left
               ·intro w'
                go_simp
                with_reducible rfl
               rotate_left
               ·simp only [Act.put, List.setIfInBounds_toArray, List.set_cons_zero, List.set_cons_succ, i64_w, i32_w]
                rfl
               refine done_ (done_of HT_.out (by kernel_rfl)) ?_
               try go_wp2
               go_roundg k3
               case measure => have := HJ1.out; have := HK2.out; have := HK3.out; omega
               case rel => exact ⟨(wrap64 (x41_3 + 1)), sq, H', ⟨by have := HJ1.out; have := HK2.out; have := HK3.out; omega⟩, ⟨zq BK191⟩, ⟨bq⟩⟩
             ·rw [if_neg c24] at H
              exact absurd H (by simp)
            ·replace c22 := Bool.eq_false_iff.mpr c22
             subst c22
             rw [if_neg (show ¬ (false = true) by decide)] at H
             try dsimp only at H
             obtain rfl := Option.some.inj H
             have p194 : 0 ≤ (x41_3 : Int) := of_decide_eq_true aq
             have q194 : x41_3 < (l0_1.length : Int) := of_decide_eq_true aq
             obtain ⟨ad194, e194, hx194_0, hx194_1, hx194_2, hx194_3⟩ := at_T41 HR0_1.out x41_3 p194 q194
             cases e194
             replace hx194_0 := (HB.out.cell (World.block_lt_of_cell? w _ hx194_0)).trans hx194_0
             replace hx194_1 := (HB.out.cell (World.block_lt_of_cell? w _ hx194_1)).trans hx194_1
             replace hx194_2 := (HB.out.cell (World.block_lt_of_cell? w _ hx194_2)).trans hx194_2
             replace hx194_3 := (HB.out.cell (World.block_lt_of_cell? w _ hx194_3)).trans hx194_3
             replace p194 := eq_true p194
             replace q194 := eq_true q194
             try go_wp2_with (first | ((with_reducible refine gate_dst (N := 6) rfl ?_); (try (refine gate_guard (by rfl) ?_; dsimp only)); refine box_event ?hg (N := 6) ?hd (cs := #[.int .i64 0, .int .i64 0, .int .i64 0, .int .i64 0]) (t := 41) ?hr ?_; (case hd => rfl); (case hg => rfl); (case hr => first | (go_simp; done) | (go_simp; rfl)); intro gb195 hg w43 hbox hb; have BK195 := Aside0.mk (hbox); have GE195 := Aside0.mk (gq hg); replace HB := sb hb; have NB191_195 := nl hg BK191; have NB195_191 := ng hg BK191; replace BK191 := zb BK191 hb; clear hb hbox hg; have hnb44 := NB195_191.out; have hnc44 := NB191_195.out; have ⟨hcz45_0, hcz45_1, hcz45_2, hcz45_3, hfz45_0, hfz45_1, hfz45_2, hfz45_3⟩ := bc4 BK195))
             have n0_ : Aside0 (((((w43.setCell ⟨gb195, 0, none⟩ (.int .i64 ((rd_T41 l0_1 x41_3).f0))).setCell ⟨gb195, 1, none⟩ (.int .i64 ((rd_T41 l0_1 x41_3).f1))).setCell ⟨gb195, 2, none⟩ (.int .i64 ((rd_T41 l0_1 x41_3).f2))).setCell ⟨gb195, 3, none⟩ (.int .i64 ((rd_T41 l0_1 x41_3).f3))).heap[gb191]? = some (.cells #[.slice A0_0 l0_0.length c0_0, .slice (some ad194) l0_1.length c0_1] 29 (0, 0))) := ⟨by (with_reducible repeat (first | refine blk_drewN ?_ _ | refine blk_drew ?_ | refine blk_alloc ?_ _)); refine blk_far ?_ NB191_195.out _; (with_reducible repeat (first | refine blk_drewN ?_ _ | refine blk_drew ?_ | refine blk_alloc ?_ _)); refine blk_far ?_ NB191_195.out _; (with_reducible repeat (first | refine blk_drewN ?_ _ | refine blk_drew ?_ | refine blk_alloc ?_ _)); refine blk_far ?_ NB191_195.out _; (with_reducible repeat (first | refine blk_drewN ?_ _ | refine blk_drew ?_ | refine blk_alloc ?_ _)); refine blk_far ?_ NB191_195.out _; (with_reducible repeat (first | refine blk_drewN ?_ _ | refine blk_drew ?_ | refine blk_alloc ?_ _)); exact BK191.out⟩
             have n1_ : Aside0 (((((w43.setCell ⟨gb195, 0, none⟩ (.int .i64 ((rd_T41 l0_1 x41_3).f0))).setCell ⟨gb195, 1, none⟩ (.int .i64 ((rd_T41 l0_1 x41_3).f1))).setCell ⟨gb195, 2, none⟩ (.int .i64 ((rd_T41 l0_1 x41_3).f2))).setCell ⟨gb195, 3, none⟩ (.int .i64 ((rd_T41 l0_1 x41_3).f3))).heap[gb195]? = some (.cells #[.int .i64 ((rd_T41 l0_1 x41_3).f0), .int .i64 ((rd_T41 l0_1 x41_3).f1), .int .i64 ((rd_T41 l0_1 x41_3).f2), .int .i64 ((rd_T41 l0_1 x41_3).f3)] 41 (0, 0))) := ⟨by (with_reducible repeat (first | refine blk_drewN ?_ _ | refine blk_drew ?_ | refine blk_alloc ?_ _)); refine blk_put (cs := #[.int .i64 ((rd_T41 l0_1 x41_3).f0), .int .i64 ((rd_T41 l0_1 x41_3).f1), .int .i64 ((rd_T41 l0_1 x41_3).f2), .int .i64 0]) ?_ 3 _ rfl; (with_reducible repeat (first | refine blk_drewN ?_ _ | refine blk_drew ?_ | refine blk_alloc ?_ _)); refine blk_put (cs := #[.int .i64 ((rd_T41 l0_1 x41_3).f0), .int .i64 ((rd_T41 l0_1 x41_3).f1), .int .i64 0, .int .i64 0]) ?_ 2 _ rfl; (with_reducible repeat (first | refine blk_drewN ?_ _ | refine blk_drew ?_ | refine blk_alloc ?_ _)); refine blk_put (cs := #[.int .i64 ((rd_T41 l0_1 x41_3).f0), .int .i64 0, .int .i64 0, .int .i64 0]) ?_ 1 _ rfl; (with_reducible repeat (first | refine blk_drewN ?_ _ | refine blk_drew ?_ | refine blk_alloc ?_ _)); refine blk_put (cs := #[.int .i64 0, .int .i64 0, .int .i64 0, .int .i64 0]) ?_ 0 _ rfl; (with_reducible repeat (first | refine blk_drewN ?_ _ | refine blk_drew ?_ | refine blk_alloc ?_ _)); exact BK195.out⟩
             have n2_ : Aside0 (Below w.heap.size w ((((w43.setCell ⟨gb195, 0, none⟩ (.int .i64 ((rd_T41 l0_1 x41_3).f0))).setCell ⟨gb195, 1, none⟩ (.int .i64 ((rd_T41 l0_1 x41_3).f1))).setCell ⟨gb195, 2, none⟩ (.int .i64 ((rd_T41 l0_1 x41_3).f2))).setCell ⟨gb195, 3, none⟩ (.int .i64 ((rd_T41 l0_1 x41_3).f3)))) := ⟨bq⟩
             (try clear BK191)
             (try clear BK195)
             (try clear HB)
             generalize ((((w43.setCell ⟨gb195, 0, none⟩ (.int .i64 ((rd_T41 l0_1 x41_3).f0))).setCell ⟨gb195, 1, none⟩ (.int .i64 ((rd_T41 l0_1 x41_3).f1))).setCell ⟨gb195, 2, none⟩ (.int .i64 ((rd_T41 l0_1 x41_3).f2))).setCell ⟨gb195, 3, none⟩ (.int .i64 ((rd_T41 l0_1 x41_3).f3))) = w46 at n0_ n1_ n2_ ⊢
             have BK195 := n1_
             have HB := n2_
             clear n0_ n1_ n2_
             replace BK195 := Aside0.mk (blk_drew BK195.out)
             replace HB := Aside0.mk (below_drew1 HB.out)
             refine start_ (n := 12) (S := fun w' => w'.cell? ⟨gb195, 0, none⟩ = some (.int .i64 ((rd_T41 l0_1 x41_3).f0)) ∧ w'.cell? ⟨gb195, 1, none⟩ = some (.int .i64 ((rd_T41 l0_1 x41_3).f1)) ∧ w'.cell? ⟨gb195, 2, none⟩ = some (.int .i64 ((rd_T41 l0_1 x41_3).f2)) ∧ w'.cell? ⟨gb195, 3, none⟩ = some (.int .i64 ((rd_T41 l0_1 x41_3).f3))) (ds := []) #[false, false, false, false, false, false, false, false, false, false, false, false] (by kernel_rfl) rfl rfl ⟨(blk_cell BK195.out 0).trans rfl, (blk_cell BK195.out 1).trans rfl, (blk_cell BK195.out 2).trans rfl, (blk_cell BK195.out 3).trans rfl⟩ (fun hHeld => ?_); refine with_tabW impl_IsShop.tab12 impl_IsShop.bits12 (fun HT_ HW_ => ?_)
             generalize w46.drew = w47 at BK195 HB hHeld ⊢
             refine take_ (i := 0) (N := some 46) (v := ?_) (a' := ?_) #[true, false, false, false, false, false, false, false, false, false, false, false] rfl rfl (take_ofW HT_.out HW_.out (by kernel_rfl)) (fun _ _ _ h => h) (Or.inl ⟨by rfl, ?_⟩) hHeld ?_ ?_
             rotate_left
             ·rintro w' ⟨s0, s1, s2, s3⟩
              go_simp
              with_reducible rfl
             rotate_left
             ·simp only [Act.put, List.setIfInBounds_toArray, List.set_cons_zero, List.set_cons_succ, i64_w, i32_w]
              rfl
             refine one_ (i := 1) (N := some 47) #[true, true, false, false, false, false, false, false, false, false, false, false] rfl rfl (one_of HT_.out (by kernel_rfl)) (by decide) (fun K hK => ?_)
             refine goes_ Try.func42 (by kernel_rfl) rfl #[.agg #[.int .i64 ((rd_T41 l0_1 x41_3).f0), .int .i64 ((rd_T41 l0_1 x41_3).f1), .int .i64 ((rd_T41 l0_1 x41_3).f2), .int .i64 ((rd_T41 l0_1 x41_3).f3)]] (by rfl) rfl rfl mq ?_
             with_reducible refine (impl_isLoan.calls ((rd_T41 l0_1 x41_3).f0) ((rd_T41 l0_1 x41_3).f1) ((rd_T41 l0_1 x41_3).f2) ((rd_T41 l0_1 x41_3).f3) false _ A21.out).mono ?_
             rintro e w48 ⟨rfl, hb⟩
             refine ⟨_, rfl, ?_⟩
             replace BK195 := zb BK195 hb
             replace HB := sb hb
             (try clear hb)
             refine hK.out _ _ ⟨(blk_cell BK195.out 0).trans rfl, (blk_cell BK195.out 1).trans rfl, (blk_cell BK195.out 2).trans rfl, (blk_cell BK195.out 3).trans rfl⟩ (fun hHeld => ?_)
             clear hK K
             refine norm_ (a' := ?_) ?_ ?_
             rotate_left
             ·show Act.put _ (some 47) _ = _
              simp only [Act.put, List.setIfInBounds_toArray, List.set_cons_zero, List.set_cons_succ, i64_w, i32_w]
              rfl
             refine pure_ (i := 2) (N := some 48) (v := ?_) (a' := ?_) #[true, true, true, false, false, false, false, false, false, false, false, false] rfl rfl (any_of HT_.out (by kernel_rfl)) (fun _ _ _ h => h) (Or.inl ⟨by rfl, ?_⟩) ?_ ?_
             rotate_left
             ·intro w'
              go_simp
              with_reducible rfl
             rotate_left
             ·simp only [Act.put, List.setIfInBounds_toArray, List.set_cons_zero, List.set_cons_succ, i64_w, i32_w]
              rfl
             refine pure_ (i := 3) (N := some 49) (v := ?_) (a' := ?_) #[true, true, true, true, false, false, false, false, false, false, false, false] rfl rfl (any_of HT_.out (by kernel_rfl)) (fun _ _ _ h => h) (Or.inl ⟨by rfl, ?_⟩) ?_ ?_
             rotate_left
             ·intro w'
              go_simp
              with_reducible rfl
             rotate_left
             ·simp only [Act.put, List.setIfInBounds_toArray, List.set_cons_zero, List.set_cons_succ, i64_w, i32_w]
              rfl
             refine pure_ (i := 4) (N := some 50) (v := undef) (a' := ?_) #[true, true, true, true, true, false, false, false, false, false, false, false] rfl rfl (any_of HT_.out (by kernel_rfl)) (fun _ _ _ h => h) (Or.inr ⟨by rfl, rfl⟩) ?_ ?_
             rotate_left
             ·simp only [Act.put, List.setIfInBounds_toArray, List.set_cons_zero, List.set_cons_succ, i64_w, i32_w]
              rfl
             refine pure_ (i := 5) (N := some 51) (v := undef) (a' := ?_) #[true, true, true, true, true, true, false, false, false, false, false, false] rfl rfl (any_of HT_.out (by kernel_rfl)) (fun _ _ _ h => h) (Or.inr ⟨by rfl, rfl⟩) ?_ ?_
             rotate_left
             ·simp only [Act.put, List.setIfInBounds_toArray, List.set_cons_zero, List.set_cons_succ, i64_w, i32_w]
              rfl
             refine pure_ (i := 6) (N := some 52) (v := undef) (a' := ?_) #[true, true, true, true, true, true, true, false, false, false, false, false] rfl rfl (any_of HT_.out (by kernel_rfl)) (fun _ _ _ h => h) (Or.inr ⟨by rfl, rfl⟩) ?_ ?_
             rotate_left
             ·simp only [Act.put, List.setIfInBounds_toArray, List.set_cons_zero, List.set_cons_succ, i64_w, i32_w]
              rfl
             refine pure_ (i := 7) (N := some 53) (v := undef) (a' := ?_) #[true, true, true, true, true, true, true, true, false, false, false, false] rfl rfl (any_of HT_.out (by kernel_rfl)) (fun _ _ _ h => h) (Or.inr ⟨by rfl, rfl⟩) ?_ ?_
             rotate_left
             ·simp only [Act.put, List.setIfInBounds_toArray, List.set_cons_zero, List.set_cons_succ, i64_w, i32_w]
              rfl
             refine pure_ (i := 8) (N := some 54) (v := undef) (a' := ?_) #[true, true, true, true, true, true, true, true, true, false, false, false] rfl rfl (any_of HT_.out (by kernel_rfl)) (fun _ _ _ h => h) (Or.inr ⟨by rfl, rfl⟩) ?_ ?_
             rotate_left
             ·simp only [Act.put, List.setIfInBounds_toArray, List.set_cons_zero, List.set_cons_succ, i64_w, i32_w]
              rfl
             refine pure_ (i := 9) (N := some 55) (v := undef) (a' := ?_) #[true, true, true, true, true, true, true, true, true, true, false, false] rfl rfl (any_of HT_.out (by kernel_rfl)) (fun _ _ _ h => h) (Or.inr ⟨by rfl, rfl⟩) ?_ ?_
             rotate_left
             ·simp only [Act.put, List.setIfInBounds_toArray, List.set_cons_zero, List.set_cons_succ, i64_w, i32_w]
              rfl
             refine pure_ (i := 10) (N := some 56) (v := undef) (a' := ?_) #[true, true, true, true, true, true, true, true, true, true, true, false] rfl rfl (any_of HT_.out (by kernel_rfl)) (fun _ _ _ h => h) (Or.inr ⟨by rfl, rfl⟩) ?_ ?_
             rotate_left
             ·simp only [Act.put, List.setIfInBounds_toArray, List.set_cons_zero, List.set_cons_succ, i64_w, i32_w]
              rfl
             refine pure_ (i := 11) (N := some 57) (v := ?_) (a' := ?_) #[true, true, true, true, true, true, true, true, true, true, true, true] rfl rfl (any_of HT_.out (by kernel_rfl)) (fun _ _ _ h => h) (Or.inl ⟨by rfl, ?_⟩) ?_ ?_
             rotate_left
             ·intro w'
              go_simp
              with_reducible rfl
             rotate_left
             ·simp only [Act.put, List.setIfInBounds_toArray, List.set_cons_zero, List.set_cons_succ, i64_w, i32_w]
              rfl
             refine done_ (done_of HT_.out (by kernel_rfl)) ?_
             try go_wp2
             go_ret
             exact ⟨eq_, bq⟩
           ·rw [if_neg c20] at H
            exact absurd H (by simp)
          ·rw [if_neg c19] at H
           exact absurd H (by simp)
         ·rw [if_neg c18] at H
          have c18b0 : decide (x41_3 < (l0_1.length : Int)) = false := decide_eq_false c18
          clear c18
          obtain rfl := Option.some.inj H
          go_wp2
          go_ret
          exact ⟨eq_, bq⟩



/-! ### impl_copyShop: function 28 -/
def impl_copyShop.f (l0_0 : List Int) (l0_1 : List (S41)) : Option (List Int × (List (S41))) := (some (([] : List Int) : List Int)).bind fun y204 => (if y204.length + l0_0.length < 17592186044416 then ((some (([] : List (S41)) : List (S41))).bind fun y210 => (if y210.length + l0_1.length < 4398046511104 then (some ((y204 ++ l0_0), (y210 ++ l0_1))) else (none))) else (none))
def impl_copyShop.T1 : Bool × List (List Nat × List Nat) := (true, [([], []), ([], []), ([1], [1]), ([0, 2], [0, 2]), ([], []), ([], []), ([5], [5]), ([4, 6, 3], [4, 6]), ([3, 7], [3, 7]), ([8, 7, 0, 1, 2, 3, 4, 5, 6, 7, 8], [8])])
def impl_copyShop.B1 : List Nat := [0, 0, 2, 7, 0, 0, 32, 127, 255, 511]
theorem impl_copyShop.tab1 : rtab .any (opsOf Try.f28 1) = impl_copyShop.T1 := by kernel_rfl
theorem impl_copyShop.bits1 : waitsOk impl_copyShop.T1.2 impl_copyShop.B1 = true := by kernel_rfl
set_option maxHeartbeats 8000000 in
set_option maxRecDepth 100000 in
theorem impl_copyShop.calls (A0_0 : Option Addr) (c0_0 : Nat) (l0_0 : List Int) (A0_1 : Option Addr) (c0_1 : Nat) (l0_1 : List (S41)) (r1 : List Int) (r2 : List (S41)) (w : World) (hr0_0 : Kd.C (Kd.int .i64) w A0_0 l0_0.length l0_0) (hc0_0 : l0_0.length ≤ c0_0) (hr0_1 : Kd.C k41 w A0_1 l0_1.length l0_1) (hc0_1 : l0_1.length ≤ c0_1) (h : impl_copyShop.f l0_0 l0_1 = some (r1, r2)) :
  Calls Try.prog 28 #[.agg #[.slice A0_0 l0_0.length c0_0, .slice A0_1 l0_1.length c0_1]] w fun e w' => ∃ v0_ v1_ : Value, e = .returned (.agg #[v0_, v1_]) ∧ Kd.R (Kd.int .i64) 3 w' w.heap.size (fun _ => True) v0_ r1 ∧ Kd.R k41 41 w' w.heap.size (fun _ => True) v1_ r2 ∧ Below w.heap.size w w' := by
 have hu29 := Try.underlying29
 have HR0_0 := Aside0.mk hr0_0
 have HC0_0 := Aside0.mk hc0_0
 clear hr0_0 hc0_0
 have HR0_1 := Aside0.mk hr0_1
 have HC0_1 := Aside0.mk hc0_1
 clear hr0_1 hc0_1
 have HB := Aside0.mk (Below.refl w.heap.size w)
 have H : ((some (([] : List Int) : List Int)).bind fun y204 => (if y204.length + l0_0.length < 17592186044416 then ((some (([] : List (S41)) : List (S41))).bind fun y210 => (if y210.length + l0_1.length < 4398046511104 then (some ((y204 ++ l0_0), (y210 ++ l0_1))) else (none))) else (none))) = some (r1, r2) := h
 clear h
 obtain ⟨y204, hy204⟩ : ∃ y_ : List Int, y_ = (([] : List Int)) := ⟨_, rfl⟩
 replace H : (if y204.length + l0_0.length < 17592186044416 then ((some (([] : List (S41)) : List (S41))).bind fun y210 => (if y210.length + l0_1.length < 4398046511104 then (some ((y204 ++ l0_0), (y210 ++ l0_1))) else (none))) else (none)) = some (r1, r2) := by first | (rw [hy204]; with_reducible exact H) | (have H2_ := (Option.bind_some _ _).symm.trans H; rw [hy204]; with_reducible exact H2_) | (have H2_ := (Option.bind_some _ _).symm.trans H; with_reducible exact H2_) | with_reducible exact H | (rw [hy204]; exact H) | exact H
 have Ny204 := Aside0.mk hy204
 clear hy204
 by_cases c2 : y204.length + l0_0.length < 17592186044416
 ·rw [if_pos c2] at H
  have LMc2 := Aside0.mk c2
  clear c2
  obtain ⟨y207, hy207⟩ : ∃ y_ : List Int, y_ = (y204 ++ l0_0) := ⟨_, rfl⟩
  replace H : ((some (([] : List (S41)) : List (S41))).bind fun y210 => (if y210.length + l0_1.length < 4398046511104 then (some (y207, (y210 ++ l0_1))) else (none))) = some (r1, r2) := by first | (rw [hy207]; with_reducible exact H) | (have H2_ := (Option.bind_some _ _).symm.trans H; rw [hy207]; with_reducible exact H2_) | (have H2_ := (Option.bind_some _ _).symm.trans H; with_reducible exact H2_) | with_reducible exact H | (rw [hy207]; exact H) | exact H
  have Ny207 := Aside0.mk hy207
  clear hy207
  obtain ⟨y210, hy210⟩ : ∃ y_ : List (S41), y_ = (([] : List (S41))) := ⟨_, rfl⟩
  replace H : (if y210.length + l0_1.length < 4398046511104 then (some (y207, (y210 ++ l0_1))) else (none)) = some (r1, r2) := by first | (rw [hy210]; with_reducible exact H) | (have H2_ := (Option.bind_some _ _).symm.trans H; rw [hy210]; with_reducible exact H2_) | (have H2_ := (Option.bind_some _ _).symm.trans H; with_reducible exact H2_) | with_reducible exact H | (rw [hy210]; exact H) | exact H
  have Ny210 := Aside0.mk hy210
  clear hy210
  by_cases c3 : y210.length + l0_1.length < 4398046511104
  ·rw [if_pos c3] at H
   have LMc3 := Aside0.mk c3
   clear c3
   obtain ⟨y213, hy213⟩ : ∃ y_ : List (S41), y_ = (y210 ++ l0_1) := ⟨_, rfl⟩
   replace H : (some (y207, y213)) = some (r1, r2) := by first | (rw [hy213]; with_reducible exact H) | (have H2_ := (Option.bind_some _ _).symm.trans H; rw [hy213]; with_reducible exact H2_) | (have H2_ := (Option.bind_some _ _).symm.trans H; with_reducible exact H2_) | with_reducible exact H | (rw [hy213]; exact H) | exact H
   have Ny213 := Aside0.mk hy213
   clear hy213
   simp only [Option.some.injEq, Prod.mk.injEq] at H
   obtain ⟨rfl, rfl⟩ := H
   go_enter Try.func28, Try.ntmps28
   try go_wp2_with (first | ((with_reducible refine gate_dst (N := 1) rfl ?_); refine box_event ?hg (N := 1) ?hd (cs := #[.slice A0_0 l0_0.length c0_0, .slice A0_1 l0_1.length c0_1]) (t := 29) ?hr ?_; (case hd => rfl); (case hg => rfl); (case hr => first | (go_simp; done) | (go_simp; rfl)); intro gb202 hg w4 hbox hb; have BK202 := Aside0.mk (hbox); have GE202 := Aside0.mk (gq hg); replace HB := sb hb; clear hb hbox hg) | ((with_reducible refine gate_dst (N := 2) rfl ?_); refine box_event ?hg (N := 2) ?hd (cs := #[.slice none 0 0, .slice none 0 0]) (t := 29) ?hr ?_; (case hd => rfl); (case hg => rfl); (case hr => first | (go_simp; done) | (go_simp; rfl)); intro gb203 hg w5 hbox hb; have BK203 := Aside0.mk (hbox); have GE203 := Aside0.mk (gq hg); replace HB := sb hb; have NB202_203 := nl hg BK202; have NB203_202 := ng hg BK202; replace BK202 := zb BK202 hb; clear hb hbox hg))
   replace BK202 := Aside0.mk (blk_drew BK202.out)
   replace BK203 := Aside0.mk (blk_drew BK203.out)
   replace HB := Aside0.mk (below_drew1 HB.out)
   refine start_ (n := 10) (S := fun w' => w'.cell? ⟨gb202, 0, none⟩ = some (.slice A0_0 l0_0.length c0_0) ∧ w'.cell? ⟨gb202, 1, none⟩ = some (.slice A0_1 l0_1.length c0_1)) (ds := []) #[false, false, false, false, false, false, false, false, false, false] (by kernel_rfl) rfl rfl ⟨(blk_cell BK202.out 0).trans rfl, (blk_cell BK202.out 1).trans rfl⟩ (fun hHeld => ?_); refine with_tabW impl_copyShop.tab1 impl_copyShop.bits1 (fun HT_ HW_ => ?_)
   generalize w5.drew = w6 at BK202 BK203 HB hHeld ⊢
   refine pure_ (i := 1) (N := some 4) (v := ?_) (a' := ?_) #[false, true, false, false, false, false, false, false, false, false] rfl rfl (any_of HT_.out (by kernel_rfl)) (fun _ _ _ h => h) (Or.inl ⟨by rfl, ?_⟩) ?_ ?_
   rotate_left
   ·intro w'
    go_simp
    with_reducible rfl
   rotate_left
   ·simp only [Act.put, List.setIfInBounds_toArray, List.set_cons_zero, List.set_cons_succ, i64_w, i32_w]
    rfl
   refine pure_ (i := 5) (N := some 8) (v := ?_) (a' := ?_) #[false, true, false, false, false, true, false, false, false, false] rfl rfl (any_of HT_.out (by kernel_rfl)) (fun _ _ _ h => h) (Or.inl ⟨by rfl, ?_⟩) ?_ ?_
   rotate_left
   ·intro w'
    go_simp
    with_reducible rfl
   rotate_left
   ·simp only [Act.put, List.setIfInBounds_toArray, List.set_cons_zero, List.set_cons_succ, i64_w, i32_w]
    rfl
   refine take_ (i := 2) (N := some 5) (v := ?_) (a' := ?_) #[false, true, true, false, false, true, false, false, false, false] rfl rfl (take_ofW HT_.out HW_.out (by kernel_rfl)) (fun _ _ _ h => h) (Or.inl ⟨by rfl, ?_⟩) hHeld ?_ ?_
   rotate_left
   ·rintro w' ⟨s0, s1⟩
    go_simp
    with_reducible rfl
   rotate_left
   ·simp only [Act.put, List.setIfInBounds_toArray, List.set_cons_zero, List.set_cons_succ, i64_w, i32_w]
    rfl
   refine take_ (i := 6) (N := some 9) (v := ?_) (a' := ?_) #[false, true, true, false, false, true, true, false, false, false] rfl rfl (take_ofW HT_.out HW_.out (by kernel_rfl)) (fun _ _ _ h => h) (Or.inl ⟨by rfl, ?_⟩) hHeld ?_ ?_
   rotate_left
   ·rintro w' ⟨s0, s1⟩
    go_simp
    with_reducible rfl
   rotate_left
   ·simp only [Act.put, List.setIfInBounds_toArray, List.set_cons_zero, List.set_cons_succ, i64_w, i32_w]
    rfl
   refine join_ (σ := Value × Value × Value) 3 #[true, true, true, true, true, true, true, false, false, false] (fun s_ => [(3, s_.1), (6, s_.2.1), (7, s_.2.2)]) (fun s_ w' => (w'.cell? ⟨gb202, 0, none⟩ = some (.slice A0_0 l0_0.length c0_0) ∧ w'.cell? ⟨gb202, 1, none⟩ = some (.slice A0_1 l0_1.length c0_1)) ∧ (Kd.R (Kd.int .i64) 3 w' w.heap.size (fun _ => True) s_.2.1 y207) ∧ (Kd.R k41 41 w' w.heap.size (fun _ => True) s_.2.2 y210) ∧ (w'.heap[gb202]? = some (.cells #[.slice A0_0 l0_0.length c0_0, .slice A0_1 l0_1.length c0_1] 29 (0, 0))) ∧ (w'.heap[gb203]? = some (.cells #[.slice none 0 0, .slice none 0 0] 29 (0, 0))) ∧ (Below w.heap.size w w')) ?_ ?_
   rotate_left
   ·intro hCont
    refine two_ (i := 0) (j := 4) (Ni := some 3) (Nj := some 7) #[true, true, true, false, false, true, true, false, false, false] #[false, true, true, false, true, true, true, false, false, false] rfl rfl rfl rfl (two_of HT_.out (by kernel_rfl)) (by decide) (by decide) (fun K hK => ?_) (fun K hK => ?_)
    ·skip
     refine Kd.R_lit_step (Kd.int .i64) _ 3 ?hg (N := 3) ?hd (xs := ([] : List Int)) (inner := []) (ok := fun _ => True) (okp := fun _ => True) ?hr ?hp (fun _ hk => hk) trivial (Below.refl _ _) (Nat.le_refl _) (by simp) ?_; (case hd => rfl); (case hg => rfl); (case hr => first | (go_simp; done) | (go_simp; rfl)); (case hp => exact (Reps.none _ _))
     intro v205 w7 ho8 hb hg_ hnew_
     clear hg_ hnew_
     (first | rw [← Ny204.out] at ho8 | (simp only [Int.reduceToNat] at ho8; rw [← Ny204.out] at ho8))
     have HO206 := rl ho8
     replace BK202 := zb BK202 hb
     replace BK203 := zb BK203 hb
     replace HB := sb hb
     clear hb ho8
     refine hK.out _ _ ⟨(blk_cell BK202.out 0).trans rfl, (blk_cell BK202.out 1).trans rfl⟩ (fun hHeld => ?_)
     clear hK K
     refine norm_ (a' := ?_) ?_ ?_
     rotate_left
     ·show Act.put _ (some 3) _ = _
      simp only [Act.put, List.setIfInBounds_toArray, List.set_cons_zero, List.set_cons_succ, i64_w, i32_w]
      rfl
     refine two_ (i := 3) (j := 4) (Ni := some 6) (Nj := some 7) #[true, true, true, true, false, true, true, false, false, false] #[true, true, true, false, true, true, true, false, false, false] rfl rfl rfl rfl (two_of HT_.out (by kernel_rfl)) (by decide) (by decide) (fun K hK => ?_) (fun K hK => ?_)
     ·skip
      refine Kd.R_append_rows_step (Kd.int .i64) (w0 := w) w.heap.size (by rfl) (.tmp 3) (.tmp 5) 22 3 (.int .i64 0) 8 rfl Try.underlying22 info3 rfl (by decide) (by omega) v205 y204 l0_0 _ _ _ (fun _ => True) (fun _ => False) rfl rfl ?aO ?aR (fun _ _ h => h) (fun _ h => h.elim) ?aF ?aB ?aS ?aL ?_
      (case aR => repeat (first | exact (Kd.C_below HR0_0.out HB.out) | (with_reducible refine Kd.C_alloc ?_ _) | (with_reducible refine Kd.C_drewN ?_ _) | (with_reducible refine Kd.C_drew ?_)))
      (case aB => exact bq)
      (case aF => exact (fun _ _ => trivial))
      (case aO => exact (rq HO206))
      (case aS => exact (below_size bq))
      (case aL => have := LMc2.out; omega)
      intro v208 w9 ho hb hg hat
      rw [← Ny207.out] at ho
      have n0_ := Aside0.mk (blk_grown (g := gb202) (o := .cells #[.slice A0_0 l0_0.length c0_0, .slice A0_1 l0_1.length c0_1] 29 (0, 0)) (zq BK202) hg (Kd.R_ne HO206.out BK202.out (by decide)))
      have n1_ := Aside0.mk (blk_grown (g := gb203) (o := .cells #[.slice none 0 0, .slice none 0 0] 29 (0, 0)) (zq BK203) hg (Kd.R_ne HO206.out BK203.out (by decide)))
      have n2_ := Aside0.mk (hb)
      have n3_ := Aside0.mk (ho)
      clear BK202 BK203 HB HO206
      have BK202 := n0_
      have BK203 := n1_
      have HB := n2_
      have HO209 := n3_
      clear n0_ n1_ n2_ n3_ ho hb hg hat
      refine hK.out _ _ ⟨(blk_cell BK202.out 0).trans rfl, (blk_cell BK202.out 1).trans rfl⟩ (fun hHeld => ?_)
      clear hK K
      refine norm_ (a' := ?_) ?_ ?_
      rotate_left
      ·show Act.put _ (some 6) _ = _
       simp only [Act.put, List.setIfInBounds_toArray, List.set_cons_zero, List.set_cons_succ, i64_w, i32_w]
       rfl
      refine one_ (i := 4) (N := some 7) #[true, true, true, true, true, true, true, false, false, false] rfl rfl (one_of HT_.out (by kernel_rfl)) (by decide) (fun K hK => ?_)
      refine Kd.R_lit_step k41 _ 41 ?hg (N := 7) ?hd (xs := ([] : List (S41))) (inner := []) (ok := fun _ => True) (okp := fun _ => True) ?hr ?hp (fun _ hk => hk) trivial (Below.refl _ _) (Nat.le_refl _) (by simp) ?_; (case hd => rfl); (case hg => rfl); (case hr => first | (go_simp; done) | (go_simp; rfl)); (case hp => exact (Reps.none _ _))
      intro v211 w10 ho11 hb hg_ hnew_
      clear hg_ hnew_
      (first | rw [← Ny210.out] at ho11 | (simp only [Int.reduceToNat] at ho11; rw [← Ny210.out] at ho11))
      replace HO209 := rb HO209 hb
      have HO212 := rl ho11
      replace BK202 := zb BK202 hb
      replace BK203 := zb BK203 hb
      replace HB := sb hb
      clear hb ho11
      refine hK.out _ _ ⟨(blk_cell BK202.out 0).trans rfl, (blk_cell BK202.out 1).trans rfl⟩ (fun hHeld => ?_)
      clear hK K
      refine norm_ (a' := ?_) ?_ ?_
      rotate_left
      ·show Act.put _ (some 7) _ = _
       simp only [Act.put, List.setIfInBounds_toArray, List.set_cons_zero, List.set_cons_succ, i64_w, i32_w]
       rfl
      exact norm_ (by simp only [putAll, Act.put, List.setIfInBounds_toArray, List.set_cons_zero, List.set_cons_succ]) (hCont (v205, v208, v211) _ ⟨hHeld, (rq HO209), (rq HO212), (zq BK202), (zq BK203), bq⟩)
     ·skip
      refine Kd.R_lit_step k41 _ 41 ?hg (N := 7) ?hd (xs := ([] : List (S41))) (inner := []) (ok := fun _ => True) (okp := fun _ => True) ?hr ?hp (fun _ hk => hk) trivial (Below.refl _ _) (Nat.le_refl _) (by simp) ?_; (case hd => rfl); (case hg => rfl); (case hr => first | (go_simp; done) | (go_simp; rfl)); (case hp => exact (Reps.none _ _))
      intro v211 w9 ho10 hb hg_ hnew_
      clear hg_ hnew_
      (first | rw [← Ny210.out] at ho10 | (simp only [Int.reduceToNat] at ho10; rw [← Ny210.out] at ho10))
      replace HO206 := rb HO206 hb
      have HO212 := rl ho10
      replace BK202 := zb BK202 hb
      replace BK203 := zb BK203 hb
      replace HB := sb hb
      clear hb ho10
      refine hK.out _ _ ⟨(blk_cell BK202.out 0).trans rfl, (blk_cell BK202.out 1).trans rfl⟩ (fun hHeld => ?_)
      clear hK K
      refine norm_ (a' := ?_) ?_ ?_
      rotate_left
      ·show Act.put _ (some 7) _ = _
       simp only [Act.put, List.setIfInBounds_toArray, List.set_cons_zero, List.set_cons_succ, i64_w, i32_w]
       rfl
      refine one_ (i := 3) (N := some 6) #[true, true, true, true, true, true, true, false, false, false] rfl rfl (one_of HT_.out (by kernel_rfl)) (by decide) (fun K hK => ?_)
      refine Kd.R_append_rows_step (Kd.int .i64) (w0 := w) w.heap.size (by rfl) (.tmp 3) (.tmp 5) 22 3 (.int .i64 0) 8 rfl Try.underlying22 info3 rfl (by decide) (by omega) v205 y204 l0_0 _ _ _ (fun _ => True) (fun _ => False) rfl rfl ?aO ?aR (fun _ _ h => h) (fun _ h => h.elim) ?aF ?aB ?aS ?aL ?_
      (case aR => repeat (first | exact (Kd.C_below HR0_0.out HB.out) | (with_reducible refine Kd.C_alloc ?_ _) | (with_reducible refine Kd.C_drewN ?_ _) | (with_reducible refine Kd.C_drew ?_)))
      (case aB => exact bq)
      (case aF => exact (fun _ _ => trivial))
      (case aO => exact (rq HO206))
      (case aS => exact (below_size bq))
      (case aL => have := LMc2.out; omega)
      intro v208 w11 ho hb hg hat
      rw [← Ny207.out] at ho
      have n0_ := Aside0.mk (blk_grown (g := gb202) (o := .cells #[.slice A0_0 l0_0.length c0_0, .slice A0_1 l0_1.length c0_1] 29 (0, 0)) (zq BK202) hg (Kd.R_ne HO206.out BK202.out (by decide)))
      have n1_ := Aside0.mk (blk_grown (g := gb203) (o := .cells #[.slice none 0 0, .slice none 0 0] 29 (0, 0)) (zq BK203) hg (Kd.R_ne HO206.out BK203.out (by decide)))
      have n2_ := Aside0.mk (Kd.R_over' (rq HO212) (Kd.R_typed (rq HO206)) (by decide) hg)
      have n3_ := Aside0.mk (hb)
      have n4_ := Aside0.mk (ho)
      clear BK202 BK203 HO212 HB HO206
      have BK202 := n0_
      have BK203 := n1_
      have HO212 := n2_
      have HB := n3_
      have HO209 := n4_
      clear n0_ n1_ n2_ n3_ n4_ ho hb hg hat
      refine hK.out _ _ ⟨(blk_cell BK202.out 0).trans rfl, (blk_cell BK202.out 1).trans rfl⟩ (fun hHeld => ?_)
      clear hK K
      refine norm_ (a' := ?_) ?_ ?_
      rotate_left
      ·show Act.put _ (some 6) _ = _
       simp only [Act.put, List.setIfInBounds_toArray, List.set_cons_zero, List.set_cons_succ, i64_w, i32_w]
       rfl
      exact norm_ (by simp only [putAll, Act.put, List.setIfInBounds_toArray, List.set_cons_zero, List.set_cons_succ]) (hCont (v205, v208, v211) _ ⟨hHeld, (rq HO209), (rq HO212), (zq BK202), (zq BK203), bq⟩)
    ·skip
     refine Kd.R_lit_step k41 _ 41 ?hg (N := 7) ?hd (xs := ([] : List (S41))) (inner := []) (ok := fun _ => True) (okp := fun _ => True) ?hr ?hp (fun _ hk => hk) trivial (Below.refl _ _) (Nat.le_refl _) (by simp) ?_; (case hd => rfl); (case hg => rfl); (case hr => first | (go_simp; done) | (go_simp; rfl)); (case hp => exact (Reps.none _ _))
     intro v211 w7 ho8 hb hg_ hnew_
     clear hg_ hnew_
     (first | rw [← Ny210.out] at ho8 | (simp only [Int.reduceToNat] at ho8; rw [← Ny210.out] at ho8))
     have HO212 := rl ho8
     replace BK202 := zb BK202 hb
     replace BK203 := zb BK203 hb
     replace HB := sb hb
     clear hb ho8
     refine hK.out _ _ ⟨(blk_cell BK202.out 0).trans rfl, (blk_cell BK202.out 1).trans rfl⟩ (fun hHeld => ?_)
     clear hK K
     refine norm_ (a' := ?_) ?_ ?_
     rotate_left
     ·show Act.put _ (some 7) _ = _
      simp only [Act.put, List.setIfInBounds_toArray, List.set_cons_zero, List.set_cons_succ, i64_w, i32_w]
      rfl
     refine one_ (i := 0) (N := some 3) #[true, true, true, false, true, true, true, false, false, false] rfl rfl (one_of HT_.out (by kernel_rfl)) (by decide) (fun K hK => ?_)
     refine Kd.R_lit_step (Kd.int .i64) _ 3 ?hg (N := 3) ?hd (xs := ([] : List Int)) (inner := []) (ok := fun _ => True) (okp := fun _ => True) ?hr ?hp (fun _ hk => hk) trivial (Below.refl _ _) (Nat.le_refl _) (by simp) ?_; (case hd => rfl); (case hg => rfl); (case hr => first | (go_simp; done) | (go_simp; rfl)); (case hp => exact (Reps.none _ _))
     intro v205 w9 ho10 hb hg_ hnew_
     clear hg_ hnew_
     (first | rw [← Ny204.out] at ho10 | (simp only [Int.reduceToNat] at ho10; rw [← Ny204.out] at ho10))
     replace HO212 := rb HO212 hb
     have HO206 := rl ho10
     replace BK202 := zb BK202 hb
     replace BK203 := zb BK203 hb
     replace HB := sb hb
     clear hb ho10
     refine hK.out _ _ ⟨(blk_cell BK202.out 0).trans rfl, (blk_cell BK202.out 1).trans rfl⟩ (fun hHeld => ?_)
     clear hK K
     refine norm_ (a' := ?_) ?_ ?_
     rotate_left
     ·show Act.put _ (some 3) _ = _
      simp only [Act.put, List.setIfInBounds_toArray, List.set_cons_zero, List.set_cons_succ, i64_w, i32_w]
      rfl
     refine one_ (i := 3) (N := some 6) #[true, true, true, true, true, true, true, false, false, false] rfl rfl (one_of HT_.out (by kernel_rfl)) (by decide) (fun K hK => ?_)
     refine Kd.R_append_rows_step (Kd.int .i64) (w0 := w) w.heap.size (by rfl) (.tmp 3) (.tmp 5) 22 3 (.int .i64 0) 8 rfl Try.underlying22 info3 rfl (by decide) (by omega) v205 y204 l0_0 _ _ _ (fun _ => True) (fun _ => False) rfl rfl ?aO ?aR (fun _ _ h => h) (fun _ h => h.elim) ?aF ?aB ?aS ?aL ?_
     (case aR => repeat (first | exact (Kd.C_below HR0_0.out HB.out) | (with_reducible refine Kd.C_alloc ?_ _) | (with_reducible refine Kd.C_drewN ?_ _) | (with_reducible refine Kd.C_drew ?_)))
     (case aB => exact bq)
     (case aF => exact (fun _ _ => trivial))
     (case aO => exact (rq HO206))
     (case aS => exact (below_size bq))
     (case aL => have := LMc2.out; omega)
     intro v208 w11 ho hb hg hat
     rw [← Ny207.out] at ho
     have n0_ := Aside0.mk (blk_grown (g := gb202) (o := .cells #[.slice A0_0 l0_0.length c0_0, .slice A0_1 l0_1.length c0_1] 29 (0, 0)) (zq BK202) hg (Kd.R_ne HO206.out BK202.out (by decide)))
     have n1_ := Aside0.mk (blk_grown (g := gb203) (o := .cells #[.slice none 0 0, .slice none 0 0] 29 (0, 0)) (zq BK203) hg (Kd.R_ne HO206.out BK203.out (by decide)))
     have n2_ := Aside0.mk (Kd.R_over' (rq HO212) (Kd.R_typed (rq HO206)) (by decide) hg)
     have n3_ := Aside0.mk (hb)
     have n4_ := Aside0.mk (ho)
     clear BK202 BK203 HO212 HB HO206
     have BK202 := n0_
     have BK203 := n1_
     have HO212 := n2_
     have HB := n3_
     have HO209 := n4_
     clear n0_ n1_ n2_ n3_ n4_ ho hb hg hat
     refine hK.out _ _ ⟨(blk_cell BK202.out 0).trans rfl, (blk_cell BK202.out 1).trans rfl⟩ (fun hHeld => ?_)
     clear hK K
     refine norm_ (a' := ?_) ?_ ?_
     rotate_left
     ·show Act.put _ (some 6) _ = _
      simp only [Act.put, List.setIfInBounds_toArray, List.set_cons_zero, List.set_cons_succ, i64_w, i32_w]
      rfl
     exact norm_ (by simp only [putAll, Act.put, List.setIfInBounds_toArray, List.set_cons_zero, List.set_cons_succ]) (hCont (v205, v208, v211) _ ⟨hHeld, (rq HO209), (rq HO212), (zq BK202), (zq BK203), bq⟩)
   rintro ⟨v205, v208, v211⟩ w12 ⟨hS_, h0_, h1_, h2_, h3_, h4_⟩
   have n0_ : Aside0 (Kd.R (Kd.int .i64) 3 w12 w.heap.size (fun _ => True) v208 y207) := ⟨h0_⟩
   have n1_ : Aside0 (Kd.R k41 41 w12 w.heap.size (fun _ => True) v211 y210) := ⟨h1_⟩
   have n2_ : Aside0 (w12.heap[gb202]? = some (.cells #[.slice A0_0 l0_0.length c0_0, .slice A0_1 l0_1.length c0_1] 29 (0, 0))) := ⟨h2_⟩
   have n3_ : Aside0 (w12.heap[gb203]? = some (.cells #[.slice none 0 0, .slice none 0 0] 29 (0, 0))) := ⟨h3_⟩
   have n4_ : Aside0 (Below w.heap.size w w12) := ⟨h4_⟩
   clear BK202 BK203 HB h0_ h1_ h2_ h3_ h4_
   have HO209 := n0_
   have HO212 := n1_
   have BK202 := n2_
   have BK203 := n3_
   have HB := n4_
   clear n0_ n1_ n2_ n3_ n4_
   have hHeld : w12.cell? ⟨gb202, 0, none⟩ = some (.slice A0_0 l0_0.length c0_0) ∧ w12.cell? ⟨gb202, 1, none⟩ = some (.slice A0_1 l0_1.length c0_1) := hS_
   refine norm_ (a' := ?_) ?_ ?_
   rotate_left
   ·simp only [putAll, Act.put, List.setIfInBounds_toArray, List.set_cons_zero, List.set_cons_succ]
    rfl
   refine one_ (i := 7) (N := some 10) #[true, true, true, true, true, true, true, true, false, false] rfl rfl (one_of HT_.out (by kernel_rfl)) (by decide) (fun K hK => ?_)
   refine Kd.R_append_rows_step k41 (w0 := w) w.heap.size (by rfl) (.tmp 7) (.tmp 9) 27 41 (.agg #[(.int .i64 0), (.int .i64 0), (.int .i64 0), (.int .i64 0)]) 32 rfl Try.underlying27 info41 rfl (by decide) (by omega) v211 y210 l0_1 _ _ _ (fun _ => True) (fun _ => False) rfl rfl ?aO ?aR (fun _ _ h => h) (fun _ h => h.elim) ?aF ?aB ?aS ?aL ?_
   (case aR => repeat (first | exact (Kd.C_below HR0_1.out HB.out) | (with_reducible refine Kd.C_alloc ?_ _) | (with_reducible refine Kd.C_drewN ?_ _) | (with_reducible refine Kd.C_drew ?_)))
   (case aB => exact bq)
   (case aF => exact (fun _ _ => trivial))
   (case aO => exact (rq HO212))
   (case aS => exact (below_size bq))
   (case aL => have := LMc3.out; omega)
   intro v214 w13 ho hb hg hat
   rw [← Ny213.out] at ho
   have n0_ := Aside0.mk (blk_grown (g := gb202) (o := .cells #[.slice A0_0 l0_0.length c0_0, .slice A0_1 l0_1.length c0_1] 29 (0, 0)) (zq BK202) hg (Kd.R_ne HO212.out BK202.out (by decide)))
   have n1_ := Aside0.mk (blk_grown (g := gb203) (o := .cells #[.slice none 0 0, .slice none 0 0] 29 (0, 0)) (zq BK203) hg (Kd.R_ne HO212.out BK203.out (by decide)))
   have n2_ := Aside0.mk (Kd.R_over' (rq HO209) (Kd.R_typed (rq HO212)) (by decide) hg)
   have n3_ := Aside0.mk (hb)
   have n4_ := Aside0.mk (ho)
   clear BK202 BK203 HO209 HB HO212
   have BK202 := n0_
   have BK203 := n1_
   have HO209 := n2_
   have HB := n3_
   have HO215 := n4_
   clear n0_ n1_ n2_ n3_ n4_ ho hb hg hat
   obtain ⟨Ao14, co14, eo14⟩ := Kd.R_slice HO215.out
   (first | subst eo14 | (injection eo14 with f1_ f2_ f3_; have f4_ := f1_.symm; have f5_ := f3_.symm; clear f1_ f2_ f3_; subst f4_; subst f5_))
   obtain ⟨Ao15, co15, eo15⟩ := Kd.R_slice HO209.out
   (first | subst eo15 | (injection eo15 with f1_ f2_ f3_; have f4_ := f1_.symm; have f5_ := f3_.symm; clear f1_ f2_ f3_; subst f4_; subst f5_))
   refine hK.out _ _ ⟨(blk_cell BK202.out 0).trans rfl, (blk_cell BK202.out 1).trans rfl⟩ (fun hHeld => ?_)
   clear hK K
   refine norm_ (a' := ?_) ?_ ?_
   rotate_left
   ·show Act.put _ (some 10) _ = _
    simp only [Act.put, List.setIfInBounds_toArray, List.set_cons_zero, List.set_cons_succ, i64_w, i32_w]
    rfl
   refine pure_ (i := 8) (N := some 11) (v := ?_) (a' := ?_) #[true, true, true, true, true, true, true, true, true, false] rfl rfl (any_of HT_.out (by kernel_rfl)) (fun _ _ _ h => h) (Or.inl ⟨by rfl, ?_⟩) ?_ ?_
   rotate_left
   ·intro w'
    go_simp
    with_reducible rfl
   rotate_left
   ·simp only [Act.put, List.setIfInBounds_toArray, List.set_cons_zero, List.set_cons_succ, i64_w, i32_w]
    rfl
   refine one_ (i := 9) (N := none) #[true, true, true, true, true, true, true, true, true, true] rfl rfl (one_of HT_.out (by kernel_rfl)) (by decide) (fun K hK => ?_)
   have hs16 : w13.cell? ⟨gb203, 0, none⟩ = some (.slice none 0 0) := (blk_cell BK203.out 0).trans rfl
   have hfs16 := blk_frozen BK203.out 0
   have hns16_0 := NB202_203.out
   have hms16_0 := NB203_202.out
   have hs17 : w13.cell? ⟨gb203, 1, none⟩ = some (.slice none 0 0) := (blk_cell BK203.out 1).trans rfl
   have hfs17 := blk_frozen BK203.out 1
   have hns17_0 := NB202_203.out
   have hms17_0 := NB203_202.out
   refine skip_ (w1 := ?_) (by rfl) rfl ?_ ?_
   rotate_left
   ·go_simp
    rfl
   refine hK.out _ _ ⟨((cell_far (p := ⟨gb203, _, none⟩) NB202_203.out _).trans (((cell_far (p := ⟨gb203, _, none⟩) NB202_203.out _).trans (hHeld.1)))), ((cell_far (p := ⟨gb203, _, none⟩) NB202_203.out _).trans (((cell_far (p := ⟨gb203, _, none⟩) NB202_203.out _).trans (hHeld.2))))⟩ (fun hHeld => ?_)
   clear hK K
   refine done_ (done_of HT_.out (by kernel_rfl)) ?_
   try go_wp2
   refine bodyPost_ret (results_cell_row rfl _ _ gb203 29 #[.slice Ao15 y207.length co15, .slice Ao14 y213.length co14] (0, 0) _ rfl (by (with_reducible repeat (first | refine blk_drewN ?_ _ | refine blk_drew ?_ | refine blk_alloc ?_ _)); refine blk_put (cs := #[.slice Ao15 y207.length co15, .slice none 0 0]) ?_ 1 _ rfl; (with_reducible repeat (first | refine blk_drewN ?_ _ | refine blk_drew ?_ | refine blk_alloc ?_ _)); refine blk_put (cs := #[.slice none 0 0, .slice none 0 0]) ?_ 0 _ rfl; (with_reducible repeat (first | refine blk_drewN ?_ _ | refine blk_drew ?_ | refine blk_alloc ?_ _)); exact BK203.out) Try.underlying29 rfl (by kernel_rfl)) rfl ?_
   exact ⟨_, _, eq_, by (with_reducible repeat (first | apply Kd.R_alloc | apply Kd.R_drewN | apply Kd.R_drew)); exact Kd.R_mono (Kd.R_far (p := ⟨gb203, 1, none⟩) (Kd.R_far (p := ⟨gb203, 0, none⟩) (Kd.R_types HO209.out BK203.out (by decide)) (fun _ hk => hk.2) (.slice Ao15 y207.length co15)) (fun _ hk => hk.2) (.slice Ao14 y213.length co14)) (fun _ hk => trivial), by (with_reducible repeat (first | apply Kd.R_alloc | apply Kd.R_drewN | apply Kd.R_drew)); exact Kd.R_mono (Kd.R_far (p := ⟨gb203, 1, none⟩) (Kd.R_far (p := ⟨gb203, 0, none⟩) (Kd.R_types HO215.out BK203.out (by decide)) (fun _ hk => hk.2) (.slice Ao15 y207.length co15)) (fun _ hk => hk.2) (.slice Ao14 y213.length co14)) (fun _ hk => trivial), bq⟩
  ·rw [if_neg c3] at H
   exact absurd H (by simp)
 ·rw [if_neg c2] at H
  exact absurd H (by simp)


/-! ### impl_validShop: function 38 -/
def impl_validShop.f (k : Nat) (l0_0 : List Int) (l0_1 : List (S41)) : Option (List Int × (List (S41)) × Bool) := (impl_IsShop.f k l0_0 l0_1).bind fun t293 => (if t293 = true then (some (l0_0, l0_1, true)) else (some (([] : List Int), ([] : List (S41)), false)))
theorem impl_validShop.mono : ∀ a0 a1 k, LeO (impl_validShop.f k a0 a1) (impl_validShop.f (k + 1) a0 a1) := by
 intro a0 a1 k
 unfold impl_validShop.f
 repeat' first
   | (with_reducible exact impl_IsShop.mono _ _ _)
   | (with_reducible exact LeO.refl _)
   | (with_reducible exact LeO.none _)
   | (with_reducible refine LeO.ite ?_ ?_)
   | (with_reducible refine LeO.bind ?_ (fun _ => ?_))
   | exact impl_IsShop.mono _ _ _
   | exact LeO.none _
   | refine LeO.ite ?_ ?_
   | refine LeO.bind ?_ (fun _ => ?_)
set_option maxHeartbeats 8000000 in
set_option maxRecDepth 100000 in
theorem impl_validShop.calls (k : Nat) (P0_0_ : Nat → Prop) (u9000_ : Value) (l0_0 : List Int) (P0_1_ : Nat → Prop) (u9001_ : Value) (l0_1 : List (S41)) (r1 : List Int) (r2 : List (S41)) (r3 : Bool) (w0 w : World) (hB : Below w0.heap.size w0 w) (ho0_0 : Kd.R (Kd.int .i64) 3 w w0.heap.size P0_0_ u9000_ l0_0) (ho0_1 : Kd.R k41 41 w w0.heap.size P0_1_ u9001_ l0_1) (h : impl_validShop.f k l0_0 l0_1 = some (r1, r2, r3)) :
  Calls Try.prog 38 #[.agg #[u9000_, u9001_]] w fun e w' => ∃ v0_ v1_ : Value, e = .returned (.tuple #[.agg #[v0_, v1_], .bool r3]) ∧ Kd.R (Kd.int .i64) 3 w' w0.heap.size (fun k_ => ((P0_0_ k_ ∨ P0_1_ k_) ∨ w.heap.size ≤ k_)) v0_ r1 ∧ Kd.R k41 41 w' w0.heap.size (fun k_ => ((P0_0_ k_ ∨ P0_1_ k_) ∨ w.heap.size ≤ k_)) v1_ r2 ∧ Below w0.heap.size w0 w' ∧ Kept w w' (fun k_ => P0_0_ k_ ∨ P0_1_ k_) := by
 have hu29 := Try.underlying29
 have HO0_0 := Aside0.mk (show Kd.R (Kd.int .i64) 3 w w0.heap.size (fun k_ => ((P0_0_ k_ ∨ P0_1_ k_) ∨ w.heap.size ≤ k_)) u9000_ l0_0 from Kd.R_mono ho0_0 (fun k_ hk => (.inl (.inl hk))))
 have HO0_1 := Aside0.mk (show Kd.R k41 41 w w0.heap.size (fun k_ => ((P0_0_ k_ ∨ P0_1_ k_) ∨ w.heap.size ≤ k_)) u9001_ l0_1 from Kd.R_mono ho0_1 (fun k_ hk => (.inl (.inr hk))))
 have HK := Aside0.mk (Kept.refl w (fun k_ => P0_0_ k_ ∨ P0_1_ k_))
 have HW0 := Aside0.mk hB.size
 have HB := Aside0.mk hB
 clear hB
 have H : ((impl_IsShop.f k l0_0 l0_1).bind fun t293 => (if t293 = true then (some (l0_0, l0_1, true)) else (some (([] : List Int), ([] : List (S41)), false)))) = some (r1, r2, r3) := h
 clear h
 replace H := Option.bind_eq_some_iff.mp H
 obtain ⟨t293, A20, H⟩ := H
 replace H : (if t293 = true then (some (l0_0, l0_1, true)) else (some (([] : List Int), ([] : List (S41)), false))) = some (r1, r2, r3) := H
 have A2 := Aside0.mk A20
 clear A20
 by_cases c3 : t293 = true
 ·subst c3
  have H1 : (some (l0_0, l0_1, true)) = some (r1, r2, r3) := by rw [if_pos rfl] at H; exact H
  clear H
  have H := H1
  clear H1
  simp only [Option.some.injEq, Prod.mk.injEq] at H
  obtain ⟨rfl, rfl, rfl⟩ := H
  obtain ⟨Ao4, co4, eo4⟩ := Kd.R_slice HO0_0.out
  subst eo4
  obtain ⟨Ao5, co5, eo5⟩ := Kd.R_slice HO0_1.out
  subst eo5
  go_enter Try.func38, Try.ntmps38
  go_wp2_with (first | ((with_reducible refine gate_dst (N := 1) rfl ?_); refine box_event ?hg (N := 1) ?hd (cs := #[.slice Ao4 l0_0.length co4, .slice Ao5 l0_1.length co5]) (t := 29) ?hr ?_; (case hd => rfl); (case hg => rfl); (case hr => first | (go_simp; done) | (go_simp; rfl)); intro gb291 hg w6 hbox hb; replace HO0_0 := rb HO0_0 hb; replace HO0_1 := rb HO0_1 hb; have BK291 := Aside0.mk (hbox); have GW291 := Aside0.mk ((by rw [hg]; exact (by first | exact HK.out.1 | exact (show Kept w _ (fun k_ => P0_0_ k_ ∨ P0_1_ k_) from kq).1) : w.heap.size ≤ gb291)); replace HK := Aside0.mk (Kept.below (S := (fun k_ => P0_0_ k_ ∨ P0_1_ k_)) kq hb); have GE291 := Aside0.mk ((by rw [hg]; exact (below_size bq) : w0.heap.size ≤ gb291)); replace HB := sb hb; clear hb hbox hg) | ((with_reducible refine gate_dst (N := 2) rfl ?_); refine box_event ?hg (N := 2) ?hd (cs := #[.slice none 0 0, .slice none 0 0]) (t := 29) ?hr ?_; (case hd => rfl); (case hg => rfl); (case hr => first | (go_simp; done) | (go_simp; rfl)); intro gb292 hg w7 hbox hb; replace HO0_0 := rb HO0_0 hb; replace HO0_1 := rb HO0_1 hb; have BK292 := Aside0.mk (hbox); have GW292 := Aside0.mk ((by rw [hg]; exact (by first | exact HK.out.1 | exact (show Kept w _ (fun k_ => P0_0_ k_ ∨ P0_1_ k_) from by repeat (first | (with_reducible first | exact HK.out | apply Kept.alloc | apply Kept.drewN | apply Kept.drew | refine Kept.setCell ?_ (.inr GW291.out) _) | exact HK.out)).1) : w.heap.size ≤ gb292)); replace HK := Aside0.mk (Kept.below (S := (fun k_ => P0_0_ k_ ∨ P0_1_ k_)) (by repeat (first | (with_reducible first | exact HK.out | apply Kept.alloc | apply Kept.drewN | apply Kept.drew | refine Kept.setCell ?_ (.inr GW291.out) _) | exact HK.out)) hb); have GE292 := Aside0.mk ((by rw [hg]; exact (below_size bq) : w0.heap.size ≤ gb292)); replace HB := sb hb; have NB291_292 := nl hg BK291; have NB292_291 := ng hg BK291; replace BK291 := zb BK291 hb; clear hb hbox hg; have hnb8 := NB291_292.out; have hnc8 := NB292_291.out; have ⟨hcz9_0, hcz9_1, hfz9_0, hfz9_1⟩ := bc2 BK291) | ((with_reducible refine gate_callee (f := 27) rfl ?_); refine goesQ (some 5) Try.func27 #[.agg #[.slice Ao4 l0_0.length co4, .slice Ao5 l0_1.length co5]] ?_; (with_reducible refine (impl_IsShop.calls k _ _ l0_0 _ _ l0_1 true _ ?s1 ?s2 ?s3 ?s4 A2.out).mono ?_); (case s1 => exact cr HO0_0); (case s2 => exact r1 HO0_0); (case s3 => exact cr HO0_1); (case s4 => exact r1 HO0_1); rintro e w10 ⟨rfl, hb⟩; refine ⟨_, rfl, ?_⟩; replace HO0_0 := rb HO0_0 hb; replace HO0_1 := rb HO0_1 hb; replace BK291 := zb BK291 hb; replace BK292 := zb BK292 hb; replace HK := Aside0.mk (Kept.below (S := (fun k_ => P0_0_ k_ ∨ P0_1_ k_)) (by repeat (first | (with_reducible first | exact HK.out | apply Kept.alloc | apply Kept.drewN | apply Kept.drew | refine Kept.setCell ?_ (.inr GW291.out) _ | refine Kept.setCell ?_ (.inr GW292.out) _) | exact HK.out)) hb); replace HB := sb hb; (try clear hb); have ⟨hcz11_0, hcz11_1, hfz11_0, hfz11_1⟩ := bc2 BK291; have ⟨hcz12_0, hcz12_1, hfz12_0, hfz12_1⟩ := bc2 BK292))
  refine bodyPost_ret (results_ct rfl _ _ gb292 29 #[.slice Ao4 l0_0.length co4, .slice Ao5 l0_1.length co5] (0, 0) _ rfl (by (with_reducible repeat (first | refine blk_drewN ?_ _ | refine blk_drew ?_ | refine blk_alloc ?_ _)); refine blk_put (cs := #[.slice Ao4 l0_0.length co4, .slice none 0 0]) ?_ 1 _ rfl; (with_reducible repeat (first | refine blk_drewN ?_ _ | refine blk_drew ?_ | refine blk_alloc ?_ _)); refine blk_put (cs := #[.slice none 0 0, .slice none 0 0]) ?_ 0 _ rfl; (with_reducible repeat (first | refine blk_drewN ?_ _ | refine blk_drew ?_ | refine blk_alloc ?_ _)); exact BK292.out) Try.underlying29 rfl (by kernel_rfl)) rfl ?_
  exact ⟨_, _, eq_, by (with_reducible repeat (first | apply Kd.R_alloc | apply Kd.R_drewN | apply Kd.R_drew)); exact Kd.R_mono (Kd.R_far (p := ⟨gb292, 1, none⟩) (Kd.R_far (p := ⟨gb292, 0, none⟩) (Kd.R_types HO0_0.out BK292.out (by decide)) (fun _ hk => hk.2) (.slice Ao4 l0_0.length co4)) (fun _ hk => hk.2) (.slice Ao5 l0_1.length co5)) (fun _ hk => hk.1), by (with_reducible repeat (first | apply Kd.R_alloc | apply Kd.R_drewN | apply Kd.R_drew)); exact Kd.R_mono (Kd.R_far (p := ⟨gb292, 1, none⟩) (Kd.R_far (p := ⟨gb292, 0, none⟩) (Kd.R_types HO0_1.out BK292.out (by decide)) (fun _ hk => hk.2) (.slice Ao4 l0_0.length co4)) (fun _ hk => hk.2) (.slice Ao5 l0_1.length co5)) (fun _ hk => hk.1), bq, by repeat (first | (with_reducible first | exact HK.out | apply Kept.alloc | apply Kept.drewN | apply Kept.drew | refine Kept.setCell ?_ (.inr GW291.out) _ | refine Kept.setCell ?_ (.inr GW292.out) _) | exact HK.out)⟩
 ·replace c3 := Bool.eq_false_iff.mpr c3
  subst c3
  have H1 : (some (([] : List Int), ([] : List (S41)), false)) = some (r1, r2, r3) := by rw [if_neg (show ¬ (false = true) by decide)] at H; exact H
  clear H
  have H := H1
  clear H1
  simp only [Option.some.injEq, Prod.mk.injEq] at H
  obtain ⟨rfl, rfl, rfl⟩ := H
  obtain ⟨Ao13, co13, eo13⟩ := Kd.R_slice HO0_0.out
  subst eo13
  obtain ⟨Ao14, co14, eo14⟩ := Kd.R_slice HO0_1.out
  subst eo14
  go_enter Try.func38, Try.ntmps38
  go_wp2_with (first | ((with_reducible refine gate_dst (N := 1) rfl ?_); refine box_event ?hg (N := 1) ?hd (cs := #[.slice Ao13 l0_0.length co13, .slice Ao14 l0_1.length co14]) (t := 29) ?hr ?_; (case hd => rfl); (case hg => rfl); (case hr => first | (go_simp; done) | (go_simp; rfl)); intro gb291 hg w15 hbox hb; replace HO0_0 := rb HO0_0 hb; replace HO0_1 := rb HO0_1 hb; have BK291 := Aside0.mk (hbox); have GW291 := Aside0.mk ((by rw [hg]; exact (by first | exact HK.out.1 | exact (show Kept w _ (fun k_ => P0_0_ k_ ∨ P0_1_ k_) from kq).1) : w.heap.size ≤ gb291)); replace HK := Aside0.mk (Kept.below (S := (fun k_ => P0_0_ k_ ∨ P0_1_ k_)) kq hb); have GE291 := Aside0.mk ((by rw [hg]; exact (below_size bq) : w0.heap.size ≤ gb291)); replace HB := sb hb; clear hb hbox hg) | ((with_reducible refine gate_dst (N := 2) rfl ?_); refine box_event ?hg (N := 2) ?hd (cs := #[.slice none 0 0, .slice none 0 0]) (t := 29) ?hr ?_; (case hd => rfl); (case hg => rfl); (case hr => first | (go_simp; done) | (go_simp; rfl)); intro gb292 hg w16 hbox hb; replace HO0_0 := rb HO0_0 hb; replace HO0_1 := rb HO0_1 hb; have BK292 := Aside0.mk (hbox); have GW292 := Aside0.mk ((by rw [hg]; exact (by first | exact HK.out.1 | exact (show Kept w _ (fun k_ => P0_0_ k_ ∨ P0_1_ k_) from by repeat (first | (with_reducible first | exact HK.out | apply Kept.alloc | apply Kept.drewN | apply Kept.drew | refine Kept.setCell ?_ (.inr GW291.out) _) | exact HK.out)).1) : w.heap.size ≤ gb292)); replace HK := Aside0.mk (Kept.below (S := (fun k_ => P0_0_ k_ ∨ P0_1_ k_)) (by repeat (first | (with_reducible first | exact HK.out | apply Kept.alloc | apply Kept.drewN | apply Kept.drew | refine Kept.setCell ?_ (.inr GW291.out) _) | exact HK.out)) hb); have GE292 := Aside0.mk ((by rw [hg]; exact (below_size bq) : w0.heap.size ≤ gb292)); replace HB := sb hb; have NB291_292 := nl hg BK291; have NB292_291 := ng hg BK291; replace BK291 := zb BK291 hb; clear hb hbox hg; have hnb17 := NB291_292.out; have hnc17 := NB292_291.out; have ⟨hcz18_0, hcz18_1, hfz18_0, hfz18_1⟩ := bc2 BK291) | ((with_reducible refine gate_callee (f := 27) rfl ?_); refine goesQ (some 5) Try.func27 #[.agg #[.slice Ao13 l0_0.length co13, .slice Ao14 l0_1.length co14]] ?_; (with_reducible refine (impl_IsShop.calls k _ _ l0_0 _ _ l0_1 false _ ?s1 ?s2 ?s3 ?s4 A2.out).mono ?_); (case s1 => exact cr HO0_0); (case s2 => exact r1 HO0_0); (case s3 => exact cr HO0_1); (case s4 => exact r1 HO0_1); rintro e w19 ⟨rfl, hb⟩; refine ⟨_, rfl, ?_⟩; replace BK292 := zb BK292 hb; replace HK := Aside0.mk (Kept.below (S := (fun k_ => P0_0_ k_ ∨ P0_1_ k_)) (by repeat (first | (with_reducible first | exact HK.out | apply Kept.alloc | apply Kept.drewN | apply Kept.drew | refine Kept.setCell ?_ (.inr GW291.out) _ | refine Kept.setCell ?_ (.inr GW292.out) _) | exact HK.out)) hb); replace HB := sb hb; (try clear hb); have ⟨hcz20_0, hcz20_1, hfz20_0, hfz20_1⟩ := bc2 BK292))
  refine bodyPost_ret (results_ct rfl _ _ gb292 29 #[.slice none 0 0, .slice none 0 0] (0, 0) _ rfl (by (with_reducible repeat (first | refine blk_drewN ?_ _ | refine blk_drew ?_ | refine blk_alloc ?_ _)); refine blk_put (cs := #[.slice none 0 0, .slice none 0 0]) ?_ 1 _ rfl; (with_reducible repeat (first | refine blk_drewN ?_ _ | refine blk_drew ?_ | refine blk_alloc ?_ _)); refine blk_put (cs := #[.slice none 0 0, .slice none 0 0]) ?_ 0 _ rfl; (with_reducible repeat (first | refine blk_drewN ?_ _ | refine blk_drew ?_ | refine blk_alloc ?_ _)); exact BK292.out) Try.underlying29 rfl (by kernel_rfl)) rfl ?_
  exact ⟨_, _, eq_, by first | exact Kd.R_nil _ _ _ _ _ | exact Kd.N_nil _ _ _ _ _ | exact Kd.V_nil _ _ _ _ _ | exact Kd.Q_nil _ _ _ _ _ | exact Kd.S_nil _ _ _ _ _, by first | exact Kd.R_nil _ _ _ _ _ | exact Kd.N_nil _ _ _ _ _ | exact Kd.V_nil _ _ _ _ _ | exact Kd.Q_nil _ _ _ _ _ | exact Kd.S_nil _ _ _ _ _, bq, by repeat (first | (with_reducible first | exact HK.out | apply Kept.alloc | apply Kept.drewN | apply Kept.drew | refine Kept.setCell ?_ (.inr GW291.out) _ | refine Kept.setCell ?_ (.inr GW292.out) _) | exact HK.out)⟩



end Go.Proofs.Ytokigipkoeeddaa.Pall
