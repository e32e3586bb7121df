-- written by the kit's print program, put together by a program
import Derived.Test.YtkkgjljcgnegpaaMFnExactRedoAct1
namespace Go.Proofs.Ytkkgjljcgnegpaa.Pall
open Go.RowKit Go.Proofs.YtkkgjljcgnegpaaW.PrintWords Go.Proofs.YtkkgjljcgnegpaaW.PrintLast Go.Proofs.YtkkgjljcgnegpaaW.PrintMore
attribute [local go_sem] max2_int min2_int max_two min_two max_three min_three max_four min_four   -- for this text's walks alone
set_option linter.unusedVariables false
set_option linter.unusedSimpArgs false
/-! ### impl_copySession: function 72 -/
def impl_copySession.f (a0_0 : Int) (a0_1 : Int) (l0_2 : List (S58)) (l0_3 : List (S60)) (l0_4 : List (S60)) : Option (Int × Int × (List (S58)) × (List (S60)) × (List (S60))) := (impl_copyBoard.f a0_0 a0_1 l0_2).bind fun bt529 => ((some (([] : List (S60)) : List (S60))).bind fun y534 => (if y534.length + l0_3.length < 3518437208883 then ((some (([] : List (S60)) : List (S60))).bind fun y540 => (if y540.length + l0_4.length < 3518437208883 then (some (bt529.1, bt529.2.1, bt529.2.2, (y534 ++ l0_3), (y540 ++ l0_4))) else (none))) else (none)))
def impl_copySession.T1 : Bool × List (List Nat × List Nat) := (true, [([], []), ([0], [0]), ([1], [1]), ([], []), ([], []), ([4], [4]), ([3, 5, 2], [3, 5]), ([], []), ([], []), ([8], [8]), ([7, 9, 6], [7, 9]), ([2, 6, 10], [2, 6, 10]), ([11, 10, 0, 1, 2, 3, 4, 5, 6, 7, 8, 9, 10, 11], [11])])
def impl_copySession.B1 : List Nat := [0, 1, 3, 0, 0, 16, 63, 0, 0, 256, 1023, 2047, 4095]
theorem impl_copySession.tab1 : rtab .any (opsOf Try.f72 1) = impl_copySession.T1 := by kernel_rfl
theorem impl_copySession.bits1 : waitsOk impl_copySession.T1.2 impl_copySession.B1 = true := by kernel_rfl
set_option maxHeartbeats 8000000 in
set_option maxRecDepth 100000 in
theorem impl_copySession.calls (a0_0 : Int) (a0_1 : Int) (A0_2 : Option Addr) (c0_2 : Nat) (l0_2 : List (S58)) (A0_3 : Option Addr) (c0_3 : Nat) (l0_3 : List (S60)) (A0_4 : Option Addr) (c0_4 : Nat) (l0_4 : List (S60)) (r1 : Int) (r2 : Int) (r3 : List (S58)) (r4 : List (S60)) (r5 : List (S60)) (w : World) (hr0_2 : Kd.C k58 w A0_2 l0_2.length l0_2) (hc0_2 : l0_2.length ≤ c0_2) (hr0_3 : Kd.C k60 w A0_3 l0_3.length l0_3) (hc0_3 : l0_3.length ≤ c0_3) (hr0_4 : Kd.C k60 w A0_4 l0_4.length l0_4) (hc0_4 : l0_4.length ≤ c0_4) (h : impl_copySession.f a0_0 a0_1 l0_2 l0_3 l0_4 = some (r1, r2, r3, r4, r5)) :
  Calls Try.prog 72 #[.agg #[.int .i64 a0_0, .int .i64 a0_1, .slice A0_2 l0_2.length c0_2, .slice A0_3 l0_3.length c0_3, .slice A0_4 l0_4.length c0_4]] w fun e w' => ∃ v2_ v3_ v4_ : Value, e = .returned (.agg #[.int .i64 r1, .int .i64 r2, v2_, v3_, v4_]) ∧ Kd.R k58 58 w' w.heap.size (fun _ => True) v2_ r3 ∧ Kd.R k60 60 w' w.heap.size (fun k_ => some k_ ≠ (v4_ : Value).ownBlock) v3_ r4 ∧ Kd.R k60 60 w' w.heap.size (fun k_ => some k_ ≠ (v3_ : Value).ownBlock) v4_ r5 ∧ Below w.heap.size w w' := by
 have hu35 := Try.underlying35
 have hu32 := Try.underlying32
 have HR0_2 := Aside0.mk hr0_2
 have HC0_2 := Aside0.mk hc0_2
 clear hr0_2 hc0_2
 have HR0_3 := Aside0.mk hr0_3
 have HC0_3 := Aside0.mk hc0_3
 clear hr0_3 hc0_3
 have HR0_4 := Aside0.mk hr0_4
 have HC0_4 := Aside0.mk hc0_4
 clear hr0_4 hc0_4
 have HB := Aside0.mk (Below.refl w.heap.size w)
 have H : ((impl_copyBoard.f a0_0 a0_1 l0_2).bind fun bt529 => ((some (([] : List (S60)) : List (S60))).bind fun y534 => (if y534.length + l0_3.length < 3518437208883 then ((some (([] : List (S60)) : List (S60))).bind fun y540 => (if y540.length + l0_4.length < 3518437208883 then (some (bt529.1, bt529.2.1, bt529.2.2, (y534 ++ l0_3), (y540 ++ l0_4))) else (none))) else (none)))) = some (r1, r2, r3, r4, r5) := h
 clear h
 replace H := Option.bind_eq_some_iff.mp H
 obtain ⟨⟨t529, t530, t531⟩, A20, H⟩ := H
 replace H : ((some (([] : List (S60)) : List (S60))).bind fun y534 => (if y534.length + l0_3.length < 3518437208883 then ((some (([] : List (S60)) : List (S60))).bind fun y540 => (if y540.length + l0_4.length < 3518437208883 then (some (t529, t530, t531, (y534 ++ l0_3), (y540 ++ l0_4))) else (none))) else (none))) = some (r1, r2, r3, r4, r5) := H
 have A2 := Aside0.mk A20
 clear A20
 obtain ⟨y534, hy534⟩ : ∃ y_ : List (S60), y_ = (([] : List (S60))) := ⟨_, rfl⟩
 replace H : (if y534.length + l0_3.length < 3518437208883 then ((some (([] : List (S60)) : List (S60))).bind fun y540 => (if y540.length + l0_4.length < 3518437208883 then (some (t529, t530, t531, (y534 ++ l0_3), (y540 ++ l0_4))) else (none))) else (none)) = some (r1, r2, r3, r4, r5) := by first | (rw [hy534]; with_reducible exact H) | (have H2_ := (Option.bind_some _ _).symm.trans H; rw [hy534]; with_reducible exact H2_) | (have H2_ := (Option.bind_some _ _).symm.trans H; with_reducible exact H2_) | with_reducible exact H | (rw [hy534]; exact H) | exact H
 have Ny534 := Aside0.mk hy534
 clear hy534
 by_cases c3 : y534.length + l0_3.length < 3518437208883
 ·rw [if_pos c3] at H
  have LMc3 := Aside0.mk c3
  clear c3
  obtain ⟨y537, hy537⟩ : ∃ y_ : List (S60), y_ = (y534 ++ l0_3) := ⟨_, rfl⟩
  replace H : ((some (([] : List (S60)) : List (S60))).bind fun y540 => (if y540.length + l0_4.length < 3518437208883 then (some (t529, t530, t531, y537, (y540 ++ l0_4))) else (none))) = some (r1, r2, r3, r4, r5) := by first | (rw [hy537]; with_reducible exact H) | (have H2_ := (Option.bind_some _ _).symm.trans H; rw [hy537]; with_reducible exact H2_) | (have H2_ := (Option.bind_some _ _).symm.trans H; with_reducible exact H2_) | with_reducible exact H | (rw [hy537]; exact H) | exact H
  have Ny537 := Aside0.mk hy537
  clear hy537
  obtain ⟨y540, hy540⟩ : ∃ y_ : List (S60), y_ = (([] : List (S60))) := ⟨_, rfl⟩
  replace H : (if y540.length + l0_4.length < 3518437208883 then (some (t529, t530, t531, y537, (y540 ++ l0_4))) else (none)) = some (r1, r2, r3, r4, r5) := by first | (rw [hy540]; with_reducible exact H) | (have H2_ := (Option.bind_some _ _).symm.trans H; rw [hy540]; with_reducible exact H2_) | (have H2_ := (Option.bind_some _ _).symm.trans H; with_reducible exact H2_) | with_reducible exact H | (rw [hy540]; exact H) | exact H
  have Ny540 := Aside0.mk hy540
  clear hy540
  by_cases c4 : y540.length + l0_4.length < 3518437208883
  ·rw [if_pos c4] at H
   have LMc4 := Aside0.mk c4
   clear c4
   obtain ⟨y543, hy543⟩ : ∃ y_ : List (S60), y_ = (y540 ++ l0_4) := ⟨_, rfl⟩
   replace H : (some (t529, t530, t531, y537, y543)) = some (r1, r2, r3, r4, r5) := by first | (rw [hy543]; with_reducible exact H) | (have H2_ := (Option.bind_some _ _).symm.trans H; rw [hy543]; with_reducible exact H2_) | (have H2_ := (Option.bind_some _ _).symm.trans H; with_reducible exact H2_) | with_reducible exact H | (rw [hy543]; exact H) | exact H
   have Ny543 := Aside0.mk hy543
   clear hy543
   simp only [Option.some.injEq, Prod.mk.injEq] at H
   obtain ⟨rfl, rfl, rfl, rfl, rfl⟩ := H
   go_enter Try.func72, Try.ntmps72
   try go_wp2_with (first | ((with_reducible refine gate_dst (N := 1) rfl ?_); refine box_event ?hg (N := 1) ?hd (cs := #[.int .i64 a0_0, .int .i64 a0_1, .slice A0_2 l0_2.length c0_2, .slice A0_3 l0_3.length c0_3, .slice A0_4 l0_4.length c0_4]) (t := 35) ?hr ?_; (case hd => rfl); (case hg => rfl); (case hr => first | (go_simp; done) | (go_simp; rfl)); intro gb527 hg w5 hbox hb; have BK527 := Aside0.mk (hbox); have GE527 := Aside0.mk (gq hg); replace HB := sb hb; clear hb hbox hg) | ((with_reducible refine gate_dst (N := 2) rfl ?_); refine box_event ?hg (N := 2) ?hd (cs := #[.int .i64 0, .int .i64 0, .slice none 0 0, .slice none 0 0, .slice none 0 0]) (t := 35) ?hr ?_; (case hd => rfl); (case hg => rfl); (case hr => first | (go_simp; done) | (go_simp; rfl)); intro gb528 hg w6 hbox hb; have BK528 := Aside0.mk (hbox); have GE528 := Aside0.mk (gq hg); replace HB := sb hb; have NB527_528 := nl hg BK527; have NB528_527 := ng hg BK527; replace BK527 := zb BK527 hb; clear hb hbox hg))
   replace BK527 := Aside0.mk (blk_drew BK527.out)
   replace BK528 := Aside0.mk (blk_drew BK528.out)
   replace HB := Aside0.mk (below_drew1 HB.out)
   refine start_ (n := 13) (S := fun w' => w'.cell? ⟨gb527, 0, none⟩ = some (.int .i64 a0_0) ∧ w'.cell? ⟨gb527, 1, none⟩ = some (.int .i64 a0_1) ∧ w'.cell? ⟨gb527, 2, none⟩ = some (.slice A0_2 l0_2.length c0_2) ∧ w'.cell? ⟨gb527, 3, none⟩ = some (.slice A0_3 l0_3.length c0_3) ∧ w'.cell? ⟨gb527, 4, none⟩ = some (.slice A0_4 l0_4.length c0_4)) (ds := []) #[false, false, false, false, false, false, false, false, false, false, false, false, false] (by kernel_rfl) rfl rfl ⟨(blk_cell BK527.out 0).trans rfl, (blk_cell BK527.out 1).trans rfl, (blk_cell BK527.out 2).trans rfl, (blk_cell BK527.out 3).trans rfl, (blk_cell BK527.out 4).trans rfl⟩ (fun hHeld => ?_); refine with_tabW impl_copySession.tab1 impl_copySession.bits1 (fun HT_ HW_ => ?_)
   generalize w6.drew = w7 at BK527 BK528 HB hHeld ⊢
   refine pure_ (i := 0) (N := some 3) (v := ?_) (a' := ?_) #[true, false, false, false, false, false, false, false, false, false, false, false, false] rfl rfl (any_of HT_.out (by kernel_rfl)) (fun _ _ _ h => h) (Or.inl ⟨by rfl, ?_⟩) ?_ ?_
   rotate_left
   ·intro w'
    go_simp
    with_reducible rfl
   rotate_left
   ·simp only [Act.put, List.setIfInBounds_toArray, List.set_cons_zero, List.set_cons_succ, i64_w, i32_w]
    rfl
   refine pure_ (i := 4) (N := some 7) (v := ?_) (a' := ?_) #[true, false, false, false, true, false, false, false, false, false, false, false, false] rfl rfl (any_of HT_.out (by kernel_rfl)) (fun _ _ _ h => h) (Or.inl ⟨by rfl, ?_⟩) ?_ ?_
   rotate_left
   ·intro w'
    go_simp
    with_reducible rfl
   rotate_left
   ·simp only [Act.put, List.setIfInBounds_toArray, List.set_cons_zero, List.set_cons_succ, i64_w, i32_w]
    rfl
   refine pure_ (i := 8) (N := some 11) (v := ?_) (a' := ?_) #[true, false, false, false, true, false, false, false, true, false, false, false, false] rfl rfl (any_of HT_.out (by kernel_rfl)) (fun _ _ _ h => h) (Or.inl ⟨by rfl, ?_⟩) ?_ ?_
   rotate_left
   ·intro w'
    go_simp
    with_reducible rfl
   rotate_left
   ·simp only [Act.put, List.setIfInBounds_toArray, List.set_cons_zero, List.set_cons_succ, i64_w, i32_w]
    rfl
   refine take_ (i := 1) (N := some 4) (v := ?_) (a' := ?_) #[true, true, false, false, true, false, false, false, true, false, false, false, false] rfl rfl (take_ofW HT_.out HW_.out (by kernel_rfl)) (fun _ _ _ h => h) (Or.inl ⟨by rfl, ?_⟩) hHeld ?_ ?_
   rotate_left
   ·rintro w' ⟨s0, s1, s2, s3, s4⟩
    go_simp
    with_reducible rfl
   rotate_left
   ·simp only [Act.put, List.setIfInBounds_toArray, List.set_cons_zero, List.set_cons_succ, i64_w, i32_w]
    rfl
   refine take_ (i := 5) (N := some 8) (v := ?_) (a' := ?_) #[true, true, false, false, true, true, false, false, true, false, false, false, false] rfl rfl (take_ofW HT_.out HW_.out (by kernel_rfl)) (fun _ _ _ h => h) (Or.inl ⟨by rfl, ?_⟩) hHeld ?_ ?_
   rotate_left
   ·rintro w' ⟨s0, s1, s2, s3, s4⟩
    go_simp
    with_reducible rfl
   rotate_left
   ·simp only [Act.put, List.setIfInBounds_toArray, List.set_cons_zero, List.set_cons_succ, i64_w, i32_w]
    rfl
   refine take_ (i := 9) (N := some 12) (v := ?_) (a' := ?_) #[true, true, false, false, true, true, false, false, true, true, false, false, false] rfl rfl (take_ofW HT_.out HW_.out (by kernel_rfl)) (fun _ _ _ h => h) (Or.inl ⟨by rfl, ?_⟩) hHeld ?_ ?_
   rotate_left
   ·rintro w' ⟨s0, s1, s2, s3, s4⟩
    go_simp
    with_reducible rfl
   rotate_left
   ·simp only [Act.put, List.setIfInBounds_toArray, List.set_cons_zero, List.set_cons_succ, i64_w, i32_w]
    rfl
   refine join_ (σ := Value × Value × Value × Value) 3 #[true, true, true, true, true, true, true, true, true, true, false, false, false] (fun s_ => [(5, .agg #[.int .i64 t529, .int .i64 t530, s_.1]), (6, s_.2.1), (9, s_.2.2.1), (10, s_.2.2.2)]) (fun s_ w' => (w'.cell? ⟨gb527, 0, none⟩ = some (.int .i64 a0_0) ∧ w'.cell? ⟨gb527, 1, none⟩ = some (.int .i64 a0_1) ∧ w'.cell? ⟨gb527, 2, none⟩ = some (.slice A0_2 l0_2.length c0_2) ∧ w'.cell? ⟨gb527, 3, none⟩ = some (.slice A0_3 l0_3.length c0_3) ∧ w'.cell? ⟨gb527, 4, none⟩ = some (.slice A0_4 l0_4.length c0_4)) ∧ (Kd.R k58 58 w' w.heap.size (fun _ => True) s_.1 t531) ∧ (Kd.R k60 60 w' w.heap.size (fun k_ => some k_ ≠ (s_.2.2.2 : Value).ownBlock) s_.2.2.1 y537) ∧ (Kd.R k60 60 w' w.heap.size (fun k_ => some k_ ≠ (s_.2.2.1 : Value).ownBlock) s_.2.2.2 y540) ∧ (w'.heap[gb527]? = some (.cells #[.int .i64 a0_0, .int .i64 a0_1, .slice A0_2 l0_2.length c0_2, .slice A0_3 l0_3.length c0_3, .slice A0_4 l0_4.length c0_4] 35 (0, 0))) ∧ (w'.heap[gb528]? = some (.cells #[.int .i64 0, .int .i64 0, .slice none 0 0, .slice none 0 0, .slice none 0 0] 35 (0, 0))) ∧ (Below w.heap.size w w')) ?_ ?_
   rotate_left
   ·intro hJ2_3_6_7
    refine join_ (σ := Value × Value × Value) 4 #[true, true, true, true, true, true, true, false, true, true, false, false, false] (fun s_ => [(5, .agg #[.int .i64 t529, .int .i64 t530, s_.1]), (6, s_.2.1), (9, s_.2.2)]) (fun s_ w' => (w'.cell? ⟨gb527, 0, none⟩ = some (.int .i64 a0_0) ∧ w'.cell? ⟨gb527, 1, none⟩ = some (.int .i64 a0_1) ∧ w'.cell? ⟨gb527, 2, none⟩ = some (.slice A0_2 l0_2.length c0_2) ∧ w'.cell? ⟨gb527, 3, none⟩ = some (.slice A0_3 l0_3.length c0_3) ∧ w'.cell? ⟨gb527, 4, none⟩ = some (.slice A0_4 l0_4.length c0_4)) ∧ (Kd.R k58 58 w' w.heap.size (fun _ => True) s_.1 t531) ∧ (Kd.R k60 60 w' w.heap.size (fun _ => True) s_.2.2 y537) ∧ (w'.heap[gb527]? = some (.cells #[.int .i64 a0_0, .int .i64 a0_1, .slice A0_2 l0_2.length c0_2, .slice A0_3 l0_3.length c0_3, .slice A0_4 l0_4.length c0_4] 35 (0, 0))) ∧ (w'.heap[gb528]? = some (.cells #[.int .i64 0, .int .i64 0, .slice none 0 0, .slice none 0 0, .slice none 0 0] 35 (0, 0))) ∧ (Below w.heap.size w w')) ?_ ?_
    rotate_left
    ·intro hJ2_3_6
     refine join_ (σ := Value × Value × Value) 4 #[true, true, true, true, true, true, false, true, true, true, false, false, false] (fun s_ => [(5, .agg #[.int .i64 t529, .int .i64 t530, s_.1]), (6, s_.2.1), (10, s_.2.2)]) (fun s_ w' => (w'.cell? ⟨gb527, 0, none⟩ = some (.int .i64 a0_0) ∧ w'.cell? ⟨gb527, 1, none⟩ = some (.int .i64 a0_1) ∧ w'.cell? ⟨gb527, 2, none⟩ = some (.slice A0_2 l0_2.length c0_2) ∧ w'.cell? ⟨gb527, 3, none⟩ = some (.slice A0_3 l0_3.length c0_3) ∧ w'.cell? ⟨gb527, 4, none⟩ = some (.slice A0_4 l0_4.length c0_4)) ∧ (Kd.R k58 58 w' w.heap.size (fun _ => True) s_.1 t531) ∧ (Kd.R k60 60 w' w.heap.size (fun k_ => some k_ ≠ (s_.2.2 : Value).ownBlock) s_.2.1 y534) ∧ (Kd.R k60 60 w' w.heap.size (fun k_ => some k_ ≠ (s_.2.1 : Value).ownBlock) s_.2.2 y540) ∧ (w'.heap[gb527]? = some (.cells #[.int .i64 a0_0, .int .i64 a0_1, .slice A0_2 l0_2.length c0_2, .slice A0_3 l0_3.length c0_3, .slice A0_4 l0_4.length c0_4] 35 (0, 0))) ∧ (w'.heap[gb528]? = some (.cells #[.int .i64 0, .int .i64 0, .slice none 0 0, .slice none 0 0, .slice none 0 0] 35 (0, 0))) ∧ (Below w.heap.size w w')) ?_ ?_
     rotate_left
     ·intro hJ2_3_7
      refine join_ (σ := Value × Value) 5 #[true, true, true, true, true, true, false, false, true, true, false, false, false] (fun s_ => [(5, .agg #[.int .i64 t529, .int .i64 t530, s_.1]), (6, s_.2)]) (fun s_ w' => (w'.cell? ⟨gb527, 0, none⟩ = some (.int .i64 a0_0) ∧ w'.cell? ⟨gb527, 1, none⟩ = some (.int .i64 a0_1) ∧ w'.cell? ⟨gb527, 2, none⟩ = some (.slice A0_2 l0_2.length c0_2) ∧ w'.cell? ⟨gb527, 3, none⟩ = some (.slice A0_3 l0_3.length c0_3) ∧ w'.cell? ⟨gb527, 4, none⟩ = some (.slice A0_4 l0_4.length c0_4)) ∧ (Kd.R k58 58 w' w.heap.size (fun _ => True) s_.1 t531) ∧ (Kd.R k60 60 w' w.heap.size (fun _ => True) s_.2 y534) ∧ (w'.heap[gb527]? = some (.cells #[.int .i64 a0_0, .int .i64 a0_1, .slice A0_2 l0_2.length c0_2, .slice A0_3 l0_3.length c0_3, .slice A0_4 l0_4.length c0_4] 35 (0, 0))) ∧ (w'.heap[gb528]? = some (.cells #[.int .i64 0, .int .i64 0, .slice none 0 0, .slice none 0 0, .slice none 0 0] 35 (0, 0))) ∧ (Below w.heap.size w w')) ?_ ?_
      rotate_left
      ·intro hJ2_3
       refine join_ (σ := Value × Value) 5 #[true, true, true, false, true, true, false, true, true, true, false, false, false] (fun s_ => [(5, .agg #[.int .i64 t529, .int .i64 t530, s_.1]), (10, s_.2)]) (fun s_ w' => (w'.cell? ⟨gb527, 0, none⟩ = some (.int .i64 a0_0) ∧ w'.cell? ⟨gb527, 1, none⟩ = some (.int .i64 a0_1) ∧ w'.cell? ⟨gb527, 2, none⟩ = some (.slice A0_2 l0_2.length c0_2) ∧ w'.cell? ⟨gb527, 3, none⟩ = some (.slice A0_3 l0_3.length c0_3) ∧ w'.cell? ⟨gb527, 4, none⟩ = some (.slice A0_4 l0_4.length c0_4)) ∧ (Kd.R k58 58 w' w.heap.size (fun _ => True) s_.1 t531) ∧ (Kd.R k60 60 w' w.heap.size (fun _ => True) s_.2 y540) ∧ (w'.heap[gb527]? = some (.cells #[.int .i64 a0_0, .int .i64 a0_1, .slice A0_2 l0_2.length c0_2, .slice A0_3 l0_3.length c0_3, .slice A0_4 l0_4.length c0_4] 35 (0, 0))) ∧ (w'.heap[gb528]? = some (.cells #[.int .i64 0, .int .i64 0, .slice none 0 0, .slice none 0 0, .slice none 0 0] 35 (0, 0))) ∧ (Below w.heap.size w w')) ?_ ?_
       rotate_left
       ·intro hJ2_7
        refine join_ (σ := Value × Value) 5 #[true, true, false, true, true, true, false, true, true, true, false, false, false] (fun s_ => [(6, s_.1), (10, s_.2)]) (fun s_ w' => (w'.cell? ⟨gb527, 0, none⟩ = some (.int .i64 a0_0) ∧ w'.cell? ⟨gb527, 1, none⟩ = some (.int .i64 a0_1) ∧ w'.cell? ⟨gb527, 2, none⟩ = some (.slice A0_2 l0_2.length c0_2) ∧ w'.cell? ⟨gb527, 3, none⟩ = some (.slice A0_3 l0_3.length c0_3) ∧ w'.cell? ⟨gb527, 4, none⟩ = some (.slice A0_4 l0_4.length c0_4)) ∧ (Kd.R k60 60 w' w.heap.size (fun k_ => some k_ ≠ (s_.2 : Value).ownBlock) s_.1 y534) ∧ (Kd.R k60 60 w' w.heap.size (fun k_ => some k_ ≠ (s_.1 : Value).ownBlock) s_.2 y540) ∧ (w'.heap[gb527]? = some (.cells #[.int .i64 a0_0, .int .i64 a0_1, .slice A0_2 l0_2.length c0_2, .slice A0_3 l0_3.length c0_3, .slice A0_4 l0_4.length c0_4] 35 (0, 0))) ∧ (w'.heap[gb528]? = some (.cells #[.int .i64 0, .int .i64 0, .slice none 0 0, .slice none 0 0, .slice none 0 0] 35 (0, 0))) ∧ (Below w.heap.size w w')) ?_ ?_
        rotate_left
        ·intro hJ3_7
         refine join_ (σ := Value) 6 #[true, true, true, false, true, true, false, false, true, true, false, false, false] (fun s_ => [(5, .agg #[.int .i64 t529, .int .i64 t530, s_])]) (fun s_ w' => (w'.cell? ⟨gb527, 0, none⟩ = some (.int .i64 a0_0) ∧ w'.cell? ⟨gb527, 1, none⟩ = some (.int .i64 a0_1) ∧ w'.cell? ⟨gb527, 2, none⟩ = some (.slice A0_2 l0_2.length c0_2) ∧ w'.cell? ⟨gb527, 3, none⟩ = some (.slice A0_3 l0_3.length c0_3) ∧ w'.cell? ⟨gb527, 4, none⟩ = some (.slice A0_4 l0_4.length c0_4)) ∧ (Kd.R k58 58 w' w.heap.size (fun _ => True) s_ t531) ∧ (w'.heap[gb527]? = some (.cells #[.int .i64 a0_0, .int .i64 a0_1, .slice A0_2 l0_2.length c0_2, .slice A0_3 l0_3.length c0_3, .slice A0_4 l0_4.length c0_4] 35 (0, 0))) ∧ (w'.heap[gb528]? = some (.cells #[.int .i64 0, .int .i64 0, .slice none 0 0, .slice none 0 0, .slice none 0 0] 35 (0, 0))) ∧ (Below w.heap.size w w')) ?_ ?_
         rotate_left
         ·intro hJ2
          refine join_ (σ := Value) 6 #[true, true, false, true, true, true, false, false, true, true, false, false, false] (fun s_ => [(6, s_)]) (fun s_ w' => (w'.cell? ⟨gb527, 0, none⟩ = some (.int .i64 a0_0) ∧ w'.cell? ⟨gb527, 1, none⟩ = some (.int .i64 a0_1) ∧ w'.cell? ⟨gb527, 2, none⟩ = some (.slice A0_2 l0_2.length c0_2) ∧ w'.cell? ⟨gb527, 3, none⟩ = some (.slice A0_3 l0_3.length c0_3) ∧ w'.cell? ⟨gb527, 4, none⟩ = some (.slice A0_4 l0_4.length c0_4)) ∧ (Kd.R k60 60 w' w.heap.size (fun _ => True) s_ y534) ∧ (w'.heap[gb527]? = some (.cells #[.int .i64 a0_0, .int .i64 a0_1, .slice A0_2 l0_2.length c0_2, .slice A0_3 l0_3.length c0_3, .slice A0_4 l0_4.length c0_4] 35 (0, 0))) ∧ (w'.heap[gb528]? = some (.cells #[.int .i64 0, .int .i64 0, .slice none 0 0, .slice none 0 0, .slice none 0 0] 35 (0, 0))) ∧ (Below w.heap.size w w')) ?_ ?_
          rotate_left
          ·intro hJ3
           refine join_ (σ := Value) 6 #[true, true, false, false, true, true, false, true, true, true, false, false, false] (fun s_ => [(10, s_)]) (fun s_ w' => (w'.cell? ⟨gb527, 0, none⟩ = some (.int .i64 a0_0) ∧ w'.cell? ⟨gb527, 1, none⟩ = some (.int .i64 a0_1) ∧ w'.cell? ⟨gb527, 2, none⟩ = some (.slice A0_2 l0_2.length c0_2) ∧ w'.cell? ⟨gb527, 3, none⟩ = some (.slice A0_3 l0_3.length c0_3) ∧ w'.cell? ⟨gb527, 4, none⟩ = some (.slice A0_4 l0_4.length c0_4)) ∧ (Kd.R k60 60 w' w.heap.size (fun _ => True) s_ y540) ∧ (w'.heap[gb527]? = some (.cells #[.int .i64 a0_0, .int .i64 a0_1, .slice A0_2 l0_2.length c0_2, .slice A0_3 l0_3.length c0_3, .slice A0_4 l0_4.length c0_4] 35 (0, 0))) ∧ (w'.heap[gb528]? = some (.cells #[.int .i64 0, .int .i64 0, .slice none 0 0, .slice none 0 0, .slice none 0 0] 35 (0, 0))) ∧ (Below w.heap.size w w')) ?_ ?_
           rotate_left
           ·intro hJ7
            refine three_ (i := 2) (j := 3) (k := 7) (Ni := some 5) (Nj := some 6) (Nk := some 10) #[true, true, true, false, true, true, false, false, true, true, false, false, false] #[true, true, false, true, true, true, false, false, true, true, false, false, false] #[true, true, false, false, true, true, false, true, true, true, false, false, false] rfl rfl rfl rfl rfl rfl (three_of HT_.out (by kernel_rfl)) (by decide) (by decide) (by decide) (fun K hK => ?_) (fun K hK => ?_) (fun K hK => ?_)
            ·skip
             refine goes_ Try.func67 (by kernel_rfl) rfl #[.agg #[.int .i64 a0_0, .int .i64 a0_1, .slice A0_2 l0_2.length c0_2]] (by rfl) rfl rfl mq ?_
             with_reducible refine (impl_copyBoard.calls a0_0 a0_1 _ _ l0_2 t529 t530 t531 _ ?s1 ?s2 A2.out).mono ?_
             (case s1 => exact cq (Kd.C_below HR0_2.out HB.out))
             (case s2 => exact HC0_2.out)
             rintro e w8 ⟨v532, rfl, ho0, hb⟩
             refine ⟨_, rfl, ?_⟩
             have HO533 := rl ho0
             replace BK527 := zb BK527 hb
             replace BK528 := zb BK528 hb
             replace HB := sb hb
             (try clear hb ho0)
             refine hK.out _ _ ⟨(blk_cell BK527.out 0).trans rfl, (blk_cell BK527.out 1).trans rfl, (blk_cell BK527.out 2).trans rfl, (blk_cell BK527.out 3).trans rfl, (blk_cell BK527.out 4).trans rfl⟩ (fun hHeld => ?_)
             clear hK K
             refine norm_ (a' := ?_) ?_ ?_
             rotate_left
             ·show Act.put _ (some 5) _ = _
              simp only [Act.put, List.setIfInBounds_toArray, List.set_cons_zero, List.set_cons_succ, i64_w, i32_w]
              rfl
             exact norm_ (by first | (simp only [putAll, Act.put, List.setIfInBounds_toArray, List.set_cons_zero, List.set_cons_succ]; done) | (simp only [putAll, Act.put, List.setIfInBounds_toArray, List.set_cons_zero, List.set_cons_succ]; rfl)) (hJ2 (v532) _ ⟨hHeld, (rq HO533), (zq BK527), (zq BK528), bq⟩)
            ·skip
             refine Kd.R_lit_step k60 _ 60 ?hg (N := 6) ?hd (xs := ([] : List (S60))) (inner := []) (ok := fun _ => True) (okp := fun _ => True) ?hr ?hp (fun _ hk => hk) trivial (Below.refl _ _) (Nat.le_refl _) (by simp) ?_; (case hd => rfl); (case hg => rfl); (case hr => first | (go_simp; done) | (go_simp; rfl)); (case hp => exact (Reps.none _ _))
             intro v535 w8 ho9 hb hg_ hnew_
             clear hg_ hnew_
             (first | rw [← Ny534.out] at ho9 | (simp only [Int.reduceToNat] at ho9; rw [← Ny534.out] at ho9))
             have HO536 := rl ho9
             replace BK527 := zb BK527 hb
             replace BK528 := zb BK528 hb
             replace HB := sb hb
             clear hb ho9
             refine hK.out _ _ ⟨(blk_cell BK527.out 0).trans rfl, (blk_cell BK527.out 1).trans rfl, (blk_cell BK527.out 2).trans rfl, (blk_cell BK527.out 3).trans rfl, (blk_cell BK527.out 4).trans rfl⟩ (fun hHeld => ?_)
             clear hK K
             refine norm_ (a' := ?_) ?_ ?_
             rotate_left
             ·show Act.put _ (some 6) _ = _
              simp only [Act.put, List.setIfInBounds_toArray, List.set_cons_zero, List.set_cons_succ, i64_w, i32_w]
              rfl
             exact norm_ (by first | (simp only [putAll, Act.put, List.setIfInBounds_toArray, List.set_cons_zero, List.set_cons_succ]; done) | (simp only [putAll, Act.put, List.setIfInBounds_toArray, List.set_cons_zero, List.set_cons_succ]; rfl)) (hJ3 (v535) _ ⟨hHeld, (rq HO536), (zq BK527), (zq BK528), bq⟩)
            ·skip
             refine Kd.R_lit_step k60 _ 60 ?hg (N := 10) ?hd (xs := ([] : List (S60))) (inner := []) (ok := fun _ => True) (okp := fun _ => True) ?hr ?hp (fun _ hk => hk) trivial (Below.refl _ _) (Nat.le_refl _) (by simp) ?_; (case hd => rfl); (case hg => rfl); (case hr => first | (go_simp; done) | (go_simp; rfl)); (case hp => exact (Reps.none _ _))
             intro v541 w8 ho9 hb hg_ hnew_
             clear hg_ hnew_
             (first | rw [← Ny540.out] at ho9 | (simp only [Int.reduceToNat] at ho9; rw [← Ny540.out] at ho9))
             have HO542 := rl ho9
             replace BK527 := zb BK527 hb
             replace BK528 := zb BK528 hb
             replace HB := sb hb
             clear hb ho9
             refine hK.out _ _ ⟨(blk_cell BK527.out 0).trans rfl, (blk_cell BK527.out 1).trans rfl, (blk_cell BK527.out 2).trans rfl, (blk_cell BK527.out 3).trans rfl, (blk_cell BK527.out 4).trans rfl⟩ (fun hHeld => ?_)
             clear hK K
             refine norm_ (a' := ?_) ?_ ?_
             rotate_left
             ·show Act.put _ (some 10) _ = _
              simp only [Act.put, List.setIfInBounds_toArray, List.set_cons_zero, List.set_cons_succ, i64_w, i32_w]
              rfl
             exact norm_ (by first | (simp only [putAll, Act.put, List.setIfInBounds_toArray, List.set_cons_zero, List.set_cons_succ]; done) | (simp only [putAll, Act.put, List.setIfInBounds_toArray, List.set_cons_zero, List.set_cons_succ]; rfl)) (hJ7 (v541) _ ⟨hHeld, (rq HO542), (zq BK527), (zq BK528), bq⟩)
           ·skip
            rintro v541 w10 ⟨hS_, h0_, h1_, h2_, h3_⟩
            have n0_ : Aside0 (Kd.R k60 60 w10 w.heap.size (fun _ => True) v541 y540) := ⟨h0_⟩
            have n1_ : Aside0 (w10.heap[gb527]? = some (.cells #[.int .i64 a0_0, .int .i64 a0_1, .slice A0_2 l0_2.length c0_2, .slice A0_3 l0_3.length c0_3, .slice A0_4 l0_4.length c0_4] 35 (0, 0))) := ⟨h1_⟩
            have n2_ : Aside0 (w10.heap[gb528]? = some (.cells #[.int .i64 0, .int .i64 0, .slice none 0 0, .slice none 0 0, .slice none 0 0] 35 (0, 0))) := ⟨h2_⟩
            have n3_ : Aside0 (Below w.heap.size w w10) := ⟨h3_⟩
            clear BK527 BK528 HB h0_ h1_ h2_ h3_
            have HO542 := n0_
            have BK527 := n1_
            have BK528 := n2_
            have HB := n3_
            clear n0_ n1_ n2_ n3_
            have hHeld : w10.cell? ⟨gb527, 0, none⟩ = some (.int .i64 a0_0) ∧ w10.cell? ⟨gb527, 1, none⟩ = some (.int .i64 a0_1) ∧ w10.cell? ⟨gb527, 2, none⟩ = some (.slice A0_2 l0_2.length c0_2) ∧ w10.cell? ⟨gb527, 3, none⟩ = some (.slice A0_3 l0_3.length c0_3) ∧ w10.cell? ⟨gb527, 4, none⟩ = some (.slice A0_4 l0_4.length c0_4) := hS_
            refine norm_ (a' := ?_) ?_ ?_
            rotate_left
            ·simp only [putAll, Act.put, List.setIfInBounds_toArray, List.set_cons_zero, List.set_cons_succ]
             rfl
            refine two_ (i := 2) (j := 3) (Ni := some 5) (Nj := some 6) #[true, true, true, false, true, true, false, true, true, true, false, false, false] #[true, true, false, true, true, true, false, true, true, true, false, false, false] rfl rfl rfl rfl (two_of HT_.out (by kernel_rfl)) (by decide) (by decide) (fun K hK => ?_) (fun K hK => ?_)
            ·skip
             refine goes_ Try.func67 (by kernel_rfl) rfl #[.agg #[.int .i64 a0_0, .int .i64 a0_1, .slice A0_2 l0_2.length c0_2]] (by rfl) rfl rfl mq ?_
             with_reducible refine (impl_copyBoard.calls a0_0 a0_1 _ _ l0_2 t529 t530 t531 _ ?s1 ?s2 A2.out).mono ?_
             (case s1 => exact cq (Kd.C_below HR0_2.out HB.out))
             (case s2 => exact HC0_2.out)
             rintro e w11 ⟨v532, rfl, ho0, hb⟩
             refine ⟨_, rfl, ?_⟩
             replace HO542 := rb HO542 hb
             have HO533 := rl ho0
             replace BK527 := zb BK527 hb
             replace BK528 := zb BK528 hb
             replace HB := sb hb
             (try clear hb ho0)
             refine hK.out _ _ ⟨(blk_cell BK527.out 0).trans rfl, (blk_cell BK527.out 1).trans rfl, (blk_cell BK527.out 2).trans rfl, (blk_cell BK527.out 3).trans rfl, (blk_cell BK527.out 4).trans rfl⟩ (fun hHeld => ?_)
             clear hK K
             refine norm_ (a' := ?_) ?_ ?_
             rotate_left
             ·show Act.put _ (some 5) _ = _
              simp only [Act.put, List.setIfInBounds_toArray, List.set_cons_zero, List.set_cons_succ, i64_w, i32_w]
              rfl
             exact norm_ (by first | (simp only [putAll, Act.put, List.setIfInBounds_toArray, List.set_cons_zero, List.set_cons_succ]; done) | (simp only [putAll, Act.put, List.setIfInBounds_toArray, List.set_cons_zero, List.set_cons_succ]; rfl)) (hJ2_7 (v532, v541) _ ⟨hHeld, (rq HO533), (rq HO542), (zq BK527), (zq BK528), bq⟩)
            ·skip
             refine Kd.R_lit_step k60 _ 60 ?hg (N := 6) ?hd (xs := ([] : List (S60))) (inner := []) (ok := fun _ => True) (okp := fun _ => True) ?hr ?hp (fun _ hk => hk) trivial (Below.refl _ _) (Nat.le_refl _) (by simp) ?_; (case hd => rfl); (case hg => rfl); (case hr => first | (go_simp; done) | (go_simp; rfl)); (case hp => exact (Reps.none _ _))
             intro v535 w11 ho12 hb hg_ hnew_
             clear hg_ hnew_
             (first | rw [← Ny534.out] at ho12 | (simp only [Int.reduceToNat] at ho12; rw [← Ny534.out] at ho12))
             have HO536 := Aside0.mk (Kd.R_lower (Kd.R_new' ho12 (Kd.R_lt (rq HO542))) (below_size bq))
             replace HO542 := Aside0.mk (Kd.R_elder' (rq HO542) (Kd.R_base ho12) hb)
             replace BK527 := zb BK527 hb
             replace BK528 := zb BK528 hb
             replace HB := sb hb
             clear hb ho12
             refine hK.out _ _ ⟨(blk_cell BK527.out 0).trans rfl, (blk_cell BK527.out 1).trans rfl, (blk_cell BK527.out 2).trans rfl, (blk_cell BK527.out 3).trans rfl, (blk_cell BK527.out 4).trans rfl⟩ (fun hHeld => ?_)
             clear hK K
             refine norm_ (a' := ?_) ?_ ?_
             rotate_left
             ·show Act.put _ (some 6) _ = _
              simp only [Act.put, List.setIfInBounds_toArray, List.set_cons_zero, List.set_cons_succ, i64_w, i32_w]
              rfl
             exact norm_ (by first | (simp only [putAll, Act.put, List.setIfInBounds_toArray, List.set_cons_zero, List.set_cons_succ]; done) | (simp only [putAll, Act.put, List.setIfInBounds_toArray, List.set_cons_zero, List.set_cons_succ]; rfl)) (hJ3_7 (v535, v541) _ ⟨hHeld, (by (with_reducible repeat (first | apply Kd.R_alloc | apply Kd.R_drewN | apply Kd.R_drew)); exact Kd.R_mono HO536.out (fun _ hk => hk.2)), (by (with_reducible repeat (first | apply Kd.R_alloc | apply Kd.R_drewN | apply Kd.R_drew)); exact Kd.R_mono HO542.out (fun _ hk => hk.2)), (zq BK527), (zq BK528), bq⟩)
          ·skip
           rintro v535 w10 ⟨hS_, h0_, h1_, h2_, h3_⟩
           have n0_ : Aside0 (Kd.R k60 60 w10 w.heap.size (fun _ => True) v535 y534) := ⟨h0_⟩
           have n1_ : Aside0 (w10.heap[gb527]? = some (.cells #[.int .i64 a0_0, .int .i64 a0_1, .slice A0_2 l0_2.length c0_2, .slice A0_3 l0_3.length c0_3, .slice A0_4 l0_4.length c0_4] 35 (0, 0))) := ⟨h1_⟩
           have n2_ : Aside0 (w10.heap[gb528]? = some (.cells #[.int .i64 0, .int .i64 0, .slice none 0 0, .slice none 0 0, .slice none 0 0] 35 (0, 0))) := ⟨h2_⟩
           have n3_ : Aside0 (Below w.heap.size w w10) := ⟨h3_⟩
           clear BK527 BK528 HB h0_ h1_ h2_ h3_
           have HO536 := n0_
           have BK527 := n1_
           have BK528 := n2_
           have HB := n3_
           clear n0_ n1_ n2_ n3_
           have hHeld : w10.cell? ⟨gb527, 0, none⟩ = some (.int .i64 a0_0) ∧ w10.cell? ⟨gb527, 1, none⟩ = some (.int .i64 a0_1) ∧ w10.cell? ⟨gb527, 2, none⟩ = some (.slice A0_2 l0_2.length c0_2) ∧ w10.cell? ⟨gb527, 3, none⟩ = some (.slice A0_3 l0_3.length c0_3) ∧ w10.cell? ⟨gb527, 4, none⟩ = some (.slice A0_4 l0_4.length c0_4) := hS_
           refine norm_ (a' := ?_) ?_ ?_
           rotate_left
           ·simp only [putAll, Act.put, List.setIfInBounds_toArray, List.set_cons_zero, List.set_cons_succ]
            rfl
           refine two_ (i := 2) (j := 7) (Ni := some 5) (Nj := some 10) #[true, true, true, true, true, true, false, false, true, true, false, false, false] #[true, true, false, true, true, true, false, true, true, true, false, false, false] rfl rfl rfl rfl (two_of HT_.out (by kernel_rfl)) (by decide) (by decide) (fun K hK => ?_) (fun K hK => ?_)
           ·skip
            refine goes_ Try.func67 (by kernel_rfl) rfl #[.agg #[.int .i64 a0_0, .int .i64 a0_1, .slice A0_2 l0_2.length c0_2]] (by rfl) rfl rfl mq ?_
            with_reducible refine (impl_copyBoard.calls a0_0 a0_1 _ _ l0_2 t529 t530 t531 _ ?s1 ?s2 A2.out).mono ?_
            (case s1 => exact cq (Kd.C_below HR0_2.out HB.out))
            (case s2 => exact HC0_2.out)
            rintro e w11 ⟨v532, rfl, ho0, hb⟩
            refine ⟨_, rfl, ?_⟩
            replace HO536 := rb HO536 hb
            have HO533 := rl ho0
            replace BK527 := zb BK527 hb
            replace BK528 := zb BK528 hb
            replace HB := sb hb
            (try clear hb ho0)
            refine hK.out _ _ ⟨(blk_cell BK527.out 0).trans rfl, (blk_cell BK527.out 1).trans rfl, (blk_cell BK527.out 2).trans rfl, (blk_cell BK527.out 3).trans rfl, (blk_cell BK527.out 4).trans rfl⟩ (fun hHeld => ?_)
            clear hK K
            refine norm_ (a' := ?_) ?_ ?_
            rotate_left
            ·show Act.put _ (some 5) _ = _
             simp only [Act.put, List.setIfInBounds_toArray, List.set_cons_zero, List.set_cons_succ, i64_w, i32_w]
             rfl
            exact norm_ (by first | (simp only [putAll, Act.put, List.setIfInBounds_toArray, List.set_cons_zero, List.set_cons_succ]; done) | (simp only [putAll, Act.put, List.setIfInBounds_toArray, List.set_cons_zero, List.set_cons_succ]; rfl)) (hJ2_3 (v532, v535) _ ⟨hHeld, (rq HO533), (rq HO536), (zq BK527), (zq BK528), bq⟩)
           ·skip
            refine Kd.R_lit_step k60 _ 60 ?hg (N := 10) ?hd (xs := ([] : List (S60))) (inner := []) (ok := fun _ => True) (okp := fun _ => True) ?hr ?hp (fun _ hk => hk) trivial (Below.refl _ _) (Nat.le_refl _) (by simp) ?_; (case hd => rfl); (case hg => rfl); (case hr => first | (go_simp; done) | (go_simp; rfl)); (case hp => exact (Reps.none _ _))
            intro v541 w11 ho12 hb hg_ hnew_
            clear hg_ hnew_
            (first | rw [← Ny540.out] at ho12 | (simp only [Int.reduceToNat] at ho12; rw [← Ny540.out] at ho12))
            have HO542 := Aside0.mk (Kd.R_lower (Kd.R_new' ho12 (Kd.R_lt (rq HO536))) (below_size bq))
            replace HO536 := Aside0.mk (Kd.R_elder' (rq HO536) (Kd.R_base ho12) hb)
            replace BK527 := zb BK527 hb
            replace BK528 := zb BK528 hb
            replace HB := sb hb
            clear hb ho12
            refine hK.out _ _ ⟨(blk_cell BK527.out 0).trans rfl, (blk_cell BK527.out 1).trans rfl, (blk_cell BK527.out 2).trans rfl, (blk_cell BK527.out 3).trans rfl, (blk_cell BK527.out 4).trans rfl⟩ (fun hHeld => ?_)
            clear hK K
            refine norm_ (a' := ?_) ?_ ?_
            rotate_left
            ·show Act.put _ (some 10) _ = _
             simp only [Act.put, List.setIfInBounds_toArray, List.set_cons_zero, List.set_cons_succ, i64_w, i32_w]
             rfl
            exact norm_ (by first | (simp only [putAll, Act.put, List.setIfInBounds_toArray, List.set_cons_zero, List.set_cons_succ]; done) | (simp only [putAll, Act.put, List.setIfInBounds_toArray, List.set_cons_zero, List.set_cons_succ]; rfl)) (hJ3_7 (v535, v541) _ ⟨hHeld, (by (with_reducible repeat (first | apply Kd.R_alloc | apply Kd.R_drewN | apply Kd.R_drew)); exact Kd.R_mono HO536.out (fun _ hk => hk.2)), (by (with_reducible repeat (first | apply Kd.R_alloc | apply Kd.R_drewN | apply Kd.R_drew)); exact Kd.R_mono HO542.out (fun _ hk => hk.2)), (zq BK527), (zq BK528), bq⟩)
         ·skip
          rintro v532 w9 ⟨hS_, h0_, h1_, h2_, h3_⟩
          have n0_ : Aside0 (Kd.R k58 58 w9 w.heap.size (fun _ => True) v532 t531) := ⟨h0_⟩
          have n1_ : Aside0 (w9.heap[gb527]? = some (.cells #[.int .i64 a0_0, .int .i64 a0_1, .slice A0_2 l0_2.length c0_2, .slice A0_3 l0_3.length c0_3, .slice A0_4 l0_4.length c0_4] 35 (0, 0))) := ⟨h1_⟩
          have n2_ : Aside0 (w9.heap[gb528]? = some (.cells #[.int .i64 0, .int .i64 0, .slice none 0 0, .slice none 0 0, .slice none 0 0] 35 (0, 0))) := ⟨h2_⟩
          have n3_ : Aside0 (Below w.heap.size w w9) := ⟨h3_⟩
          clear BK527 BK528 HB h0_ h1_ h2_ h3_
          have HO533 := n0_
          have BK527 := n1_
          have BK528 := n2_
          have HB := n3_
          clear n0_ n1_ n2_ n3_
          have hHeld : w9.cell? ⟨gb527, 0, none⟩ = some (.int .i64 a0_0) ∧ w9.cell? ⟨gb527, 1, none⟩ = some (.int .i64 a0_1) ∧ w9.cell? ⟨gb527, 2, none⟩ = some (.slice A0_2 l0_2.length c0_2) ∧ w9.cell? ⟨gb527, 3, none⟩ = some (.slice A0_3 l0_3.length c0_3) ∧ w9.cell? ⟨gb527, 4, none⟩ = some (.slice A0_4 l0_4.length c0_4) := hS_
          refine norm_ (a' := ?_) ?_ ?_
          rotate_left
          ·simp only [putAll, Act.put, List.setIfInBounds_toArray, List.set_cons_zero, List.set_cons_succ]
           rfl
          refine two_ (i := 3) (j := 7) (Ni := some 6) (Nj := some 10) #[true, true, true, true, true, true, false, false, true, true, false, false, false] #[true, true, true, false, true, true, false, true, true, true, false, false, false] rfl rfl rfl rfl (two_of HT_.out (by kernel_rfl)) (by decide) (by decide) (fun K hK => ?_) (fun K hK => ?_)
          ·skip
           refine Kd.R_lit_step k60 _ 60 ?hg (N := 6) ?hd (xs := ([] : List (S60))) (inner := []) (ok := fun _ => True) (okp := fun _ => True) ?hr ?hp (fun _ hk => hk) trivial (Below.refl _ _) (Nat.le_refl _) (by simp) ?_; (case hd => rfl); (case hg => rfl); (case hr => first | (go_simp; done) | (go_simp; rfl)); (case hp => exact (Reps.none _ _))
           intro v535 w10 ho11 hb hg_ hnew_
           clear hg_ hnew_
           (first | rw [← Ny534.out] at ho11 | (simp only [Int.reduceToNat] at ho11; rw [← Ny534.out] at ho11))
           replace HO533 := rb HO533 hb
           have HO536 := rl ho11
           replace BK527 := zb BK527 hb
           replace BK528 := zb BK528 hb
           replace HB := sb hb
           clear hb ho11
           refine hK.out _ _ ⟨(blk_cell BK527.out 0).trans rfl, (blk_cell BK527.out 1).trans rfl, (blk_cell BK527.out 2).trans rfl, (blk_cell BK527.out 3).trans rfl, (blk_cell BK527.out 4).trans rfl⟩ (fun hHeld => ?_)
           clear hK K
           refine norm_ (a' := ?_) ?_ ?_
           rotate_left
           ·show Act.put _ (some 6) _ = _
            simp only [Act.put, List.setIfInBounds_toArray, List.set_cons_zero, List.set_cons_succ, i64_w, i32_w]
            rfl
           exact norm_ (by first | (simp only [putAll, Act.put, List.setIfInBounds_toArray, List.set_cons_zero, List.set_cons_succ]; done) | (simp only [putAll, Act.put, List.setIfInBounds_toArray, List.set_cons_zero, List.set_cons_succ]; rfl)) (hJ2_3 (v532, v535) _ ⟨hHeld, (rq HO533), (rq HO536), (zq BK527), (zq BK528), bq⟩)
          ·skip
           refine Kd.R_lit_step k60 _ 60 ?hg (N := 10) ?hd (xs := ([] : List (S60))) (inner := []) (ok := fun _ => True) (okp := fun _ => True) ?hr ?hp (fun _ hk => hk) trivial (Below.refl _ _) (Nat.le_refl _) (by simp) ?_; (case hd => rfl); (case hg => rfl); (case hr => first | (go_simp; done) | (go_simp; rfl)); (case hp => exact (Reps.none _ _))
           intro v541 w10 ho11 hb hg_ hnew_
           clear hg_ hnew_
           (first | rw [← Ny540.out] at ho11 | (simp only [Int.reduceToNat] at ho11; rw [← Ny540.out] at ho11))
           replace HO533 := rb HO533 hb
           have HO542 := rl ho11
           replace BK527 := zb BK527 hb
           replace BK528 := zb BK528 hb
           replace HB := sb hb
           clear hb ho11
           refine hK.out _ _ ⟨(blk_cell BK527.out 0).trans rfl, (blk_cell BK527.out 1).trans rfl, (blk_cell BK527.out 2).trans rfl, (blk_cell BK527.out 3).trans rfl, (blk_cell BK527.out 4).trans rfl⟩ (fun hHeld => ?_)
           clear hK K
           refine norm_ (a' := ?_) ?_ ?_
           rotate_left
           ·show Act.put _ (some 10) _ = _
            simp only [Act.put, List.setIfInBounds_toArray, List.set_cons_zero, List.set_cons_succ, i64_w, i32_w]
            rfl
           exact norm_ (by first | (simp only [putAll, Act.put, List.setIfInBounds_toArray, List.set_cons_zero, List.set_cons_succ]; done) | (simp only [putAll, Act.put, List.setIfInBounds_toArray, List.set_cons_zero, List.set_cons_succ]; rfl)) (hJ2_7 (v532, v541) _ ⟨hHeld, (rq HO533), (rq HO542), (zq BK527), (zq BK528), bq⟩)
        ·skip
         rintro ⟨v535, v541⟩ w12 ⟨hS_, h0_, h1_, h2_, h3_, h4_⟩
         have n0_ : Aside0 (Kd.R k60 60 w12 w.heap.size (fun k_ => some k_ ≠ (v541 : Value).ownBlock) v535 y534) := ⟨h0_⟩
         have n1_ : Aside0 (Kd.R k60 60 w12 w.heap.size (fun k_ => some k_ ≠ (v535 : Value).ownBlock) v541 y540) := ⟨h1_⟩
         have n2_ : Aside0 (w12.heap[gb527]? = some (.cells #[.int .i64 a0_0, .int .i64 a0_1, .slice A0_2 l0_2.length c0_2, .slice A0_3 l0_3.length c0_3, .slice A0_4 l0_4.length c0_4] 35 (0, 0))) := ⟨h2_⟩
         have n3_ : Aside0 (w12.heap[gb528]? = some (.cells #[.int .i64 0, .int .i64 0, .slice none 0 0, .slice none 0 0, .slice none 0 0] 35 (0, 0))) := ⟨h3_⟩
         have n4_ : Aside0 (Below w.heap.size w w12) := ⟨h4_⟩
         clear BK527 BK528 HB h0_ h1_ h2_ h3_ h4_
         have HO536 := n0_
         have HO542 := n1_
         have BK527 := n2_
         have BK528 := n3_
         have HB := n4_
         clear n0_ n1_ n2_ n3_ n4_
         have hHeld : w12.cell? ⟨gb527, 0, none⟩ = some (.int .i64 a0_0) ∧ w12.cell? ⟨gb527, 1, none⟩ = some (.int .i64 a0_1) ∧ w12.cell? ⟨gb527, 2, none⟩ = some (.slice A0_2 l0_2.length c0_2) ∧ w12.cell? ⟨gb527, 3, none⟩ = some (.slice A0_3 l0_3.length c0_3) ∧ w12.cell? ⟨gb527, 4, none⟩ = some (.slice A0_4 l0_4.length c0_4) := hS_
         refine norm_ (a' := ?_) ?_ ?_
         rotate_left
         ·simp only [putAll, Act.put, List.setIfInBounds_toArray, List.set_cons_zero, List.set_cons_succ]
          rfl
         refine one_ (i := 2) (N := some 5) #[true, true, true, true, true, true, false, true, true, true, false, false, false] rfl rfl (one_of HT_.out (by kernel_rfl)) (by decide) (fun K hK => ?_)
         refine goes_ Try.func67 (by kernel_rfl) rfl #[.agg #[.int .i64 a0_0, .int .i64 a0_1, .slice A0_2 l0_2.length c0_2]] (by rfl) rfl rfl mq ?_
         with_reducible refine (impl_copyBoard.calls a0_0 a0_1 _ _ l0_2 t529 t530 t531 _ ?s1 ?s2 A2.out).mono ?_
         (case s1 => exact cq (Kd.C_below HR0_2.out HB.out))
         (case s2 => exact HC0_2.out)
         rintro e w13 ⟨v532, rfl, ho0, hb⟩
         refine ⟨_, rfl, ?_⟩
         replace HO536 := rb HO536 hb
         replace HO542 := rb HO542 hb
         have HO533 := rl ho0
         replace BK527 := zb BK527 hb
         replace BK528 := zb BK528 hb
         replace HB := sb hb
         (try clear hb ho0)
         refine hK.out _ _ ⟨(blk_cell BK527.out 0).trans rfl, (blk_cell BK527.out 1).trans rfl, (blk_cell BK527.out 2).trans rfl, (blk_cell BK527.out 3).trans rfl, (blk_cell BK527.out 4).trans rfl⟩ (fun hHeld => ?_)
         clear hK K
         refine norm_ (a' := ?_) ?_ ?_
         rotate_left
         ·show Act.put _ (some 5) _ = _
          simp only [Act.put, List.setIfInBounds_toArray, List.set_cons_zero, List.set_cons_succ, i64_w, i32_w]
          rfl
         exact norm_ (by first | (simp only [putAll, Act.put, List.setIfInBounds_toArray, List.set_cons_zero, List.set_cons_succ]; done) | (simp only [putAll, Act.put, List.setIfInBounds_toArray, List.set_cons_zero, List.set_cons_succ]; rfl)) (hJ2_3_7 (v532, v535, v541) _ ⟨hHeld, (rq HO533), (rq HO536), (rq HO542), (zq BK527), (zq BK528), bq⟩)
       ·skip
        rintro ⟨v532, v541⟩ w11 ⟨hS_, h0_, h1_, h2_, h3_, h4_⟩
        have n0_ : Aside0 (Kd.R k58 58 w11 w.heap.size (fun _ => True) v532 t531) := ⟨h0_⟩
        have n1_ : Aside0 (Kd.R k60 60 w11 w.heap.size (fun _ => True) v541 y540) := ⟨h1_⟩
        have n2_ : Aside0 (w11.heap[gb527]? = some (.cells #[.int .i64 a0_0, .int .i64 a0_1, .slice A0_2 l0_2.length c0_2, .slice A0_3 l0_3.length c0_3, .slice A0_4 l0_4.length c0_4] 35 (0, 0))) := ⟨h2_⟩
        have n3_ : Aside0 (w11.heap[gb528]? = some (.cells #[.int .i64 0, .int .i64 0, .slice none 0 0, .slice none 0 0, .slice none 0 0] 35 (0, 0))) := ⟨h3_⟩
        have n4_ : Aside0 (Below w.heap.size w w11) := ⟨h4_⟩
        clear BK527 BK528 HB h0_ h1_ h2_ h3_ h4_
        have HO533 := n0_
        have HO542 := n1_
        have BK527 := n2_
        have BK528 := n3_
        have HB := n4_
        clear n0_ n1_ n2_ n3_ n4_
        have hHeld : w11.cell? ⟨gb527, 0, none⟩ = some (.int .i64 a0_0) ∧ w11.cell? ⟨gb527, 1, none⟩ = some (.int .i64 a0_1) ∧ w11.cell? ⟨gb527, 2, none⟩ = some (.slice A0_2 l0_2.length c0_2) ∧ w11.cell? ⟨gb527, 3, none⟩ = some (.slice A0_3 l0_3.length c0_3) ∧ w11.cell? ⟨gb527, 4, none⟩ = some (.slice A0_4 l0_4.length c0_4) := hS_
        refine norm_ (a' := ?_) ?_ ?_
        rotate_left
        ·simp only [putAll, Act.put, List.setIfInBounds_toArray, List.set_cons_zero, List.set_cons_succ]
         rfl
        refine one_ (i := 3) (N := some 6) #[true, true, true, true, true, true, false, true, true, true, false, false, false] rfl rfl (one_of HT_.out (by kernel_rfl)) (by decide) (fun K hK => ?_)
        refine Kd.R_lit_step k60 _ 60 ?hg (N := 6) ?hd (xs := ([] : List (S60))) (inner := []) (ok := fun _ => True) (okp := fun _ => True) ?hr ?hp (fun _ hk => hk) trivial (Below.refl _ _) (Nat.le_refl _) (by simp) ?_; (case hd => rfl); (case hg => rfl); (case hr => first | (go_simp; done) | (go_simp; rfl)); (case hp => exact (Reps.none _ _))
        intro v535 w12 ho13 hb hg_ hnew_
        clear hg_ hnew_
        (first | rw [← Ny534.out] at ho13 | (simp only [Int.reduceToNat] at ho13; rw [← Ny534.out] at ho13))
        replace HO533 := rb HO533 hb
        have HO536 := Aside0.mk (Kd.R_lower (Kd.R_new' ho13 (Kd.R_lt (rq HO542))) (below_size bq))
        replace HO542 := Aside0.mk (Kd.R_elder' (rq HO542) (Kd.R_base ho13) hb)
        replace BK527 := zb BK527 hb
        replace BK528 := zb BK528 hb
        replace HB := sb hb
        clear hb ho13
        refine hK.out _ _ ⟨(blk_cell BK527.out 0).trans rfl, (blk_cell BK527.out 1).trans rfl, (blk_cell BK527.out 2).trans rfl, (blk_cell BK527.out 3).trans rfl, (blk_cell BK527.out 4).trans rfl⟩ (fun hHeld => ?_)
        clear hK K
        refine norm_ (a' := ?_) ?_ ?_
        rotate_left
        ·show Act.put _ (some 6) _ = _
         simp only [Act.put, List.setIfInBounds_toArray, List.set_cons_zero, List.set_cons_succ, i64_w, i32_w]
         rfl
        exact norm_ (by first | (simp only [putAll, Act.put, List.setIfInBounds_toArray, List.set_cons_zero, List.set_cons_succ]; done) | (simp only [putAll, Act.put, List.setIfInBounds_toArray, List.set_cons_zero, List.set_cons_succ]; rfl)) (hJ2_3_7 (v532, v535, v541) _ ⟨hHeld, (rq HO533), (by (with_reducible repeat (first | apply Kd.R_alloc | apply Kd.R_drewN | apply Kd.R_drew)); exact Kd.R_mono HO536.out (fun _ hk => hk.2)), (by (with_reducible repeat (first | apply Kd.R_alloc | apply Kd.R_drewN | apply Kd.R_drew)); exact Kd.R_mono HO542.out (fun _ hk => hk.2)), (zq BK527), (zq BK528), bq⟩)
      ·skip
       rintro ⟨v532, v535⟩ w11 ⟨hS_, h0_, h1_, h2_, h3_, h4_⟩
       have n0_ : Aside0 (Kd.R k58 58 w11 w.heap.size (fun _ => True) v532 t531) := ⟨h0_⟩
       have n1_ : Aside0 (Kd.R k60 60 w11 w.heap.size (fun _ => True) v535 y534) := ⟨h1_⟩
       have n2_ : Aside0 (w11.heap[gb527]? = some (.cells #[.int .i64 a0_0, .int .i64 a0_1, .slice A0_2 l0_2.length c0_2, .slice A0_3 l0_3.length c0_3, .slice A0_4 l0_4.length c0_4] 35 (0, 0))) := ⟨h2_⟩
       have n3_ : Aside0 (w11.heap[gb528]? = some (.cells #[.int .i64 0, .int .i64 0, .slice none 0 0, .slice none 0 0, .slice none 0 0] 35 (0, 0))) := ⟨h3_⟩
       have n4_ : Aside0 (Below w.heap.size w w11) := ⟨h4_⟩
       clear BK527 BK528 HB h0_ h1_ h2_ h3_ h4_
       have HO533 := n0_
       have HO536 := n1_
       have BK527 := n2_
       have BK528 := n3_
       have HB := n4_
       clear n0_ n1_ n2_ n3_ n4_
       have hHeld : w11.cell? ⟨gb527, 0, none⟩ = some (.int .i64 a0_0) ∧ w11.cell? ⟨gb527, 1, none⟩ = some (.int .i64 a0_1) ∧ w11.cell? ⟨gb527, 2, none⟩ = some (.slice A0_2 l0_2.length c0_2) ∧ w11.cell? ⟨gb527, 3, none⟩ = some (.slice A0_3 l0_3.length c0_3) ∧ w11.cell? ⟨gb527, 4, none⟩ = some (.slice A0_4 l0_4.length c0_4) := hS_
       refine norm_ (a' := ?_) ?_ ?_
       rotate_left
       ·simp only [putAll, Act.put, List.setIfInBounds_toArray, List.set_cons_zero, List.set_cons_succ]
        rfl
       refine two_ (i := 6) (j := 7) (Ni := some 9) (Nj := some 10) #[true, true, true, true, true, true, true, false, true, true, false, false, false] #[true, true, true, true, true, true, false, true, true, true, false, false, false] rfl rfl rfl rfl (two_of HT_.out (by kernel_rfl)) (by decide) (by decide) (fun K hK => ?_) (fun K hK => ?_)
       ·skip
        refine Kd.R_append_rows_step k60 (w0 := w) w.heap.size (by rfl) (.tmp 6) (.tmp 8) 33 60 (.agg #[(.int .i64 0), (.int .i64 0), (.int .i64 0), (.int .i64 0), (.int .i64 0)]) 40 rfl Try.underlying33 info60 rfl (by decide) (by omega) v535 y534 l0_3 _ _ _ (fun _ => True) (fun _ => False) rfl rfl ?aO ?aR (fun _ _ h => h) (fun _ h => h.elim) ?aF ?aB ?aS ?aL ?_
        (case aR => repeat (first | exact (Kd.C_below HR0_3.out HB.out) | (with_reducible refine Kd.C_alloc ?_ _) | (with_reducible refine Kd.C_drewN ?_ _) | (with_reducible refine Kd.C_drew ?_)))
        (case aB => exact bq)
        (case aF => exact (fun _ _ => trivial))
        (case aO => exact (rq HO536))
        (case aS => exact (below_size bq))
        (case aL => have := LMc3.out; omega)
        intro v538 w12 ho hb hg hat
        rw [← Ny537.out] at ho
        have n0_ := Aside0.mk (blk_grown (g := gb527) (o := .cells #[.int .i64 a0_0, .int .i64 a0_1, .slice A0_2 l0_2.length c0_2, .slice A0_3 l0_3.length c0_3, .slice A0_4 l0_4.length c0_4] 35 (0, 0)) (zq BK527) hg (Kd.R_ne HO536.out BK527.out (by decide)))
        have n1_ := Aside0.mk (blk_grown (g := gb528) (o := .cells #[.int .i64 0, .int .i64 0, .slice none 0 0, .slice none 0 0, .slice none 0 0] 35 (0, 0)) (zq BK528) hg (Kd.R_ne HO536.out BK528.out (by decide)))
        have n2_ := Aside0.mk (Kd.R_over' (rq HO533) (Kd.R_typed (rq HO536)) (by decide) hg)
        have n3_ := Aside0.mk (hb)
        have n4_ := Aside0.mk (ho)
        clear BK527 BK528 HO533 HB HO536
        have BK527 := n0_
        have BK528 := n1_
        have HO533 := n2_
        have HB := n3_
        have HO539 := n4_
        clear n0_ n1_ n2_ n3_ n4_ ho hb hg hat
        refine hK.out _ _ ⟨(blk_cell BK527.out 0).trans rfl, (blk_cell BK527.out 1).trans rfl, (blk_cell BK527.out 2).trans rfl, (blk_cell BK527.out 3).trans rfl, (blk_cell BK527.out 4).trans rfl⟩ (fun hHeld => ?_)
        clear hK K
        refine norm_ (a' := ?_) ?_ ?_
        rotate_left
        ·show Act.put _ (some 9) _ = _
         simp only [Act.put, List.setIfInBounds_toArray, List.set_cons_zero, List.set_cons_succ, i64_w, i32_w]
         rfl
        exact norm_ (by first | (simp only [putAll, Act.put, List.setIfInBounds_toArray, List.set_cons_zero, List.set_cons_succ]; done) | (simp only [putAll, Act.put, List.setIfInBounds_toArray, List.set_cons_zero, List.set_cons_succ]; rfl)) (hJ2_3_6 (v532, v535, v538) _ ⟨hHeld, (rq HO533), (rq HO539), (zq BK527), (zq BK528), bq⟩)
       ·skip
        refine Kd.R_lit_step k60 _ 60 ?hg (N := 10) ?hd (xs := ([] : List (S60))) (inner := []) (ok := fun _ => True) (okp := fun _ => True) ?hr ?hp (fun _ hk => hk) trivial (Below.refl _ _) (Nat.le_refl _) (by simp) ?_; (case hd => rfl); (case hg => rfl); (case hr => first | (go_simp; done) | (go_simp; rfl)); (case hp => exact (Reps.none _ _))
        intro v541 w12 ho13 hb hg_ hnew_
        clear hg_ hnew_
        (first | rw [← Ny540.out] at ho13 | (simp only [Int.reduceToNat] at ho13; rw [← Ny540.out] at ho13))
        replace HO533 := rb HO533 hb
        have HO542 := Aside0.mk (Kd.R_lower (Kd.R_new' ho13 (Kd.R_lt (rq HO536))) (below_size bq))
        replace HO536 := Aside0.mk (Kd.R_elder' (rq HO536) (Kd.R_base ho13) hb)
        replace BK527 := zb BK527 hb
        replace BK528 := zb BK528 hb
        replace HB := sb hb
        clear hb ho13
        refine hK.out _ _ ⟨(blk_cell BK527.out 0).trans rfl, (blk_cell BK527.out 1).trans rfl, (blk_cell BK527.out 2).trans rfl, (blk_cell BK527.out 3).trans rfl, (blk_cell BK527.out 4).trans rfl⟩ (fun hHeld => ?_)
        clear hK K
        refine norm_ (a' := ?_) ?_ ?_
        rotate_left
        ·show Act.put _ (some 10) _ = _
         simp only [Act.put, List.setIfInBounds_toArray, List.set_cons_zero, List.set_cons_succ, i64_w, i32_w]
         rfl
        exact norm_ (by first | (simp only [putAll, Act.put, List.setIfInBounds_toArray, List.set_cons_zero, List.set_cons_succ]; done) | (simp only [putAll, Act.put, List.setIfInBounds_toArray, List.set_cons_zero, List.set_cons_succ]; rfl)) (hJ2_3_7 (v532, v535, v541) _ ⟨hHeld, (rq HO533), (by (with_reducible repeat (first | apply Kd.R_alloc | apply Kd.R_drewN | apply Kd.R_drew)); exact Kd.R_mono HO536.out (fun _ hk => hk.2)), (by (with_reducible repeat (first | apply Kd.R_alloc | apply Kd.R_drewN | apply Kd.R_drew)); exact Kd.R_mono HO542.out (fun _ hk => hk.2)), (zq BK527), (zq BK528), bq⟩)
     ·skip
      rintro ⟨v532, v535, v541⟩ w13 ⟨hS_, h0_, h1_, h2_, h3_, h4_, h5_⟩
      have n0_ : Aside0 (Kd.R k58 58 w13 w.heap.size (fun _ => True) v532 t531) := ⟨h0_⟩
      have n1_ : Aside0 (Kd.R k60 60 w13 w.heap.size (fun k_ => some k_ ≠ (v541 : Value).ownBlock) v535 y534) := ⟨h1_⟩
      have n2_ : Aside0 (Kd.R k60 60 w13 w.heap.size (fun k_ => some k_ ≠ (v535 : Value).ownBlock) v541 y540) := ⟨h2_⟩
      have n3_ : Aside0 (w13.heap[gb527]? = some (.cells #[.int .i64 a0_0, .int .i64 a0_1, .slice A0_2 l0_2.length c0_2, .slice A0_3 l0_3.length c0_3, .slice A0_4 l0_4.length c0_4] 35 (0, 0))) := ⟨h3_⟩
      have n4_ : Aside0 (w13.heap[gb528]? = some (.cells #[.int .i64 0, .int .i64 0, .slice none 0 0, .slice none 0 0, .slice none 0 0] 35 (0, 0))) := ⟨h4_⟩
      have n5_ : Aside0 (Below w.heap.size w w13) := ⟨h5_⟩
      clear BK527 BK528 HB h0_ h1_ h2_ h3_ h4_ h5_
      have HO533 := n0_
      have HO536 := n1_
      have HO542 := n2_
      have BK527 := n3_
      have BK528 := n4_
      have HB := n5_
      clear n0_ n1_ n2_ n3_ n4_ n5_
      have hHeld : w13.cell? ⟨gb527, 0, none⟩ = some (.int .i64 a0_0) ∧ w13.cell? ⟨gb527, 1, none⟩ = some (.int .i64 a0_1) ∧ w13.cell? ⟨gb527, 2, none⟩ = some (.slice A0_2 l0_2.length c0_2) ∧ w13.cell? ⟨gb527, 3, none⟩ = some (.slice A0_3 l0_3.length c0_3) ∧ w13.cell? ⟨gb527, 4, none⟩ = some (.slice A0_4 l0_4.length c0_4) := hS_
      refine norm_ (a' := ?_) ?_ ?_
      rotate_left
      ·simp only [putAll, Act.put, List.setIfInBounds_toArray, List.set_cons_zero, List.set_cons_succ]
       rfl
      refine one_ (i := 6) (N := some 9) #[true, true, true, true, true, true, true, true, true, true, false, false, false] rfl rfl (one_of HT_.out (by kernel_rfl)) (by decide) (fun K hK => ?_)
      refine Kd.R_append_rows_step k60 (w0 := w) w.heap.size (by rfl) (.tmp 6) (.tmp 8) 33 60 (.agg #[(.int .i64 0), (.int .i64 0), (.int .i64 0), (.int .i64 0), (.int .i64 0)]) 40 rfl Try.underlying33 info60 rfl (by decide) (by omega) v535 y534 l0_3 _ _ _ (fun k_ => some k_ ≠ (v541 : Value).ownBlock) (fun _ => False) rfl rfl ?aO ?aR (fun _ _ h => h) (fun _ h => h.elim) ?aF ?aB ?aS ?aL ?_
      (case aR => repeat (first | exact (Kd.C_below HR0_3.out HB.out) | (with_reducible refine Kd.C_alloc ?_ _) | (with_reducible refine Kd.C_drewN ?_ _) | (with_reducible refine Kd.C_drew ?_)))
      (case aB => exact bq)
      (case aF => exact (fun k_ hk => Kd.fresh' (Kd.R_lt (rq HO542)) k_ hk))
      (case aO => exact (rq HO536))
      (case aS => exact (below_size bq))
      (case aL => have := LMc3.out; omega)
      intro v538 w14 ho hb hg hat
      rw [← Ny537.out] at ho
      have n0_ := Aside0.mk (blk_grown (g := gb527) (o := .cells #[.int .i64 a0_0, .int .i64 a0_1, .slice A0_2 l0_2.length c0_2, .slice A0_3 l0_3.length c0_3, .slice A0_4 l0_4.length c0_4] 35 (0, 0)) (zq BK527) hg (Kd.R_ne HO536.out BK527.out (by decide)))
      have n1_ := Aside0.mk (blk_grown (g := gb528) (o := .cells #[.int .i64 0, .int .i64 0, .slice none 0 0, .slice none 0 0, .slice none 0 0] 35 (0, 0)) (zq BK528) hg (Kd.R_ne HO536.out BK528.out (by decide)))
      have n2_ := Aside0.mk (Kd.R_over' (rq HO533) (Kd.R_typed (rq HO536)) (by decide) hg)
      have n3_ := Aside0.mk (Kd.R_after (ok := (fun _ => True)) (by (with_reducible repeat (first | apply Kd.R_alloc | apply Kd.R_drewN | apply Kd.R_drew)); exact Kd.R_mono HO542.out (fun _ hk => ⟨trivial, hk⟩)) hg hat)
      have n4_ := Aside0.mk (hb)
      have n5_ := Aside0.mk (ho)
      clear BK527 BK528 HO533 HO542 HB HO536
      have BK527 := n0_
      have BK528 := n1_
      have HO533 := n2_
      have HO542 := n3_
      have HB := n4_
      have HO539 := n5_
      clear n0_ n1_ n2_ n3_ n4_ n5_ ho hb hg hat
      refine hK.out _ _ ⟨(blk_cell BK527.out 0).trans rfl, (blk_cell BK527.out 1).trans rfl, (blk_cell BK527.out 2).trans rfl, (blk_cell BK527.out 3).trans rfl, (blk_cell BK527.out 4).trans rfl⟩ (fun hHeld => ?_)
      clear hK K
      refine norm_ (a' := ?_) ?_ ?_
      rotate_left
      ·show Act.put _ (some 9) _ = _
       simp only [Act.put, List.setIfInBounds_toArray, List.set_cons_zero, List.set_cons_succ, i64_w, i32_w]
       rfl
      exact norm_ (by first | (simp only [putAll, Act.put, List.setIfInBounds_toArray, List.set_cons_zero, List.set_cons_succ]; done) | (simp only [putAll, Act.put, List.setIfInBounds_toArray, List.set_cons_zero, List.set_cons_succ]; rfl)) (hJ2_3_6_7 (v532, v535, v538, v541) _ ⟨hHeld, (rq HO533), (rq HO539), (by (with_reducible repeat (first | apply Kd.R_alloc | apply Kd.R_drewN | apply Kd.R_drew)); exact Kd.R_mono HO542.out (fun _ hk => hk.2)), (zq BK527), (zq BK528), bq⟩)
    ·skip
     rintro ⟨v532, v535, v538⟩ w12 ⟨hS_, h0_, h1_, h2_, h3_, h4_⟩
     have n0_ : Aside0 (Kd.R k58 58 w12 w.heap.size (fun _ => True) v532 t531) := ⟨h0_⟩
     have n1_ : Aside0 (Kd.R k60 60 w12 w.heap.size (fun _ => True) v538 y537) := ⟨h1_⟩
     have n2_ : Aside0 (w12.heap[gb527]? = some (.cells #[.int .i64 a0_0, .int .i64 a0_1, .slice A0_2 l0_2.length c0_2, .slice A0_3 l0_3.length c0_3, .slice A0_4 l0_4.length c0_4] 35 (0, 0))) := ⟨h2_⟩
     have n3_ : Aside0 (w12.heap[gb528]? = some (.cells #[.int .i64 0, .int .i64 0, .slice none 0 0, .slice none 0 0, .slice none 0 0] 35 (0, 0))) := ⟨h3_⟩
     have n4_ : Aside0 (Below w.heap.size w w12) := ⟨h4_⟩
     clear BK527 BK528 HB h0_ h1_ h2_ h3_ h4_
     have HO533 := n0_
     have HO539 := n1_
     have BK527 := n2_
     have BK528 := n3_
     have HB := n4_
     clear n0_ n1_ n2_ n3_ n4_
     have hHeld : w12.cell? ⟨gb527, 0, none⟩ = some (.int .i64 a0_0) ∧ w12.cell? ⟨gb527, 1, none⟩ = some (.int .i64 a0_1) ∧ w12.cell? ⟨gb527, 2, none⟩ = some (.slice A0_2 l0_2.length c0_2) ∧ w12.cell? ⟨gb527, 3, none⟩ = some (.slice A0_3 l0_3.length c0_3) ∧ w12.cell? ⟨gb527, 4, none⟩ = some (.slice A0_4 l0_4.length c0_4) := hS_
     refine norm_ (a' := ?_) ?_ ?_
     rotate_left
     ·simp only [putAll, Act.put, List.setIfInBounds_toArray, List.set_cons_zero, List.set_cons_succ]
      rfl
     refine one_ (i := 7) (N := some 10) #[true, true, true, true, true, true, true, true, true, true, false, false, false] rfl rfl (one_of HT_.out (by kernel_rfl)) (by decide) (fun K hK => ?_)
     refine Kd.R_lit_step k60 _ 60 ?hg (N := 10) ?hd (xs := ([] : List (S60))) (inner := []) (ok := fun _ => True) (okp := fun _ => True) ?hr ?hp (fun _ hk => hk) trivial (Below.refl _ _) (Nat.le_refl _) (by simp) ?_; (case hd => rfl); (case hg => rfl); (case hr => first | (go_simp; done) | (go_simp; rfl)); (case hp => exact (Reps.none _ _))
     intro v541 w13 ho14 hb hg_ hnew_
     clear hg_ hnew_
     (first | rw [← Ny540.out] at ho14 | (simp only [Int.reduceToNat] at ho14; rw [← Ny540.out] at ho14))
     replace HO533 := rb HO533 hb
     have HO542 := Aside0.mk (Kd.R_lower (Kd.R_new' ho14 (Kd.R_lt (rq HO539))) (below_size bq))
     replace HO539 := Aside0.mk (Kd.R_elder' (rq HO539) (Kd.R_base ho14) hb)
     replace BK527 := zb BK527 hb
     replace BK528 := zb BK528 hb
     replace HB := sb hb
     clear hb ho14
     refine hK.out _ _ ⟨(blk_cell BK527.out 0).trans rfl, (blk_cell BK527.out 1).trans rfl, (blk_cell BK527.out 2).trans rfl, (blk_cell BK527.out 3).trans rfl, (blk_cell BK527.out 4).trans rfl⟩ (fun hHeld => ?_)
     clear hK K
     refine norm_ (a' := ?_) ?_ ?_
     rotate_left
     ·show Act.put _ (some 10) _ = _
      simp only [Act.put, List.setIfInBounds_toArray, List.set_cons_zero, List.set_cons_succ, i64_w, i32_w]
      rfl
     exact norm_ (by first | (simp only [putAll, Act.put, List.setIfInBounds_toArray, List.set_cons_zero, List.set_cons_succ]; done) | (simp only [putAll, Act.put, List.setIfInBounds_toArray, List.set_cons_zero, List.set_cons_succ]; rfl)) (hJ2_3_6_7 (v532, v535, v538, v541) _ ⟨hHeld, (rq HO533), (by (with_reducible repeat (first | apply Kd.R_alloc | apply Kd.R_drewN | apply Kd.R_drew)); exact Kd.R_mono HO539.out (fun _ hk => hk.2)), (by (with_reducible repeat (first | apply Kd.R_alloc | apply Kd.R_drewN | apply Kd.R_drew)); exact Kd.R_mono HO542.out (fun _ hk => hk.2)), (zq BK527), (zq BK528), bq⟩)
   rintro ⟨v532, v535, v538, v541⟩ w14 ⟨hS_, h0_, h1_, h2_, h3_, h4_, h5_⟩
   have n0_ : Aside0 (Kd.R k58 58 w14 w.heap.size (fun _ => True) v532 t531) := ⟨h0_⟩
   have n1_ : Aside0 (Kd.R k60 60 w14 w.heap.size (fun k_ => some k_ ≠ (v541 : Value).ownBlock) v538 y537) := ⟨h1_⟩
   have n2_ : Aside0 (Kd.R k60 60 w14 w.heap.size (fun k_ => some k_ ≠ (v538 : Value).ownBlock) v541 y540) := ⟨h2_⟩
   have n3_ : Aside0 (w14.heap[gb527]? = some (.cells #[.int .i64 a0_0, .int .i64 a0_1, .slice A0_2 l0_2.length c0_2, .slice A0_3 l0_3.length c0_3, .slice A0_4 l0_4.length c0_4] 35 (0, 0))) := ⟨h3_⟩
   have n4_ : Aside0 (w14.heap[gb528]? = some (.cells #[.int .i64 0, .int .i64 0, .slice none 0 0, .slice none 0 0, .slice none 0 0] 35 (0, 0))) := ⟨h4_⟩
   have n5_ : Aside0 (Below w.heap.size w w14) := ⟨h5_⟩
   clear BK527 BK528 HB h0_ h1_ h2_ h3_ h4_ h5_
   have HO533 := n0_
   have HO539 := n1_
   have HO542 := n2_
   have BK527 := n3_
   have BK528 := n4_
   have HB := n5_
   clear n0_ n1_ n2_ n3_ n4_ n5_
   have hHeld : w14.cell? ⟨gb527, 0, none⟩ = some (.int .i64 a0_0) ∧ w14.cell? ⟨gb527, 1, none⟩ = some (.int .i64 a0_1) ∧ w14.cell? ⟨gb527, 2, none⟩ = some (.slice A0_2 l0_2.length c0_2) ∧ w14.cell? ⟨gb527, 3, none⟩ = some (.slice A0_3 l0_3.length c0_3) ∧ w14.cell? ⟨gb527, 4, none⟩ = some (.slice A0_4 l0_4.length c0_4) := hS_
   refine norm_ (a' := ?_) ?_ ?_
   rotate_left
   ·simp only [putAll, Act.put, List.setIfInBounds_toArray, List.set_cons_zero, List.set_cons_succ]
    rfl
   refine one_ (i := 10) (N := some 13) #[true, true, true, true, true, true, true, true, true, true, true, false, false] rfl rfl (one_of HT_.out (by kernel_rfl)) (by decide) (fun K hK => ?_)
   refine Kd.R_append_rows_step k60 (w0 := w) w.heap.size (by rfl) (.tmp 10) (.tmp 12) 33 60 (.agg #[(.int .i64 0), (.int .i64 0), (.int .i64 0), (.int .i64 0), (.int .i64 0)]) 40 rfl Try.underlying33 info60 rfl (by decide) (by omega) v541 y540 l0_4 _ _ _ (fun k_ => some k_ ≠ (v538 : Value).ownBlock) (fun _ => False) rfl rfl ?aO ?aR (fun _ _ h => h) (fun _ h => h.elim) ?aF ?aB ?aS ?aL ?_
   (case aR => repeat (first | exact (Kd.C_below HR0_4.out HB.out) | (with_reducible refine Kd.C_alloc ?_ _) | (with_reducible refine Kd.C_drewN ?_ _) | (with_reducible refine Kd.C_drew ?_)))
   (case aB => exact bq)
   (case aF => exact (fun k_ hk => Kd.fresh' (Kd.R_lt (rq HO539)) k_ hk))
   (case aO => exact (rq HO542))
   (case aS => exact (below_size bq))
   (case aL => have := LMc4.out; omega)
   intro v544 w15 ho hb hg hat
   rw [← Ny543.out] at ho
   have n0_ := Aside0.mk (blk_grown (g := gb527) (o := .cells #[.int .i64 a0_0, .int .i64 a0_1, .slice A0_2 l0_2.length c0_2, .slice A0_3 l0_3.length c0_3, .slice A0_4 l0_4.length c0_4] 35 (0, 0)) (zq BK527) hg (Kd.R_ne HO542.out BK527.out (by decide)))
   have n1_ := Aside0.mk (blk_grown (g := gb528) (o := .cells #[.int .i64 0, .int .i64 0, .slice none 0 0, .slice none 0 0, .slice none 0 0] 35 (0, 0)) (zq BK528) hg (Kd.R_ne HO542.out BK528.out (by decide)))
   have n2_ := Aside0.mk (Kd.R_over' (rq HO533) (Kd.R_typed (rq HO542)) (by decide) hg)
   have n3_ := Aside0.mk (Kd.R_after (ok := (fun _ => True)) (by (with_reducible repeat (first | apply Kd.R_alloc | apply Kd.R_drewN | apply Kd.R_drew)); exact Kd.R_mono HO539.out (fun _ hk => ⟨trivial, hk⟩)) hg hat)
   have n4_ := Aside0.mk (hb)
   have n5_ := Aside0.mk (ho)
   clear BK527 BK528 HO533 HO539 HB HO542
   have BK527 := n0_
   have BK528 := n1_
   have HO533 := n2_
   have HO539 := n3_
   have HB := n4_
   have HO545 := n5_
   clear n0_ n1_ n2_ n3_ n4_ n5_ ho hb hg hat
   obtain ⟨Ao16, co16, eo16⟩ := Kd.R_slice HO545.out
   (first | subst eo16 | (injection eo16 with f1_ f2_ f3_; have f4_ := f1_.symm; have f5_ := f3_.symm; clear f1_ f2_ f3_; subst f4_; subst f5_))
   obtain ⟨Ao17, co17, eo17⟩ := Kd.R_slice HO539.out
   (first | subst eo17 | (injection eo17 with f1_ f2_ f3_; have f4_ := f1_.symm; have f5_ := f3_.symm; clear f1_ f2_ f3_; subst f4_; subst f5_))
   obtain ⟨Ao18, co18, eo18⟩ := Kd.R_slice HO533.out
   (first | subst eo18 | (injection eo18 with f1_ f2_ f3_; have f4_ := f1_.symm; have f5_ := f3_.symm; clear f1_ f2_ f3_; subst f4_; subst f5_))
   refine hK.out _ _ ⟨(blk_cell BK527.out 0).trans rfl, (blk_cell BK527.out 1).trans rfl, (blk_cell BK527.out 2).trans rfl, (blk_cell BK527.out 3).trans rfl, (blk_cell BK527.out 4).trans rfl⟩ (fun hHeld => ?_)
   clear hK K
   refine norm_ (a' := ?_) ?_ ?_
   rotate_left
   ·show Act.put _ (some 13) _ = _
    simp only [Act.put, List.setIfInBounds_toArray, List.set_cons_zero, List.set_cons_succ, i64_w, i32_w]
    rfl
   refine pure_ (i := 11) (N := some 14) (v := ?_) (a' := ?_) #[true, true, true, true, true, true, true, true, true, true, true, true, false] rfl rfl (any_of HT_.out (by kernel_rfl)) (fun _ _ _ h => h) (Or.inl ⟨by rfl, ?_⟩) ?_ ?_
   rotate_left
   ·intro w'
    go_simp
    with_reducible rfl
   rotate_left
   ·simp only [Act.put, List.setIfInBounds_toArray, List.set_cons_zero, List.set_cons_succ, i64_w, i32_w]
    rfl
   refine one_ (i := 12) (N := none) #[true, true, true, true, true, true, true, true, true, true, true, true, true] rfl rfl (one_of HT_.out (by kernel_rfl)) (by decide) (fun K hK => ?_)
   have hs19 : w15.cell? ⟨gb528, 0, none⟩ = some (.int .i64 0) := (blk_cell BK528.out 0).trans rfl
   have hfs19 := blk_frozen BK528.out 0
   have hns19_0 := NB527_528.out
   have hms19_0 := NB528_527.out
   have hs20 : w15.cell? ⟨gb528, 1, none⟩ = some (.int .i64 0) := (blk_cell BK528.out 1).trans rfl
   have hfs20 := blk_frozen BK528.out 1
   have hns20_0 := NB527_528.out
   have hms20_0 := NB528_527.out
   have hs21 : w15.cell? ⟨gb528, 2, none⟩ = some (.slice none 0 0) := (blk_cell BK528.out 2).trans rfl
   have hfs21 := blk_frozen BK528.out 2
   have hns21_0 := NB527_528.out
   have hms21_0 := NB528_527.out
   have hs22 : w15.cell? ⟨gb528, 3, none⟩ = some (.slice none 0 0) := (blk_cell BK528.out 3).trans rfl
   have hfs22 := blk_frozen BK528.out 3
   have hns22_0 := NB527_528.out
   have hms22_0 := NB528_527.out
   have hs23 : w15.cell? ⟨gb528, 4, none⟩ = some (.slice none 0 0) := (blk_cell BK528.out 4).trans rfl
   have hfs23 := blk_frozen BK528.out 4
   have hns23_0 := NB527_528.out
   have hms23_0 := NB528_527.out
   refine skip_ (w1 := ?_) (by rfl) rfl ?_ ?_
   rotate_left
   ·go_simp
    rfl
   refine hK.out _ _ ⟨((cell_far (p := ⟨gb528, _, none⟩) NB527_528.out _).trans (((cell_far (p := ⟨gb528, _, none⟩) NB527_528.out _).trans (((cell_far (p := ⟨gb528, _, none⟩) NB527_528.out _).trans (((cell_far (p := ⟨gb528, _, none⟩) NB527_528.out _).trans (((cell_far (p := ⟨gb528, _, none⟩) NB527_528.out _).trans (hHeld.1)))))))))), ((cell_far (p := ⟨gb528, _, none⟩) NB527_528.out _).trans (((cell_far (p := ⟨gb528, _, none⟩) NB527_528.out _).trans (((cell_far (p := ⟨gb528, _, none⟩) NB527_528.out _).trans (((cell_far (p := ⟨gb528, _, none⟩) NB527_528.out _).trans (((cell_far (p := ⟨gb528, _, none⟩) NB527_528.out _).trans (hHeld.2.1)))))))))), ((cell_far (p := ⟨gb528, _, none⟩) NB527_528.out _).trans (((cell_far (p := ⟨gb528, _, none⟩) NB527_528.out _).trans (((cell_far (p := ⟨gb528, _, none⟩) NB527_528.out _).trans (((cell_far (p := ⟨gb528, _, none⟩) NB527_528.out _).trans (((cell_far (p := ⟨gb528, _, none⟩) NB527_528.out _).trans (hHeld.2.2.1)))))))))), ((cell_far (p := ⟨gb528, _, none⟩) NB527_528.out _).trans (((cell_far (p := ⟨gb528, _, none⟩) NB527_528.out _).trans (((cell_far (p := ⟨gb528, _, none⟩) NB527_528.out _).trans (((cell_far (p := ⟨gb528, _, none⟩) NB527_528.out _).trans (((cell_far (p := ⟨gb528, _, none⟩) NB527_528.out _).trans (hHeld.2.2.2.1)))))))))), ((cell_far (p := ⟨gb528, _, none⟩) NB527_528.out _).trans (((cell_far (p := ⟨gb528, _, none⟩) NB527_528.out _).trans (((cell_far (p := ⟨gb528, _, none⟩) NB527_528.out _).trans (((cell_far (p := ⟨gb528, _, none⟩) NB527_528.out _).trans (((cell_far (p := ⟨gb528, _, none⟩) NB527_528.out _).trans (hHeld.2.2.2.2))))))))))⟩ (fun hHeld => ?_)
   clear hK K
   refine done_ (done_of HT_.out (by kernel_rfl)) ?_
   try go_wp2
   refine bodyPost_ret (results_cell_row rfl _ _ gb528 35 #[.int .i64 t529, .int .i64 t530, .slice Ao18 t531.length co18, .slice Ao17 y537.length co17, .slice Ao16 y543.length co16] (0, 0) _ rfl (by (with_reducible repeat (first | refine blk_drewN ?_ _ | refine blk_drew ?_ | refine blk_alloc ?_ _)); refine blk_put (cs := #[.int .i64 t529, .int .i64 t530, .slice Ao18 t531.length co18, .slice Ao17 y537.length co17, .slice none 0 0]) ?_ 4 _ rfl; (with_reducible repeat (first | refine blk_drewN ?_ _ | refine blk_drew ?_ | refine blk_alloc ?_ _)); refine blk_put (cs := #[.int .i64 t529, .int .i64 t530, .slice Ao18 t531.length co18, .slice none 0 0, .slice none 0 0]) ?_ 3 _ rfl; (with_reducible repeat (first | refine blk_drewN ?_ _ | refine blk_drew ?_ | refine blk_alloc ?_ _)); refine blk_put (cs := #[.int .i64 t529, .int .i64 t530, .slice none 0 0, .slice none 0 0, .slice none 0 0]) ?_ 2 _ rfl; (with_reducible repeat (first | refine blk_drewN ?_ _ | refine blk_drew ?_ | refine blk_alloc ?_ _)); refine blk_put (cs := #[.int .i64 t529, .int .i64 0, .slice none 0 0, .slice none 0 0, .slice none 0 0]) ?_ 1 _ rfl; (with_reducible repeat (first | refine blk_drewN ?_ _ | refine blk_drew ?_ | refine blk_alloc ?_ _)); refine blk_put (cs := #[.int .i64 0, .int .i64 0, .slice none 0 0, .slice none 0 0, .slice none 0 0]) ?_ 0 _ rfl; (with_reducible repeat (first | refine blk_drewN ?_ _ | refine blk_drew ?_ | refine blk_alloc ?_ _)); exact BK528.out) Try.underlying35 rfl (by kernel_rfl)) rfl ?_
   exact ⟨_, _, _, eq_, by (with_reducible repeat (first | apply Kd.R_alloc | apply Kd.R_drewN | apply Kd.R_drew)); exact Kd.R_mono (Kd.R_far (p := ⟨gb528, 4, none⟩) (Kd.R_far (p := ⟨gb528, 3, none⟩) (Kd.R_far (p := ⟨gb528, 2, none⟩) (Kd.R_far (p := ⟨gb528, 1, none⟩) (Kd.R_far (p := ⟨gb528, 0, none⟩) (Kd.R_types HO533.out BK528.out (by decide)) (fun _ hk => hk.2) (.int .i64 t529)) (fun _ hk => hk.2) (.int .i64 t530)) (fun _ hk => hk.2) (.slice Ao18 t531.length co18)) (fun _ hk => hk.2) (.slice Ao17 y537.length co17)) (fun _ hk => hk.2) (.slice Ao16 y543.length co16)) (fun _ hk => trivial), by (with_reducible repeat (first | apply Kd.R_alloc | apply Kd.R_drewN | apply Kd.R_drew)); exact Kd.R_mono (Kd.R_far (p := ⟨gb528, 4, none⟩) (Kd.R_far (p := ⟨gb528, 3, none⟩) (Kd.R_far (p := ⟨gb528, 2, none⟩) (Kd.R_far (p := ⟨gb528, 1, none⟩) (Kd.R_far (p := ⟨gb528, 0, none⟩) (Kd.R_types HO539.out BK528.out (by decide)) (fun _ hk => hk.2) (.int .i64 t529)) (fun _ hk => hk.2) (.int .i64 t530)) (fun _ hk => hk.2) (.slice Ao18 t531.length co18)) (fun _ hk => hk.2) (.slice Ao17 y537.length co17)) (fun _ hk => hk.2) (.slice Ao16 y543.length co16)) (fun _ hk => hk.1.2), by (with_reducible repeat (first | apply Kd.R_alloc | apply Kd.R_drewN | apply Kd.R_drew)); exact Kd.R_mono (Kd.R_far (p := ⟨gb528, 4, none⟩) (Kd.R_far (p := ⟨gb528, 3, none⟩) (Kd.R_far (p := ⟨gb528, 2, none⟩) (Kd.R_far (p := ⟨gb528, 1, none⟩) (Kd.R_far (p := ⟨gb528, 0, none⟩) (Kd.R_types HO545.out BK528.out (by decide)) (fun _ hk => hk.2) (.int .i64 t529)) (fun _ hk => hk.2) (.int .i64 t530)) (fun _ hk => hk.2) (.slice Ao18 t531.length co18)) (fun _ hk => hk.2) (.slice Ao17 y537.length co17)) (fun _ hk => hk.2) (.slice Ao16 y543.length co16)) (fun _ hk => hk.1), bq⟩
  ·rw [if_neg c4] at H
   exact absurd H (by simp)
 ·rw [if_neg c3] at H
  exact absurd H (by simp)



/-! ### impl_RedoAct: function 33 -/
def impl_RedoAct.f (k : Nat) (a0_0 : Int) (a0_1 : Int) (l0_2 : List (S58)) (l0_3 : List (S60)) (l0_4 : List (S60)) : Option (Int × Int × (List (S58)) × (List (S60)) × (List (S60)) × Bool) := (impl_IsSession.f k a0_0 a0_1 l0_2 l0_3 l0_4).bind fun t693 => (if t693 = true then (if (l0_4.length : Int) = 0 then (some (0, 0, ([] : List (S58)), ([] : List (S60)), ([] : List (S60)), false)) else ((impl_copySession.f a0_0 a0_1 l0_2 l0_3 l0_4).bind fun bt694 => (if 0 ≤ (wrap64 ((bt694.2.2.2.2.length : Int) - 1)) then (if (wrap64 ((bt694.2.2.2.2.length : Int) - 1)) < (bt694.2.2.2.2.length : Int) then (if bt694.2.2.2.1.length < 3518437208883 then (if (wrap64 ((bt694.2.2.2.2.length : Int) - 1)) ≤ (bt694.2.2.2.2.length : Int) then (some (bt694.1, bt694.2.1, bt694.2.2.1, (bt694.2.2.2.1 ++ [(⟨(rd_T60 bt694.2.2.2.2 (wrap64 ((bt694.2.2.2.2.length : Int) - 1))).f0, (rd_T60 bt694.2.2.2.2 (wrap64 ((bt694.2.2.2.2.length : Int) - 1))).f1, (rd_T60 bt694.2.2.2.2 (wrap64 ((bt694.2.2.2.2.length : Int) - 1))).f2, (⟨(rd_T60 bt694.2.2.2.2 (wrap64 ((bt694.2.2.2.2.length : Int) - 1))).f3.f0, (rd_T60 bt694.2.2.2.2 (wrap64 ((bt694.2.2.2.2.length : Int) - 1))).f3.f1⟩ : S58)⟩ : S60)]), (bt694.2.2.2.2.take ((wrap64 ((bt694.2.2.2.2.length : Int) - 1)) : Int).toNat), true)) else (none)) else (none)) else (none)) else (none)))) else (some (0, 0, ([] : List (S58)), ([] : List (S60)), ([] : List (S60)), false)))
theorem impl_RedoAct.mono : ∀ a0 a1 a2 a3 a4 k, LeO (impl_RedoAct.f k a0 a1 a2 a3 a4) (impl_RedoAct.f (k + 1) a0 a1 a2 a3 a4) := by
 intro a0 a1 a2 a3 a4 k
 unfold impl_RedoAct.f
 repeat' first
   | (with_reducible exact impl_IsSession.mono _ _ _ _ _ _)
   | (with_reducible exact LeO.refl _)
   | (with_reducible exact LeO.none _)
   | (with_reducible refine LeO.ite ?_ ?_)
   | (with_reducible refine LeO.bind ?_ (fun _ => ?_))
   | exact impl_IsSession.mono _ _ _ _ _ _
   | exact LeO.none _
   | refine LeO.ite ?_ ?_
   | refine LeO.bind ?_ (fun _ => ?_)
def impl_RedoAct.T5 : Bool × List (List Nat × List Nat) := (true, [([], []), ([0], [0]), ([], []), ([2], [2]), ([], []), ([3, 4], [3, 4]), ([5], [5]), ([6], [6]), ([1, 7], [1, 7]), ([0, 1, 2, 3, 4, 5, 6, 7, 8], []), ([9, 8, 8, 0, 1, 2, 3, 4, 5, 6, 7, 8], [8, 9])])
def impl_RedoAct.B5 : List Nat := [0, 1, 0, 4, 0, 28, 60, 124, 255, 511, 1023]
theorem impl_RedoAct.tab5 : rtab .any (opsOf Try.f33 5) = impl_RedoAct.T5 := by kernel_rfl
theorem impl_RedoAct.bits5 : waitsOk impl_RedoAct.T5.2 impl_RedoAct.B5 = true := by kernel_rfl
set_option maxHeartbeats 8000000 in
set_option maxRecDepth 100000 in
theorem impl_RedoAct.calls (k : Nat) (a0_0 : Int) (a0_1 : Int) (A0_2 : Option Addr) (c0_2 : Nat) (l0_2 : List (S58)) (A0_3 : Option Addr) (c0_3 : Nat) (l0_3 : List (S60)) (A0_4 : Option Addr) (c0_4 : Nat) (l0_4 : List (S60)) (r1 : Int) (r2 : Int) (r3 : List (S58)) (r4 : List (S60)) (r5 : List (S60)) (r6 : Bool) (w : World) (hr0_2 : Kd.C k58 w A0_2 l0_2.length l0_2) (hc0_2 : l0_2.length ≤ c0_2) (hr0_3 : Kd.C k60 w A0_3 l0_3.length l0_3) (hc0_3 : l0_3.length ≤ c0_3) (hr0_4 : Kd.C k60 w A0_4 l0_4.length l0_4) (hc0_4 : l0_4.length ≤ c0_4) (h : impl_RedoAct.f k a0_0 a0_1 l0_2 l0_3 l0_4 = some (r1, r2, r3, r4, r5, r6)) :
  Calls Try.prog 33 #[.agg #[.int .i64 a0_0, .int .i64 a0_1, .slice A0_2 l0_2.length c0_2, .slice A0_3 l0_3.length c0_3, .slice A0_4 l0_4.length c0_4]] w fun e w' => ∃ v2_ v3_ v4_ : Value, e = .returned (.tuple #[.agg #[.int .i64 r1, .int .i64 r2, v2_, v3_, v4_], .bool r6]) ∧ Kd.R k58 58 w' w.heap.size (fun _ => True) v2_ r3 ∧ Kd.R k60 60 w' w.heap.size (fun k_ => some k_ ≠ (v4_ : Value).ownBlock) v3_ r4 ∧ Kd.R k60 60 w' w.heap.size (fun k_ => some k_ ≠ (v3_ : Value).ownBlock) v4_ r5 ∧ Below w.heap.size w w' := by
 have hu35 := Try.underlying35
 have hu60 := Try.underlying60
 have HR0_2 := Aside0.mk hr0_2
 have HC0_2 := Aside0.mk hc0_2
 clear hr0_2 hc0_2
 have HR0_3 := Aside0.mk hr0_3
 have HC0_3 := Aside0.mk hc0_3
 clear hr0_3 hc0_3
 have HR0_4 := Aside0.mk hr0_4
 have HC0_4 := Aside0.mk hc0_4
 clear hr0_4 hc0_4
 have HB := Aside0.mk (Below.refl w.heap.size w)
 have H : ((impl_IsSession.f k a0_0 a0_1 l0_2 l0_3 l0_4).bind fun t693 => (if t693 = true then (if (l0_4.length : Int) = 0 then (some (0, 0, ([] : List (S58)), ([] : List (S60)), ([] : List (S60)), false)) else ((impl_copySession.f a0_0 a0_1 l0_2 l0_3 l0_4).bind fun bt694 => (if 0 ≤ (wrap64 ((bt694.2.2.2.2.length : Int) - 1)) then (if (wrap64 ((bt694.2.2.2.2.length : Int) - 1)) < (bt694.2.2.2.2.length : Int) then (if bt694.2.2.2.1.length < 3518437208883 then (if (wrap64 ((bt694.2.2.2.2.length : Int) - 1)) ≤ (bt694.2.2.2.2.length : Int) then (some (bt694.1, bt694.2.1, bt694.2.2.1, (bt694.2.2.2.1 ++ [(⟨(rd_T60 bt694.2.2.2.2 (wrap64 ((bt694.2.2.2.2.length : Int) - 1))).f0, (rd_T60 bt694.2.2.2.2 (wrap64 ((bt694.2.2.2.2.length : Int) - 1))).f1, (rd_T60 bt694.2.2.2.2 (wrap64 ((bt694.2.2.2.2.length : Int) - 1))).f2, (⟨(rd_T60 bt694.2.2.2.2 (wrap64 ((bt694.2.2.2.2.length : Int) - 1))).f3.f0, (rd_T60 bt694.2.2.2.2 (wrap64 ((bt694.2.2.2.2.length : Int) - 1))).f3.f1⟩ : S58)⟩ : S60)]), (bt694.2.2.2.2.take ((wrap64 ((bt694.2.2.2.2.length : Int) - 1)) : Int).toNat), true)) else (none)) else (none)) else (none)) else (none)))) else (some (0, 0, ([] : List (S58)), ([] : List (S60)), ([] : List (S60)), false)))) = some (r1, r2, r3, r4, r5, r6) := h
 clear h
 replace H := Option.bind_eq_some_iff.mp H
 obtain ⟨t693, A20, H⟩ := H
 replace H : (if t693 = true then (if (l0_4.length : Int) = 0 then (some (0, 0, ([] : List (S58)), ([] : List (S60)), ([] : List (S60)), false)) else ((impl_copySession.f a0_0 a0_1 l0_2 l0_3 l0_4).bind fun bt694 => (if 0 ≤ (wrap64 ((bt694.2.2.2.2.length : Int) - 1)) then (if (wrap64 ((bt694.2.2.2.2.length : Int) - 1)) < (bt694.2.2.2.2.length : Int) then (if bt694.2.2.2.1.length < 3518437208883 then (if (wrap64 ((bt694.2.2.2.2.length : Int) - 1)) ≤ (bt694.2.2.2.2.length : Int) then (some (bt694.1, bt694.2.1, bt694.2.2.1, (bt694.2.2.2.1 ++ [(⟨(rd_T60 bt694.2.2.2.2 (wrap64 ((bt694.2.2.2.2.length : Int) - 1))).f0, (rd_T60 bt694.2.2.2.2 (wrap64 ((bt694.2.2.2.2.length : Int) - 1))).f1, (rd_T60 bt694.2.2.2.2 (wrap64 ((bt694.2.2.2.2.length : Int) - 1))).f2, (⟨(rd_T60 bt694.2.2.2.2 (wrap64 ((bt694.2.2.2.2.length : Int) - 1))).f3.f0, (rd_T60 bt694.2.2.2.2 (wrap64 ((bt694.2.2.2.2.length : Int) - 1))).f3.f1⟩ : S58)⟩ : S60)]), (bt694.2.2.2.2.take ((wrap64 ((bt694.2.2.2.2.length : Int) - 1)) : Int).toNat), true)) else (none)) else (none)) else (none)) else (none)))) else (some (0, 0, ([] : List (S58)), ([] : List (S60)), ([] : List (S60)), false))) = some (r1, r2, r3, r4, r5, r6) := H
 have A2 := Aside0.mk A20
 clear A20
 by_cases c3 : t693 = true
 ·subst c3
  have H1 : (if (l0_4.length : Int) = 0 then (some (0, 0, ([] : List (S58)), ([] : List (S60)), ([] : List (S60)), false)) else ((impl_copySession.f a0_0 a0_1 l0_2 l0_3 l0_4).bind fun bt694 => (if 0 ≤ (wrap64 ((bt694.2.2.2.2.length : Int) - 1)) then (if (wrap64 ((bt694.2.2.2.2.length : Int) - 1)) < (bt694.2.2.2.2.length : Int) then (if bt694.2.2.2.1.length < 3518437208883 then (if (wrap64 ((bt694.2.2.2.2.length : Int) - 1)) ≤ (bt694.2.2.2.2.length : Int) then (some (bt694.1, bt694.2.1, bt694.2.2.1, (bt694.2.2.2.1 ++ [(⟨(rd_T60 bt694.2.2.2.2 (wrap64 ((bt694.2.2.2.2.length : Int) - 1))).f0, (rd_T60 bt694.2.2.2.2 (wrap64 ((bt694.2.2.2.2.length : Int) - 1))).f1, (rd_T60 bt694.2.2.2.2 (wrap64 ((bt694.2.2.2.2.length : Int) - 1))).f2, (⟨(rd_T60 bt694.2.2.2.2 (wrap64 ((bt694.2.2.2.2.length : Int) - 1))).f3.f0, (rd_T60 bt694.2.2.2.2 (wrap64 ((bt694.2.2.2.2.length : Int) - 1))).f3.f1⟩ : S58)⟩ : S60)]), (bt694.2.2.2.2.take ((wrap64 ((bt694.2.2.2.2.length : Int) - 1)) : Int).toNat), true)) else (none)) else (none)) else (none)) else (none)))) = some (r1, r2, r3, r4, r5, r6) := by rw [if_pos rfl] at H; exact H
  clear H
  have H := H1
  clear H1
  by_cases c4 : (l0_4.length : Int) = 0
  ·rw [if_pos c4] at H
   have c4b0 : ((l0_4.length : Int) == 0) = true := beq_iff_eq.mpr c4
   have c4b1 : ((l0_4.length : Int) != 0) = false := bne_eq_false_iff_eq.mpr c4
   clear c4
   simp only [Option.some.injEq, Prod.mk.injEq] at H
   obtain ⟨rfl, rfl, rfl, rfl, rfl, rfl⟩ := H
   go_enter Try.func33, Try.ntmps33
   go_wp2_with (first | ((with_reducible refine gate_dst (N := 1) rfl ?_); (try (refine gate_guard (by rfl) ?_; dsimp only)); refine box_event ?hg (N := 1) ?hd (cs := #[.int .i64 a0_0, .int .i64 a0_1, .slice A0_2 l0_2.length c0_2, .slice A0_3 l0_3.length c0_3, .slice A0_4 l0_4.length c0_4]) (t := 35) ?hr ?_; (case hd => rfl); (case hg => rfl); (case hr => first | (go_simp; done) | (go_simp; rfl)); intro gb691 hg w5 hbox hb; have BK691 := Aside0.mk (hbox); have GE691 := Aside0.mk (gq hg); replace HB := sb hb; clear hb hbox hg) | ((with_reducible refine gate_dst (N := 2) rfl ?_); (try (refine gate_guard (by rfl) ?_; dsimp only)); refine box_event ?hg (N := 2) ?hd (cs := #[.int .i64 0, .int .i64 0, .slice none 0 0, .slice none 0 0, .slice none 0 0]) (t := 35) ?hr ?_; (case hd => rfl); (case hg => rfl); (case hr => first | (go_simp; done) | (go_simp; rfl)); intro gb692 hg w6 hbox hb; have BK692 := Aside0.mk (hbox); have GE692 := Aside0.mk (gq hg); replace HB := sb hb; have NB691_692 := nl hg BK691; have NB692_691 := ng hg BK691; replace BK691 := zb BK691 hb; clear hb hbox hg; have hnb7 := NB691_692.out; have hnc7 := NB692_691.out; have ⟨hcz8_0, hcz8_1, hcz8_2, hcz8_3, hcz8_4, hfz8_0, hfz8_1, hfz8_2, hfz8_3, hfz8_4⟩ := bc5 BK691) | ((with_reducible refine gate_callee (f := 17) rfl ?_); refine goesQ (some 7) Try.func17 #[.agg #[.int .i64 a0_0, .int .i64 a0_1, .slice A0_2 l0_2.length c0_2, .slice A0_3 l0_3.length c0_3, .slice A0_4 l0_4.length c0_4]] ?_; (with_reducible refine (impl_IsSession.calls k a0_0 a0_1 _ _ l0_2 (fun k_ => k_ < w.heap.size) _ _ l0_3 (fun k_ => k_ < w.heap.size) _ _ l0_4 true _ ?s1 ?s2 ?s3 ?s4 A2.out).mono ?_); (case s1 => exact cq (Kd.C_below HR0_2.out HB.out)); (case s2 => exact HC0_2.out); (case s3 => exact Kd.V_mk HC0_3.out (Kd.F_below (Kd.C_F k60_heap HR0_3.out) bq)); (case s4 => exact Kd.V_mk HC0_4.out (Kd.F_below (Kd.C_F k60_heap HR0_4.out) bq)); rintro e w9 ⟨rfl, hb⟩; refine ⟨_, rfl, ?_⟩; replace BK691 := zb BK691 hb; replace BK692 := zb BK692 hb; replace HB := sb hb; (try clear hb); have ⟨hcz10_0, hcz10_1, hcz10_2, hcz10_3, hcz10_4, hfz10_0, hfz10_1, hfz10_2, hfz10_3, hfz10_4⟩ := bc5 BK691; have ⟨hcz11_0, hcz11_1, hcz11_2, hcz11_3, hcz11_4, hfz11_0, hfz11_1, hfz11_2, hfz11_3, hfz11_4⟩ := bc5 BK692))
   refine bodyPost_ret (results_ct rfl _ _ gb692 35 #[.int .i64 0, .int .i64 0, .slice none 0 0, .slice none 0 0, .slice none 0 0] (0, 0) _ rfl (by (with_reducible repeat (first | refine blk_drewN ?_ _ | refine blk_drew ?_ | refine blk_alloc ?_ _)); refine blk_put (cs := #[.int .i64 0, .int .i64 0, .slice none 0 0, .slice none 0 0, .slice none 0 0]) ?_ 4 _ rfl; (with_reducible repeat (first | refine blk_drewN ?_ _ | refine blk_drew ?_ | refine blk_alloc ?_ _)); refine blk_put (cs := #[.int .i64 0, .int .i64 0, .slice none 0 0, .slice none 0 0, .slice none 0 0]) ?_ 3 _ rfl; (with_reducible repeat (first | refine blk_drewN ?_ _ | refine blk_drew ?_ | refine blk_alloc ?_ _)); refine blk_put (cs := #[.int .i64 0, .int .i64 0, .slice none 0 0, .slice none 0 0, .slice none 0 0]) ?_ 2 _ rfl; (with_reducible repeat (first | refine blk_drewN ?_ _ | refine blk_drew ?_ | refine blk_alloc ?_ _)); refine blk_put (cs := #[.int .i64 0, .int .i64 0, .slice none 0 0, .slice none 0 0, .slice none 0 0]) ?_ 1 _ rfl; (with_reducible repeat (first | refine blk_drewN ?_ _ | refine blk_drew ?_ | refine blk_alloc ?_ _)); refine blk_put (cs := #[.int .i64 0, .int .i64 0, .slice none 0 0, .slice none 0 0, .slice none 0 0]) ?_ 0 _ rfl; (with_reducible repeat (first | refine blk_drewN ?_ _ | refine blk_drew ?_ | refine blk_alloc ?_ _)); exact BK692.out) Try.underlying35 rfl (by kernel_rfl)) rfl ?_
   exact ⟨_, _, _, eq_, by first | exact Kd.R_nil _ _ _ _ _ | exact Kd.N_nil _ _ _ _ _ | exact Kd.V_nil _ _ _ _ _ | exact Kd.Q_nil _ _ _ _ _ | exact Kd.S_nil _ _ _ _ _, by first | exact Kd.R_nil _ _ _ _ _ | exact Kd.N_nil _ _ _ _ _ | exact Kd.V_nil _ _ _ _ _ | exact Kd.Q_nil _ _ _ _ _ | exact Kd.S_nil _ _ _ _ _, by first | exact Kd.R_nil _ _ _ _ _ | exact Kd.N_nil _ _ _ _ _ | exact Kd.V_nil _ _ _ _ _ | exact Kd.Q_nil _ _ _ _ _ | exact Kd.S_nil _ _ _ _ _, bq⟩
  ·rw [if_neg c4] at H
   have c4b0 : ((l0_4.length : Int) == 0) = false := beq_eq_false_iff_ne.mpr c4
   have c4b1 : ((l0_4.length : Int) != 0) = true := bne_iff_ne.mpr c4
   have c4b2 : ¬ (l0_4 = []) := fun h_ => c4 (by rw [h_]; rfl)
   replace H := Option.bind_eq_some_iff.mp H
   obtain ⟨⟨t694, t695, t696, t699, t702⟩, A120, H⟩ := H
   replace H : (if 0 ≤ (wrap64 ((t702.length : Int) - 1)) then (if (wrap64 ((t702.length : Int) - 1)) < (t702.length : Int) then (if t699.length < 3518437208883 then (if (wrap64 ((t702.length : Int) - 1)) ≤ (t702.length : Int) then (some (t694, t695, t696, (t699 ++ [(⟨(rd_T60 t702 (wrap64 ((t702.length : Int) - 1))).f0, (rd_T60 t702 (wrap64 ((t702.length : Int) - 1))).f1, (rd_T60 t702 (wrap64 ((t702.length : Int) - 1))).f2, (⟨(rd_T60 t702 (wrap64 ((t702.length : Int) - 1))).f3.f0, (rd_T60 t702 (wrap64 ((t702.length : Int) - 1))).f3.f1⟩ : S58)⟩ : S60)]), (t702.take ((wrap64 ((t702.length : Int) - 1)) : Int).toNat), true)) else (none)) else (none)) else (none)) else (none)) = some (r1, r2, r3, r4, r5, r6) := H
   have A12 := Aside0.mk A120
   clear A120
   obtain ⟨ji13, hji13⟩ : ∃ j_ : Int, (wrap64 ((t702.length : Int) - 1)) = j_ := ⟨_, rfl⟩
   replace H : (if 0 ≤ (ji13) then (if (ji13) < (t702.length : Int) then (if t699.length < 3518437208883 then (if (ji13) ≤ (t702.length : Int) then (some (t694, t695, t696, (t699 ++ [(⟨(rd_T60 t702 (ji13)).f0, (rd_T60 t702 (ji13)).f1, (rd_T60 t702 (ji13)).f2, (⟨(rd_T60 t702 (ji13)).f3.f0, (rd_T60 t702 (ji13)).f3.f1⟩ : S58)⟩ : S60)]), (t702.take ((ji13) : Int).toNat), true)) else (none)) else (none)) else (none)) else (none)) = some (r1, r2, r3, r4, r5, r6) := by first | (rw [hji13] at H; exact H) | (simp only [hji13] at H ⊢; exact H)
   (try rw [hji13] at A2)
   (try rw [hji13] at A12)
   have hji13w : (IntKind.i64.wrap ((t702.length : Int) - 1)) = ji13 := (i64_w _).trans hji13
   by_cases c14 : 0 ≤ (ji13)
   ·rw [if_pos c14] at H
    have c14b0 : decide (0 ≤ (ji13)) = true := decide_eq_true c14
    clear c14
    by_cases c15 : (ji13) < (t702.length : Int)
    ·rw [if_pos c15] at H
     have c15b0 : decide ((ji13) < (t702.length : Int)) = true := decide_eq_true c15
     clear c15
     by_cases c16 : t699.length < 3518437208883
     ·rw [if_pos c16] at H
      have LMc16 := Aside0.mk c16
      clear c16
      obtain ⟨y707, hy707⟩ : ∃ y_ : List (S60), y_ = (t699 ++ [(⟨(rd_T60 t702 (ji13)).f0, (rd_T60 t702 (ji13)).f1, (rd_T60 t702 (ji13)).f2, (⟨(rd_T60 t702 (ji13)).f3.f0, (rd_T60 t702 (ji13)).f3.f1⟩ : S58)⟩ : S60)]) := ⟨_, rfl⟩
      replace H : (if (ji13) ≤ (t702.length : Int) then (some (t694, t695, t696, y707, (t702.take ((ji13) : Int).toNat), true)) else (none)) = some (r1, r2, r3, r4, r5, r6) := by first | (rw [hy707]; with_reducible exact H) | (have H2_ := (Option.bind_some _ _).symm.trans H; rw [hy707]; with_reducible exact H2_) | (have H2_ := (Option.bind_some _ _).symm.trans H; with_reducible exact H2_) | with_reducible exact H | (rw [hy707]; exact H) | exact H
      have Ny707 := Aside0.mk hy707
      clear hy707
      by_cases c17 : (ji13) ≤ (t702.length : Int)
      ·rw [if_pos c17] at H
       have c17b0 := eq_true c17
       have c17b1 : decide ((ji13) ≤ (t702.length : Int)) = true := decide_eq_true c17
       clear c17
       obtain ⟨y710, hy710⟩ : ∃ y_ : List (S60), y_ = (t702.take ((ji13) : Int).toNat) := ⟨_, rfl⟩
       replace H : (some (t694, t695, t696, y707, y710, true)) = some (r1, r2, r3, r4, r5, r6) := by first | (rw [hy710]; with_reducible exact H) | (have H2_ := (Option.bind_some _ _).symm.trans H; rw [hy710]; with_reducible exact H2_) | (have H2_ := (Option.bind_some _ _).symm.trans H; with_reducible exact H2_) | with_reducible exact H | (rw [hy710]; exact H) | exact H
       have Ny710 := Aside0.mk hy710
       clear hy710
       simp only [Option.some.injEq, Prod.mk.injEq] at H
       obtain ⟨rfl, rfl, rfl, rfl, rfl, rfl⟩ := H
       go_enter Try.func33, Try.ntmps33
       try go_wp2_with (first | ((with_reducible refine gate_dst (N := 1) rfl ?_); (try (refine gate_guard (by rfl) ?_; dsimp only)); refine box_event ?hg (N := 1) ?hd (cs := #[.int .i64 a0_0, .int .i64 a0_1, .slice A0_2 l0_2.length c0_2, .slice A0_3 l0_3.length c0_3, .slice A0_4 l0_4.length c0_4]) (t := 35) ?hr ?_; (case hd => rfl); (case hg => rfl); (case hr => first | (go_simp; done) | (go_simp; rfl)); intro gb691 hg w18 hbox hb; have BK691 := Aside0.mk (hbox); have GE691 := Aside0.mk (gq hg); replace HB := sb hb; clear hb hbox hg) | ((with_reducible refine gate_dst (N := 2) rfl ?_); (try (refine gate_guard (by rfl) ?_; dsimp only)); refine box_event ?hg (N := 2) ?hd (cs := #[.int .i64 0, .int .i64 0, .slice none 0 0, .slice none 0 0, .slice none 0 0]) (t := 35) ?hr ?_; (case hd => rfl); (case hg => rfl); (case hr => first | (go_simp; done) | (go_simp; rfl)); intro gb692 hg w19 hbox hb; have BK692 := Aside0.mk (hbox); have GE692 := Aside0.mk (gq hg); replace HB := sb hb; have NB691_692 := nl hg BK691; have NB692_691 := ng hg BK691; replace BK691 := zb BK691 hb; clear hb hbox hg; have hnb20 := NB691_692.out; have hnc20 := NB692_691.out; have ⟨hcz21_0, hcz21_1, hcz21_2, hcz21_3, hcz21_4, hfz21_0, hfz21_1, hfz21_2, hfz21_3, hfz21_4⟩ := bc5 BK691) | ((with_reducible refine gate_callee (f := 17) rfl ?_); refine goesQ (some 7) Try.func17 #[.agg #[.int .i64 a0_0, .int .i64 a0_1, .slice A0_2 l0_2.length c0_2, .slice A0_3 l0_3.length c0_3, .slice A0_4 l0_4.length c0_4]] ?_; (with_reducible refine (impl_IsSession.calls k a0_0 a0_1 _ _ l0_2 (fun k_ => k_ < w.heap.size) _ _ l0_3 (fun k_ => k_ < w.heap.size) _ _ l0_4 true _ ?s1 ?s2 ?s3 ?s4 A2.out).mono ?_); (case s1 => exact cq (Kd.C_below HR0_2.out HB.out)); (case s2 => exact HC0_2.out); (case s3 => exact Kd.V_mk HC0_3.out (Kd.F_below (Kd.C_F k60_heap HR0_3.out) bq)); (case s4 => exact Kd.V_mk HC0_4.out (Kd.F_below (Kd.C_F k60_heap HR0_4.out) bq)); rintro e w22 ⟨rfl, hb⟩; refine ⟨_, rfl, ?_⟩; replace BK691 := zb BK691 hb; replace BK692 := zb BK692 hb; replace HB := sb hb; (try clear hb); have ⟨hcz23_0, hcz23_1, hcz23_2, hcz23_3, hcz23_4, hfz23_0, hfz23_1, hfz23_2, hfz23_3, hfz23_4⟩ := bc5 BK691) | ((with_reducible refine gate_callee (f := 72) rfl ?_); refine goesQ (some 17) Try.func72 #[.agg #[.int .i64 a0_0, .int .i64 a0_1, .slice A0_2 l0_2.length c0_2, .slice A0_3 l0_3.length c0_3, .slice A0_4 l0_4.length c0_4]] ?_; (with_reducible refine (impl_copySession.calls a0_0 a0_1 _ _ l0_2 _ _ l0_3 _ _ l0_4 t694 t695 t696 t699 t702 _ ?s1 ?s2 ?s3 ?s4 ?s5 ?s6 A12.out).mono ?_); (case s1 => exact cq (Kd.C_below HR0_2.out HB.out)); (case s2 => exact HC0_2.out); (case s3 => exact cq (Kd.C_below HR0_3.out HB.out)); (case s4 => exact HC0_3.out); (case s5 => exact cq (Kd.C_below HR0_4.out HB.out)); (case s6 => exact HC0_4.out); rintro e w24 ⟨v697, v700, v703, rfl, ho0, ho1, ho2, hb⟩; refine ⟨_, rfl, ?_⟩; have HO698 := rl ho0; have HO701 := rl ho1; have HO704 := rl ho2; replace BK691 := zb BK691 hb; replace BK692 := zb BK692 hb; replace HB := sb hb; (try clear hb ho0 ho1 ho2)) | ((with_reducible refine gate_dst (N := 4) rfl ?_); (try (refine gate_guard (by rfl) ?_; dsimp only)); refine box_event ?hg (N := 4) ?hd (cs := #[.int .i64 0, .int .i64 0, .slice none 0 0, .slice none 0 0, .slice none 0 0]) (t := 35) ?hr ?_; (case hd => rfl); (case hg => rfl); (case hr => first | (go_simp; done) | (go_simp; rfl)); intro gb705 hg w25 hbox hb; replace HO698 := rb HO698 hb; replace HO701 := rb HO701 hb; replace HO704 := rb HO704 hb; have BK705 := Aside0.mk (hbox); have GE705 := Aside0.mk (gq hg); replace HB := sb hb; have NB691_705 := nl hg BK691; have NB705_691 := ng hg BK691; replace BK691 := zb BK691 hb; have NB692_705 := nl hg BK692; have NB705_692 := ng hg BK692; replace BK692 := zb BK692 hb; clear hb hbox hg; have hnb26 := NB705_691.out; have hnc26 := NB691_705.out; have hnb27 := NB705_692.out; have hnc27 := NB692_705.out; have ⟨hcz28_0, hcz28_1, hcz28_2, hcz28_3, hcz28_4, hfz28_0, hfz28_1, hfz28_2, hfz28_3, hfz28_4⟩ := bc5 BK705; obtain ⟨Ao29, co29, eo29⟩ := Kd.R_slice HO698.out; subst eo29; obtain ⟨Ao30, co30, eo30⟩ := Kd.R_slice HO701.out; subst eo30; obtain ⟨Ao31, co31, eo31⟩ := Kd.R_slice HO704.out; subst eo31))
       have n0_ : Aside0 (Kd.R k58 58 (((((w25.setCell ⟨gb705, 0, none⟩ (.int .i64 t694)).setCell ⟨gb705, 1, none⟩ (.int .i64 t695)).setCell ⟨gb705, 2, none⟩ (.slice Ao29 t696.length co29)).setCell ⟨gb705, 3, none⟩ (.slice Ao30 t699.length co30)).setCell ⟨gb705, 4, none⟩ (.slice Ao31 t702.length co31)) w.heap.size (fun _ => True) (.slice Ao29 t696.length co29) t696) := ⟨by (with_reducible repeat (first | apply Kd.R_alloc | apply Kd.R_drewN | apply Kd.R_drew)); exact Kd.R_mono (Kd.R_far (p := ⟨gb705, 4, none⟩) (Kd.R_far (p := ⟨gb705, 3, none⟩) (Kd.R_far (p := ⟨gb705, 2, none⟩) (Kd.R_far (p := ⟨gb705, 1, none⟩) (Kd.R_far (p := ⟨gb705, 0, none⟩) (Kd.R_types HO698.out BK705.out (by decide)) (fun _ hk => hk.2) (.int .i64 t694)) (fun _ hk => hk.2) (.int .i64 t695)) (fun _ hk => hk.2) (.slice Ao29 t696.length co29)) (fun _ hk => hk.2) (.slice Ao30 t699.length co30)) (fun _ hk => hk.2) (.slice Ao31 t702.length co31)) (fun _ hk => trivial)⟩
       have n1_ : Aside0 (Kd.R k60 60 (((((w25.setCell ⟨gb705, 0, none⟩ (.int .i64 t694)).setCell ⟨gb705, 1, none⟩ (.int .i64 t695)).setCell ⟨gb705, 2, none⟩ (.slice Ao29 t696.length co29)).setCell ⟨gb705, 3, none⟩ (.slice Ao30 t699.length co30)).setCell ⟨gb705, 4, none⟩ (.slice Ao31 t702.length co31)) w.heap.size (fun k_ => some k_ ≠ (.slice Ao31 t702.length co31 : Value).ownBlock) (.slice Ao30 t699.length co30) t699) := ⟨by (with_reducible repeat (first | apply Kd.R_alloc | apply Kd.R_drewN | apply Kd.R_drew)); exact Kd.R_mono (Kd.R_far (p := ⟨gb705, 4, none⟩) (Kd.R_far (p := ⟨gb705, 3, none⟩) (Kd.R_far (p := ⟨gb705, 2, none⟩) (Kd.R_far (p := ⟨gb705, 1, none⟩) (Kd.R_far (p := ⟨gb705, 0, none⟩) (Kd.R_types HO701.out BK705.out (by decide)) (fun _ hk => hk.2) (.int .i64 t694)) (fun _ hk => hk.2) (.int .i64 t695)) (fun _ hk => hk.2) (.slice Ao29 t696.length co29)) (fun _ hk => hk.2) (.slice Ao30 t699.length co30)) (fun _ hk => hk.2) (.slice Ao31 t702.length co31)) (fun _ hk => hk.1)⟩
       have n2_ : Aside0 (Kd.R k60 60 (((((w25.setCell ⟨gb705, 0, none⟩ (.int .i64 t694)).setCell ⟨gb705, 1, none⟩ (.int .i64 t695)).setCell ⟨gb705, 2, none⟩ (.slice Ao29 t696.length co29)).setCell ⟨gb705, 3, none⟩ (.slice Ao30 t699.length co30)).setCell ⟨gb705, 4, none⟩ (.slice Ao31 t702.length co31)) w.heap.size (fun k_ => some k_ ≠ (.slice Ao30 t699.length co30 : Value).ownBlock) (.slice Ao31 t702.length co31) t702) := ⟨by (with_reducible repeat (first | apply Kd.R_alloc | apply Kd.R_drewN | apply Kd.R_drew)); exact Kd.R_mono (Kd.R_far (p := ⟨gb705, 4, none⟩) (Kd.R_far (p := ⟨gb705, 3, none⟩) (Kd.R_far (p := ⟨gb705, 2, none⟩) (Kd.R_far (p := ⟨gb705, 1, none⟩) (Kd.R_far (p := ⟨gb705, 0, none⟩) (Kd.R_types HO704.out BK705.out (by decide)) (fun _ hk => hk.2) (.int .i64 t694)) (fun _ hk => hk.2) (.int .i64 t695)) (fun _ hk => hk.2) (.slice Ao29 t696.length co29)) (fun _ hk => hk.2) (.slice Ao30 t699.length co30)) (fun _ hk => hk.2) (.slice Ao31 t702.length co31)) (fun _ hk => hk.1)⟩
       have n3_ : Aside0 ((((((w25.setCell ⟨gb705, 0, none⟩ (.int .i64 t694)).setCell ⟨gb705, 1, none⟩ (.int .i64 t695)).setCell ⟨gb705, 2, none⟩ (.slice Ao29 t696.length co29)).setCell ⟨gb705, 3, none⟩ (.slice Ao30 t699.length co30)).setCell ⟨gb705, 4, none⟩ (.slice Ao31 t702.length co31)).heap[gb691]? = some (.cells #[.int .i64 a0_0, .int .i64 a0_1, .slice A0_2 l0_2.length c0_2, .slice A0_3 l0_3.length c0_3, .slice A0_4 l0_4.length c0_4] 35 (0, 0))) := ⟨by (with_reducible repeat (first | refine blk_drewN ?_ _ | refine blk_drew ?_ | refine blk_alloc ?_ _)); refine blk_far ?_ NB691_705.out _; (with_reducible repeat (first | refine blk_drewN ?_ _ | refine blk_drew ?_ | refine blk_alloc ?_ _)); refine blk_far ?_ NB691_705.out _; (with_reducible repeat (first | refine blk_drewN ?_ _ | refine blk_drew ?_ | refine blk_alloc ?_ _)); refine blk_far ?_ NB691_705.out _; (with_reducible repeat (first | refine blk_drewN ?_ _ | refine blk_drew ?_ | refine blk_alloc ?_ _)); refine blk_far ?_ NB691_705.out _; (with_reducible repeat (first | refine blk_drewN ?_ _ | refine blk_drew ?_ | refine blk_alloc ?_ _)); refine blk_far ?_ NB691_705.out _; (with_reducible repeat (first | refine blk_drewN ?_ _ | refine blk_drew ?_ | refine blk_alloc ?_ _)); exact BK691.out⟩
       have n4_ : Aside0 ((((((w25.setCell ⟨gb705, 0, none⟩ (.int .i64 t694)).setCell ⟨gb705, 1, none⟩ (.int .i64 t695)).setCell ⟨gb705, 2, none⟩ (.slice Ao29 t696.length co29)).setCell ⟨gb705, 3, none⟩ (.slice Ao30 t699.length co30)).setCell ⟨gb705, 4, none⟩ (.slice Ao31 t702.length co31)).heap[gb692]? = some (.cells #[.int .i64 0, .int .i64 0, .slice none 0 0, .slice none 0 0, .slice none 0 0] 35 (0, 0))) := ⟨by (with_reducible repeat (first | refine blk_drewN ?_ _ | refine blk_drew ?_ | refine blk_alloc ?_ _)); refine blk_far ?_ NB692_705.out _; (with_reducible repeat (first | refine blk_drewN ?_ _ | refine blk_drew ?_ | refine blk_alloc ?_ _)); refine blk_far ?_ NB692_705.out _; (with_reducible repeat (first | refine blk_drewN ?_ _ | refine blk_drew ?_ | refine blk_alloc ?_ _)); refine blk_far ?_ NB692_705.out _; (with_reducible repeat (first | refine blk_drewN ?_ _ | refine blk_drew ?_ | refine blk_alloc ?_ _)); refine blk_far ?_ NB692_705.out _; (with_reducible repeat (first | refine blk_drewN ?_ _ | refine blk_drew ?_ | refine blk_alloc ?_ _)); refine blk_far ?_ NB692_705.out _; (with_reducible repeat (first | refine blk_drewN ?_ _ | refine blk_drew ?_ | refine blk_alloc ?_ _)); exact BK692.out⟩
       have n5_ : Aside0 ((((((w25.setCell ⟨gb705, 0, none⟩ (.int .i64 t694)).setCell ⟨gb705, 1, none⟩ (.int .i64 t695)).setCell ⟨gb705, 2, none⟩ (.slice Ao29 t696.length co29)).setCell ⟨gb705, 3, none⟩ (.slice Ao30 t699.length co30)).setCell ⟨gb705, 4, none⟩ (.slice Ao31 t702.length co31)).heap[gb705]? = some (.cells #[.int .i64 t694, .int .i64 t695, .slice Ao29 t696.length co29, .slice Ao30 t699.length co30, .slice Ao31 t702.length co31] 35 (0, 0))) := ⟨by (with_reducible repeat (first | refine blk_drewN ?_ _ | refine blk_drew ?_ | refine blk_alloc ?_ _)); refine blk_put (cs := #[.int .i64 t694, .int .i64 t695, .slice Ao29 t696.length co29, .slice Ao30 t699.length co30, .slice none 0 0]) ?_ 4 _ rfl; (with_reducible repeat (first | refine blk_drewN ?_ _ | refine blk_drew ?_ | refine blk_alloc ?_ _)); refine blk_put (cs := #[.int .i64 t694, .int .i64 t695, .slice Ao29 t696.length co29, .slice none 0 0, .slice none 0 0]) ?_ 3 _ rfl; (with_reducible repeat (first | refine blk_drewN ?_ _ | refine blk_drew ?_ | refine blk_alloc ?_ _)); refine blk_put (cs := #[.int .i64 t694, .int .i64 t695, .slice none 0 0, .slice none 0 0, .slice none 0 0]) ?_ 2 _ rfl; (with_reducible repeat (first | refine blk_drewN ?_ _ | refine blk_drew ?_ | refine blk_alloc ?_ _)); refine blk_put (cs := #[.int .i64 t694, .int .i64 0, .slice none 0 0, .slice none 0 0, .slice none 0 0]) ?_ 1 _ rfl; (with_reducible repeat (first | refine blk_drewN ?_ _ | refine blk_drew ?_ | refine blk_alloc ?_ _)); refine blk_put (cs := #[.int .i64 0, .int .i64 0, .slice none 0 0, .slice none 0 0, .slice none 0 0]) ?_ 0 _ rfl; (with_reducible repeat (first | refine blk_drewN ?_ _ | refine blk_drew ?_ | refine blk_alloc ?_ _)); exact BK705.out⟩
       have n6_ : Aside0 (Below w.heap.size w (((((w25.setCell ⟨gb705, 0, none⟩ (.int .i64 t694)).setCell ⟨gb705, 1, none⟩ (.int .i64 t695)).setCell ⟨gb705, 2, none⟩ (.slice Ao29 t696.length co29)).setCell ⟨gb705, 3, none⟩ (.slice Ao30 t699.length co30)).setCell ⟨gb705, 4, none⟩ (.slice Ao31 t702.length co31))) := ⟨bq⟩
       (try clear HO698)
       (try clear HO701)
       (try clear HO704)
       (try clear BK691)
       (try clear BK692)
       (try clear BK705)
       (try clear HB)
       generalize (((((w25.setCell ⟨gb705, 0, none⟩ (.int .i64 t694)).setCell ⟨gb705, 1, none⟩ (.int .i64 t695)).setCell ⟨gb705, 2, none⟩ (.slice Ao29 t696.length co29)).setCell ⟨gb705, 3, none⟩ (.slice Ao30 t699.length co30)).setCell ⟨gb705, 4, none⟩ (.slice Ao31 t702.length co31)) = w32 at n0_ n1_ n2_ n3_ n4_ n5_ n6_ ⊢
       have HO698 := n0_
       have HO701 := n1_
       have HO704 := n2_
       have BK691 := n3_
       have BK692 := n4_
       have BK705 := n5_
       have HB := n6_
       clear n0_ n1_ n2_ n3_ n4_ n5_ n6_
       replace HO698 := Aside0.mk (Kd.R_drew HO698.out)
       replace HO701 := Aside0.mk (Kd.R_drew HO701.out)
       replace HO704 := Aside0.mk (Kd.R_drew HO704.out)
       replace BK691 := Aside0.mk (blk_drew BK691.out)
       replace BK692 := Aside0.mk (blk_drew BK692.out)
       replace BK705 := Aside0.mk (blk_drew BK705.out)
       replace HB := Aside0.mk (below_drew1 HB.out)
       have p706 : 0 ≤ ((ji13) : Int) := of_decide_eq_true aq
       have q706 : (ji13) < (t702.length : Int) := of_decide_eq_true aq
       obtain ⟨ad706, e706, hx706_0, hx706_1, hx706_2, hx706_3, hx706_4⟩ := at_T60 (Kd.R_reads' HO704.out).2.2 (ji13) p706 q706
       cases e706
       replace p706 := eq_true p706
       replace q706 := eq_true q706
       refine start_ (n := 11) (S := fun w' => w'.cell? ⟨gb705, 0, none⟩ = some (.int .i64 t694) ∧ w'.cell? ⟨gb705, 1, none⟩ = some (.int .i64 t695) ∧ w'.cell? ⟨gb705, 2, none⟩ = some (.slice Ao29 t696.length co29) ∧ w'.cell? ⟨gb705, 3, none⟩ = some (.slice Ao30 t699.length co30) ∧ w'.cell? ⟨gb705, 4, none⟩ = some (.slice (some ad706) t702.length co31) ∧ w'.cell? (ad706.add (((ji13)).toNat * 5)) = some (.int .i64 ((rd_T60 t702 (ji13)).f0)) ∧ w'.cell? ⟨(ad706.add (((ji13)).toNat * 5)).block, (ad706.add (((ji13)).toNat * 5)).off + 1, none⟩ = some (.int .i64 ((rd_T60 t702 (ji13)).f1)) ∧ w'.cell? ⟨(ad706.add (((ji13)).toNat * 5)).block, (ad706.add (((ji13)).toNat * 5)).off + 2, none⟩ = some (.int .i64 ((rd_T60 t702 (ji13)).f2)) ∧ w'.cell? ⟨(ad706.add (((ji13)).toNat * 5)).block, (ad706.add (((ji13)).toNat * 5)).off + 3, none⟩ = some (.int .i64 ((rd_T60 t702 (ji13)).f3.f0)) ∧ w'.cell? ⟨(ad706.add (((ji13)).toNat * 5)).block, (ad706.add (((ji13)).toNat * 5)).off + 4, none⟩ = some (.int .i64 ((rd_T60 t702 (ji13)).f3.f1))) (ds := [8, 10]) #[false, false, false, false, false, false, false, false, false, false, false] (by kernel_rfl) rfl rfl ⟨(blk_cell BK705.out 0).trans rfl, (blk_cell BK705.out 1).trans rfl, (blk_cell BK705.out 2).trans rfl, (blk_cell BK705.out 3).trans rfl, (blk_cell BK705.out 4).trans rfl, hx706_0, hx706_1, hx706_2, hx706_3, hx706_4⟩ (fun hHeld => ?_); refine with_tabW impl_RedoAct.tab5 impl_RedoAct.bits5 (fun HT_ HW_ => ?_)
       generalize w32.drew = w33 at HO698 HO701 HO704 BK691 BK692 BK705 HB hx706_0 hx706_1 hx706_2 hx706_3 hx706_4 hHeld ⊢
       refine pure_ (i := 0) (N := some 22) (v := ?_) (a' := ?_) #[true, false, false, false, false, false, false, false, false, false, false] rfl rfl (any_of HT_.out (by kernel_rfl)) (fun _ _ _ h => h) (Or.inl ⟨by rfl, ?_⟩) ?_ ?_
       rotate_left
       ·intro w'
        go_simp
        with_reducible rfl
       rotate_left
       ·simp only [Act.put, List.setIfInBounds_toArray, List.set_cons_zero, List.set_cons_succ, i64_w, i32_w]
        rfl
       refine pure_ (i := 2) (N := some 24) (v := ?_) (a' := ?_) #[true, false, true, false, false, false, false, false, false, false, false] rfl rfl (any_of HT_.out (by kernel_rfl)) (fun _ _ _ h => h) (Or.inl ⟨by rfl, ?_⟩) ?_ ?_
       rotate_left
       ·intro w'
        go_simp
        with_reducible rfl
       rotate_left
       ·simp only [Act.put, List.setIfInBounds_toArray, List.set_cons_zero, List.set_cons_succ, i64_w, i32_w]
        rfl
       refine pure_ (i := 4) (N := some 26) (v := ?_) (a' := ?_) #[true, false, true, false, true, false, false, false, false, false, false] rfl rfl (any_of HT_.out (by kernel_rfl)) (fun _ _ _ h => h) (Or.inl ⟨by rfl, ?_⟩) ?_ ?_
       rotate_left
       ·intro w'
        go_simp
        with_reducible rfl
       rotate_left
       ·simp only [Act.put, List.setIfInBounds_toArray, List.set_cons_zero, List.set_cons_succ, i64_w, i32_w]
        rfl
       refine take_ (i := 1) (N := some 23) (v := ?_) (a' := ?_) #[true, true, true, false, true, false, false, false, false, false, false] rfl rfl (take_ofW HT_.out HW_.out (by kernel_rfl)) (fun _ _ _ h => h) (Or.inl ⟨by rfl, ?_⟩) hHeld ?_ ?_
       rotate_left
       ·rintro w' ⟨s0, s1, s2, s3, s4, s5, s6, s7, s8, s9⟩
        go_simp
        with_reducible rfl
       rotate_left
       ·simp only [Act.put, List.setIfInBounds_toArray, List.set_cons_zero, List.set_cons_succ, i64_w, i32_w]
        rfl
       refine take_ (i := 3) (N := some 25) (v := ?_) (a' := ?_) #[true, true, true, true, true, false, false, false, false, false, false] rfl rfl (take_ofW HT_.out HW_.out (by kernel_rfl)) (fun _ _ _ h => h) (Or.inl ⟨by rfl, ?_⟩) hHeld ?_ ?_
       rotate_left
       ·rintro w' ⟨s0, s1, s2, s3, s4, s5, s6, s7, s8, s9⟩
        go_simp
        with_reducible rfl
       rotate_left
       ·simp only [Act.put, List.setIfInBounds_toArray, List.set_cons_zero, List.set_cons_succ, i64_w, i32_w]
        rfl
       refine pure_ (i := 5) (N := some 27) (v := ?_) (a' := ?_) #[true, true, true, true, true, true, false, false, false, false, false] rfl rfl (any_of HT_.out (by kernel_rfl)) (fun _ _ _ h => h) (Or.inl ⟨by rfl, ?_⟩) ?_ ?_
       rotate_left
       ·intro w'
        go_simp
        with_reducible rfl
       rotate_left
       ·simp only [Act.put, List.setIfInBounds_toArray, List.set_cons_zero, List.set_cons_succ, i64_w, i32_w]
        rfl
       refine take_ (i := 6) (N := some 28) (v := ?_) (a' := ?_) #[true, true, true, true, true, true, true, false, false, false, false] rfl rfl (take_ofW HT_.out HW_.out (by kernel_rfl)) (fun _ _ _ h => h) (Or.inl ⟨by rfl, ?_⟩) hHeld ?_ ?_
       rotate_left
       ·rintro w' ⟨s0, s1, s2, s3, s4, s5, s6, s7, s8, s9⟩
        go_simp
        with_reducible rfl
       rotate_left
       ·simp only [Act.put, List.setIfInBounds_toArray, List.set_cons_zero, List.set_cons_succ, i64_w, i32_w]
        rfl
       refine one_ (i := 7) (N := some 29) #[true, true, true, true, true, true, true, true, false, false, false] rfl rfl (one_of HT_.out (by kernel_rfl)) (by decide) (fun K hK => ?_)
       refine value_ (w1 := ?_) (v := ?_) (by rfl) rfl ?_ ?_
       rotate_left 2
       ·go_simp
        constructor
        ·rfl
        ·rfl
       refine hK.out _ _ ⟨(blk_cell (blk_alloc BK705.out _) 0).trans rfl, (blk_cell (blk_alloc BK705.out _) 1).trans rfl, (blk_cell (blk_alloc BK705.out _) 2).trans rfl, (blk_cell (blk_alloc BK705.out _) 3).trans rfl, (blk_cell (blk_alloc BK705.out _) 4).trans rfl, (World.cell?_alloc_lt _ _ _ (World.block_lt_of_cell? _ _ (hHeld.2.2.2.2.2.1))).trans (hHeld.2.2.2.2.2.1), (World.cell?_alloc_lt _ _ _ (World.block_lt_of_cell? _ _ (hHeld.2.2.2.2.2.2.1))).trans (hHeld.2.2.2.2.2.2.1), (World.cell?_alloc_lt _ _ _ (World.block_lt_of_cell? _ _ (hHeld.2.2.2.2.2.2.2.1))).trans (hHeld.2.2.2.2.2.2.2.1), (World.cell?_alloc_lt _ _ _ (World.block_lt_of_cell? _ _ (hHeld.2.2.2.2.2.2.2.2.1))).trans (hHeld.2.2.2.2.2.2.2.2.1), (World.cell?_alloc_lt _ _ _ (World.block_lt_of_cell? _ _ (hHeld.2.2.2.2.2.2.2.2.2))).trans (hHeld.2.2.2.2.2.2.2.2.2)⟩ (fun hHeld => ?_)
       clear hK K
       refine norm_ (a' := ?_) ?_ ?_
       rotate_left
       ·show Act.put _ (some 29) _ = _
        simp only [Act.put, List.setIfInBounds_toArray, List.set_cons_zero, List.set_cons_succ, i64_w, i32_w]
        rfl
       refine last_ (i := 8) (N := some 30) #[true, true, true, true, true, true, true, true, true, false, false] rfl rfl (one_of HT_.out (by kernel_rfl)) (by decide) (fun K hK => ?_)
       refine Kd.R_append_step k60 (w0 := w) w.heap.size (by rfl) (.tmp 23) (.tmp 29) 33 60 (.agg #[(.int .i64 0), (.int .i64 0), (.int .i64 0), (.int .i64 0), (.int .i64 0)]) 40 rfl Try.underlying33 info60 rfl (by decide) (by omega) (.slice Ao30 t699.length co30) t699 (⟨(rd_T60 t702 (ji13)).f0, (rd_T60 t702 (ji13)).f1, (rd_T60 t702 (ji13)).f2, (⟨(rd_T60 t702 (ji13)).f3.f0, (rd_T60 t702 (ji13)).f3.f1⟩ : S58)⟩ : S60) [.int .i64 ((rd_T60 t702 (ji13)).f0), .int .i64 ((rd_T60 t702 (ji13)).f1), .int .i64 ((rd_T60 t702 (ji13)).f2), .int .i64 ((rd_T60 t702 (ji13)).f3.f0), .int .i64 ((rd_T60 t702 (ji13)).f3.f1)] (fun k_ => some k_ ≠ (.slice (some ad706) t702.length co31 : Value).ownBlock) (fun _ => False) rfl rfl ?aP (fun _ hk => hk.elim) ?aF ?aO ?aB ?aS ?aL ?_
       (case aP => exact k60_mkM _ _ _ (⟨(rd_T60 t702 (ji13)).f0, (rd_T60 t702 (ji13)).f1, (rd_T60 t702 (ji13)).f2, (⟨(rd_T60 t702 (ji13)).f3.f0, (rd_T60 t702 (ji13)).f3.f1⟩ : S58)⟩ : S60))
       (case aB => exact bq)
       (case aF => exact (fun k_ hk => Kd.fresh' (Kd.R_lt (rq HO704)) k_ hk))
       (case aO => exact (rq HO701))
       (case aS => exact (below_size bq))
       (case aL => have := LMc16.out; omega)
       intro v708 w34 ho hb hg hat
       rw [← Ny707.out] at ho
       have n0_ := Aside0.mk (blk_grown (g := gb691) (o := .cells #[.int .i64 a0_0, .int .i64 a0_1, .slice A0_2 l0_2.length c0_2, .slice A0_3 l0_3.length c0_3, .slice A0_4 l0_4.length c0_4] 35 (0, 0)) (zq BK691) hg (Kd.R_ne HO701.out BK691.out (by decide)))
       have n1_ := Aside0.mk (blk_grown (g := gb692) (o := .cells #[.int .i64 0, .int .i64 0, .slice none 0 0, .slice none 0 0, .slice none 0 0] 35 (0, 0)) (zq BK692) hg (Kd.R_ne HO701.out BK692.out (by decide)))
       have n2_ := Aside0.mk (Kd.R_over' (rq HO698) (Kd.R_typed (rq HO701)) (by decide) hg)
       have n3_ := Aside0.mk (Kd.R_after (ok := (fun _ => True)) (by (with_reducible repeat (first | apply Kd.R_alloc | apply Kd.R_drewN | apply Kd.R_drew)); exact Kd.R_mono HO704.out (fun _ hk => ⟨trivial, hk⟩)) hg hat)
       have n4_ := Aside0.mk (blk_grown (g := gb705) (o := .cells #[.int .i64 t694, .int .i64 t695, .slice Ao29 t696.length co29, .slice Ao30 t699.length co30, .slice (some ad706) t702.length co31] 35 (0, 0)) (zq BK705) hg (Kd.R_ne HO701.out BK705.out (by decide)))
       have n5_ := Aside0.mk (hb)
       have n6_ := Aside0.mk (ho)
       clear BK691 BK692 HO698 HO704 BK705 HB HO701
       have BK691 := n0_
       have BK692 := n1_
       have HO698 := n2_
       have HO704 := n3_
       have BK705 := n4_
       have HB := n5_
       have HO709 := n6_
       clear n0_ n1_ n2_ n3_ n4_ n5_ n6_ ho hb hg hat
       obtain ⟨Ao35, co35, eo35⟩ := Kd.R_slice HO709.out
       (first | subst eo35 | (injection eo35 with f1_ f2_ f3_; have f4_ := f1_.symm; have f5_ := f3_.symm; clear f1_ f2_ f3_; subst f4_; subst f5_))
       refine hK.out _ _ ?_
       clear hK K
       refine norm_ (a' := ?_) ?_ ?_
       rotate_left
       ·show Act.put _ (some 30) _ = _
        simp only [Act.put, List.setIfInBounds_toArray, List.set_cons_zero, List.set_cons_succ, i64_w, i32_w]
        rfl
       refine pure_ (i := 9) (N := some 31) (v := ?_) (a' := ?_) #[true, true, true, true, true, true, true, true, true, true, false] rfl rfl (any_of HT_.out (by kernel_rfl)) (fun _ _ _ h => h) (Or.inl ⟨by rfl, ?_⟩) ?_ ?_
       rotate_left
       ·intro w'
        go_simp
        with_reducible rfl
       rotate_left
       ·simp only [Act.put, List.setIfInBounds_toArray, List.set_cons_zero, List.set_cons_succ, i64_w, i32_w]
        rfl
       refine last_ (i := 10) (N := none) #[true, true, true, true, true, true, true, true, true, true, true] rfl rfl (one_of HT_.out (by kernel_rfl)) (by decide) (fun K hK => ?_)
       have hs36 : w34.cell? ⟨gb705, 3, none⟩ = some (.slice Ao30 t699.length co30) := (blk_cell BK705.out 3).trans rfl
       have hfs36 := blk_frozen BK705.out 3
       have hns36_0 := NB691_705.out
       have hns36_1 := NB692_705.out
       have hms36_0 := NB705_691.out
       have hms36_1 := NB705_692.out
       refine skip_ (w1 := ?_) (by rfl) rfl ?_ ?_
       rotate_left
       ·go_simp
        rfl
       refine hK.out _ _ ?_
       clear hK K
       refine done_ (done_of HT_.out (by kernel_rfl)) ?_
       have n0_ : Aside0 (Kd.R k58 58 (w34.setCell ⟨gb705, 3, none⟩ (.slice Ao35 y707.length co35)) w.heap.size (fun _ => True) (.slice Ao29 t696.length co29) t696) := ⟨by (with_reducible repeat (first | apply Kd.R_alloc | apply Kd.R_drewN | apply Kd.R_drew)); exact Kd.R_mono (Kd.R_far (p := ⟨gb705, 3, none⟩) (Kd.R_types HO698.out BK705.out (by decide)) (fun _ hk => hk.2) (.slice Ao35 y707.length co35)) (fun _ hk => trivial)⟩
       have n1_ : Aside0 (Kd.R k60 60 (w34.setCell ⟨gb705, 3, none⟩ (.slice Ao35 y707.length co35)) w.heap.size (fun k_ => some k_ ≠ (.slice Ao35 y707.length co35 : Value).ownBlock) (.slice (some ad706) t702.length co31) t702) := ⟨by (with_reducible repeat (first | apply Kd.R_alloc | apply Kd.R_drewN | apply Kd.R_drew)); exact Kd.R_mono (Kd.R_far (p := ⟨gb705, 3, none⟩) (Kd.R_types HO704.out BK705.out (by decide)) (fun _ hk => hk.2) (.slice Ao35 y707.length co35)) (fun _ hk => hk.1.2)⟩
       have n2_ : Aside0 (Kd.R k60 60 (w34.setCell ⟨gb705, 3, none⟩ (.slice Ao35 y707.length co35)) w.heap.size (fun k_ => some k_ ≠ (.slice (some ad706) t702.length co31 : Value).ownBlock) (.slice Ao35 y707.length co35) y707) := ⟨by (with_reducible repeat (first | apply Kd.R_alloc | apply Kd.R_drewN | apply Kd.R_drew)); exact Kd.R_mono (Kd.R_far (p := ⟨gb705, 3, none⟩) (Kd.R_types HO709.out BK705.out (by decide)) (fun _ hk => hk.2) (.slice Ao35 y707.length co35)) (fun _ hk => hk.1)⟩
       have n3_ : Aside0 ((w34.setCell ⟨gb705, 3, none⟩ (.slice Ao35 y707.length co35)).heap[gb691]? = some (.cells #[.int .i64 a0_0, .int .i64 a0_1, .slice A0_2 l0_2.length c0_2, .slice A0_3 l0_3.length c0_3, .slice A0_4 l0_4.length c0_4] 35 (0, 0))) := ⟨by (with_reducible repeat (first | refine blk_drewN ?_ _ | refine blk_drew ?_ | refine blk_alloc ?_ _)); refine blk_far ?_ NB691_705.out _; (with_reducible repeat (first | refine blk_drewN ?_ _ | refine blk_drew ?_ | refine blk_alloc ?_ _)); exact BK691.out⟩
       have n4_ : Aside0 ((w34.setCell ⟨gb705, 3, none⟩ (.slice Ao35 y707.length co35)).heap[gb692]? = some (.cells #[.int .i64 0, .int .i64 0, .slice none 0 0, .slice none 0 0, .slice none 0 0] 35 (0, 0))) := ⟨by (with_reducible repeat (first | refine blk_drewN ?_ _ | refine blk_drew ?_ | refine blk_alloc ?_ _)); refine blk_far ?_ NB692_705.out _; (with_reducible repeat (first | refine blk_drewN ?_ _ | refine blk_drew ?_ | refine blk_alloc ?_ _)); exact BK692.out⟩
       have n5_ : Aside0 ((w34.setCell ⟨gb705, 3, none⟩ (.slice Ao35 y707.length co35)).heap[gb705]? = some (.cells #[.int .i64 t694, .int .i64 t695, .slice Ao29 t696.length co29, .slice Ao35 y707.length co35, .slice (some ad706) t702.length co31] 35 (0, 0))) := ⟨by (with_reducible repeat (first | refine blk_drewN ?_ _ | refine blk_drew ?_ | refine blk_alloc ?_ _)); refine blk_put (cs := #[.int .i64 t694, .int .i64 t695, .slice Ao29 t696.length co29, .slice Ao30 t699.length co30, .slice (some ad706) t702.length co31]) ?_ 3 _ rfl; (with_reducible repeat (first | refine blk_drewN ?_ _ | refine blk_drew ?_ | refine blk_alloc ?_ _)); exact BK705.out⟩
       have n6_ : Aside0 (Below w.heap.size w (w34.setCell ⟨gb705, 3, none⟩ (.slice Ao35 y707.length co35))) := ⟨bq⟩
       (try clear HO698)
       (try clear HO704)
       (try clear HO709)
       (try clear BK691)
       (try clear BK692)
       (try clear BK705)
       (try clear HB)
       generalize (w34.setCell ⟨gb705, 3, none⟩ (.slice Ao35 y707.length co35)) = w37 at n0_ n1_ n2_ n3_ n4_ n5_ n6_ ⊢
       have HO698 := n0_
       have HO704 := n1_
       have HO709 := n2_
       have BK691 := n3_
       have BK692 := n4_
       have BK705 := n5_
       have HB := n6_
       clear n0_ n1_ n2_ n3_ n4_ n5_ n6_
       have ⟨hcz38_0, hcz38_1, hcz38_2, hcz38_3, hcz38_4, hfz38_0, hfz38_1, hfz38_2, hfz38_3, hfz38_4⟩ := bc5 BK705
       have q39 : ((ji13) : Int) ≤ ((t702.length : Int) : Int) := of_decide_eq_true aq
       obtain ⟨i039, hi039, _, hsz39, _⟩ := info_parts info60
       have hcut39 := cut_to (P := Try.prog) 33 60 .i64 Try.underlying33 hi039 (some ad706) t702.length co31 (ji13) (of_decide_eq_true aq) q39 (Kd.R_reads' HO704.out).2.1
       have hr39 := Kd.R_take (m := ((ji13) : Int).toNat) HO704.out (by omega)
       have hy39 : y710.length = ((ji13) : Int).toNat := (by rw [Ny710.out, List.length_take]; omega)
       rw [← Ny710.out] at hr39
       rw [← hy39] at hr39 hcut39
       clear hy39 hi039 hsz39 HO704
       have HO712 := Aside0.mk hr39
       clear hr39
       replace q39 := eq_true q39
       have ⟨hcz40_0, hcz40_1, hcz40_2, hcz40_3, hcz40_4, hfz40_0, hfz40_1, hfz40_2, hfz40_3, hfz40_4⟩ := bc5 BK692
       try go_wp2
       refine bodyPost_ret (results_ct rfl _ _ gb692 35 #[.int .i64 t694, .int .i64 t695, .slice Ao29 t696.length co29, .slice Ao35 y707.length co35, .slice (some ad706) y710.length co31] (0, 0) _ rfl (by (with_reducible repeat (first | refine blk_drewN ?_ _ | refine blk_drew ?_ | refine blk_alloc ?_ _)); refine blk_put (cs := #[.int .i64 t694, .int .i64 t695, .slice Ao29 t696.length co29, .slice Ao35 y707.length co35, .slice none 0 0]) ?_ 4 _ rfl; (with_reducible repeat (first | refine blk_drewN ?_ _ | refine blk_drew ?_ | refine blk_alloc ?_ _)); refine blk_put (cs := #[.int .i64 t694, .int .i64 t695, .slice Ao29 t696.length co29, .slice none 0 0, .slice none 0 0]) ?_ 3 _ rfl; (with_reducible repeat (first | refine blk_drewN ?_ _ | refine blk_drew ?_ | refine blk_alloc ?_ _)); refine blk_put (cs := #[.int .i64 t694, .int .i64 t695, .slice none 0 0, .slice none 0 0, .slice none 0 0]) ?_ 2 _ rfl; (with_reducible repeat (first | refine blk_drewN ?_ _ | refine blk_drew ?_ | refine blk_alloc ?_ _)); refine blk_put (cs := #[.int .i64 t694, .int .i64 0, .slice none 0 0, .slice none 0 0, .slice none 0 0]) ?_ 1 _ rfl; (with_reducible repeat (first | refine blk_drewN ?_ _ | refine blk_drew ?_ | refine blk_alloc ?_ _)); refine blk_put (cs := #[.int .i64 0, .int .i64 0, .slice none 0 0, .slice none 0 0, .slice none 0 0]) ?_ 0 _ rfl; (with_reducible repeat (first | refine blk_drewN ?_ _ | refine blk_drew ?_ | refine blk_alloc ?_ _)); refine blk_far ?_ NB692_705.out _; (with_reducible repeat (first | refine blk_drewN ?_ _ | refine blk_drew ?_ | refine blk_alloc ?_ _)); exact BK692.out) Try.underlying35 rfl (by kernel_rfl)) rfl ?_
       exact ⟨_, _, _, by first | rfl | (simp [errW_none, errW_some] <;> rfl) | (simp only [← hji13]; first | rfl | (simp [errW_none, errW_some] <;> rfl)) | (simp [*, errW_none, errW_some] <;> rfl), by (with_reducible repeat (first | apply Kd.R_alloc | apply Kd.R_drewN | apply Kd.R_drew)); exact Kd.R_mono (Kd.R_far (p := ⟨gb692, 4, none⟩) (Kd.R_far (p := ⟨gb692, 3, none⟩) (Kd.R_far (p := ⟨gb692, 2, none⟩) (Kd.R_far (p := ⟨gb692, 1, none⟩) (Kd.R_far (p := ⟨gb692, 0, none⟩) (Kd.R_far (p := ⟨gb705, 4, none⟩) (Kd.R_types (Kd.R_types HO698.out BK705.out (by decide)) BK692.out (by decide)) (fun _ hk => hk.1.2) (.slice (some ad706) y710.length co31)) (fun _ hk => hk.2) (.int .i64 t694)) (fun _ hk => hk.2) (.int .i64 t695)) (fun _ hk => hk.2) (.slice Ao29 t696.length co29)) (fun _ hk => hk.2) (.slice Ao35 y707.length co35)) (fun _ hk => hk.2) (.slice (some ad706) y710.length co31)) (fun _ hk => trivial), by (with_reducible repeat (first | apply Kd.R_alloc | apply Kd.R_drewN | apply Kd.R_drew)); exact Kd.R_mono (Kd.R_far (p := ⟨gb692, 4, none⟩) (Kd.R_far (p := ⟨gb692, 3, none⟩) (Kd.R_far (p := ⟨gb692, 2, none⟩) (Kd.R_far (p := ⟨gb692, 1, none⟩) (Kd.R_far (p := ⟨gb692, 0, none⟩) (Kd.R_far (p := ⟨gb705, 4, none⟩) (Kd.R_types (Kd.R_types HO709.out BK705.out (by decide)) BK692.out (by decide)) (fun _ hk => hk.1.2) (.slice (some ad706) y710.length co31)) (fun _ hk => hk.2) (.int .i64 t694)) (fun _ hk => hk.2) (.int .i64 t695)) (fun _ hk => hk.2) (.slice Ao29 t696.length co29)) (fun _ hk => hk.2) (.slice Ao35 y707.length co35)) (fun _ hk => hk.2) (.slice (some ad706) y710.length co31)) (fun _ hk => hk.1.1), by (with_reducible repeat (first | apply Kd.R_alloc | apply Kd.R_drewN | apply Kd.R_drew)); exact Kd.R_mono (Kd.R_far (p := ⟨gb692, 4, none⟩) (Kd.R_far (p := ⟨gb692, 3, none⟩) (Kd.R_far (p := ⟨gb692, 2, none⟩) (Kd.R_far (p := ⟨gb692, 1, none⟩) (Kd.R_far (p := ⟨gb692, 0, none⟩) (Kd.R_far (p := ⟨gb705, 4, none⟩) (Kd.R_types (Kd.R_types HO712.out BK705.out (by decide)) BK692.out (by decide)) (fun _ hk => hk.1.2) (.slice (some ad706) y710.length co31)) (fun _ hk => hk.2) (.int .i64 t694)) (fun _ hk => hk.2) (.int .i64 t695)) (fun _ hk => hk.2) (.slice Ao29 t696.length co29)) (fun _ hk => hk.2) (.slice Ao35 y707.length co35)) (fun _ hk => hk.2) (.slice (some ad706) y710.length co31)) (fun _ hk => hk.1.1), bq⟩
      ·rw [if_neg c17] at H
       exact absurd H (by simp)
     ·rw [if_neg c16] at H
      exact absurd H (by simp)
    ·rw [if_neg c15] at H
     exact absurd H (by simp)
   ·rw [if_neg c14] at H
    exact absurd H (by simp)
 ·replace c3 := Bool.eq_false_iff.mpr c3
  subst c3
  have H1 : (some (0, 0, ([] : List (S58)), ([] : List (S60)), ([] : List (S60)), false)) = some (r1, r2, r3, r4, r5, r6) := by rw [if_neg (show ¬ (false = true) by decide)] at H; exact H
  clear H
  have H := H1
  clear H1
  simp only [Option.some.injEq, Prod.mk.injEq] at H
  obtain ⟨rfl, rfl, rfl, rfl, rfl, rfl⟩ := H
  go_enter Try.func33, Try.ntmps33
  go_wp2_with (first | ((with_reducible refine gate_dst (N := 1) rfl ?_); (try (refine gate_guard (by rfl) ?_; dsimp only)); refine box_event ?hg (N := 1) ?hd (cs := #[.int .i64 a0_0, .int .i64 a0_1, .slice A0_2 l0_2.length c0_2, .slice A0_3 l0_3.length c0_3, .slice A0_4 l0_4.length c0_4]) (t := 35) ?hr ?_; (case hd => rfl); (case hg => rfl); (case hr => first | (go_simp; done) | (go_simp; rfl)); intro gb691 hg w41 hbox hb; have BK691 := Aside0.mk (hbox); have GE691 := Aside0.mk (gq hg); replace HB := sb hb; clear hb hbox hg) | ((with_reducible refine gate_dst (N := 2) rfl ?_); (try (refine gate_guard (by rfl) ?_; dsimp only)); refine box_event ?hg (N := 2) ?hd (cs := #[.int .i64 0, .int .i64 0, .slice none 0 0, .slice none 0 0, .slice none 0 0]) (t := 35) ?hr ?_; (case hd => rfl); (case hg => rfl); (case hr => first | (go_simp; done) | (go_simp; rfl)); intro gb692 hg w42 hbox hb; have BK692 := Aside0.mk (hbox); have GE692 := Aside0.mk (gq hg); replace HB := sb hb; have NB691_692 := nl hg BK691; have NB692_691 := ng hg BK691; replace BK691 := zb BK691 hb; clear hb hbox hg; have hnb43 := NB691_692.out; have hnc43 := NB692_691.out; have ⟨hcz44_0, hcz44_1, hcz44_2, hcz44_3, hcz44_4, hfz44_0, hfz44_1, hfz44_2, hfz44_3, hfz44_4⟩ := bc5 BK691) | ((with_reducible refine gate_callee (f := 17) rfl ?_); refine goesQ (some 7) Try.func17 #[.agg #[.int .i64 a0_0, .int .i64 a0_1, .slice A0_2 l0_2.length c0_2, .slice A0_3 l0_3.length c0_3, .slice A0_4 l0_4.length c0_4]] ?_; (with_reducible refine (impl_IsSession.calls k a0_0 a0_1 _ _ l0_2 (fun k_ => k_ < w.heap.size) _ _ l0_3 (fun k_ => k_ < w.heap.size) _ _ l0_4 false _ ?s1 ?s2 ?s3 ?s4 A2.out).mono ?_); (case s1 => exact cq (Kd.C_below HR0_2.out HB.out)); (case s2 => exact HC0_2.out); (case s3 => exact Kd.V_mk HC0_3.out (Kd.F_below (Kd.C_F k60_heap HR0_3.out) bq)); (case s4 => exact Kd.V_mk HC0_4.out (Kd.F_below (Kd.C_F k60_heap HR0_4.out) bq)); rintro e w45 ⟨rfl, hb⟩; refine ⟨_, rfl, ?_⟩; replace BK692 := zb BK692 hb; replace HB := sb hb; (try clear hb); have ⟨hcz46_0, hcz46_1, hcz46_2, hcz46_3, hcz46_4, hfz46_0, hfz46_1, hfz46_2, hfz46_3, hfz46_4⟩ := bc5 BK692))
  refine bodyPost_ret (results_ct rfl _ _ gb692 35 #[.int .i64 0, .int .i64 0, .slice none 0 0, .slice none 0 0, .slice none 0 0] (0, 0) _ rfl (by (with_reducible repeat (first | refine blk_drewN ?_ _ | refine blk_drew ?_ | refine blk_alloc ?_ _)); refine blk_put (cs := #[.int .i64 0, .int .i64 0, .slice none 0 0, .slice none 0 0, .slice none 0 0]) ?_ 4 _ rfl; (with_reducible repeat (first | refine blk_drewN ?_ _ | refine blk_drew ?_ | refine blk_alloc ?_ _)); refine blk_put (cs := #[.int .i64 0, .int .i64 0, .slice none 0 0, .slice none 0 0, .slice none 0 0]) ?_ 3 _ rfl; (with_reducible repeat (first | refine blk_drewN ?_ _ | refine blk_drew ?_ | refine blk_alloc ?_ _)); refine blk_put (cs := #[.int .i64 0, .int .i64 0, .slice none 0 0, .slice none 0 0, .slice none 0 0]) ?_ 2 _ rfl; (with_reducible repeat (first | refine blk_drewN ?_ _ | refine blk_drew ?_ | refine blk_alloc ?_ _)); refine blk_put (cs := #[.int .i64 0, .int .i64 0, .slice none 0 0, .slice none 0 0, .slice none 0 0]) ?_ 1 _ rfl; (with_reducible repeat (first | refine blk_drewN ?_ _ | refine blk_drew ?_ | refine blk_alloc ?_ _)); refine blk_put (cs := #[.int .i64 0, .int .i64 0, .slice none 0 0, .slice none 0 0, .slice none 0 0]) ?_ 0 _ rfl; (with_reducible repeat (first | refine blk_drewN ?_ _ | refine blk_drew ?_ | refine blk_alloc ?_ _)); exact BK692.out) Try.underlying35 rfl (by kernel_rfl)) rfl ?_
  exact ⟨_, _, _, eq_, by first | exact Kd.R_nil _ _ _ _ _ | exact Kd.N_nil _ _ _ _ _ | exact Kd.V_nil _ _ _ _ _ | exact Kd.Q_nil _ _ _ _ _ | exact Kd.S_nil _ _ _ _ _, by first | exact Kd.R_nil _ _ _ _ _ | exact Kd.N_nil _ _ _ _ _ | exact Kd.V_nil _ _ _ _ _ | exact Kd.Q_nil _ _ _ _ _ | exact Kd.S_nil _ _ _ _ _, by first | exact Kd.R_nil _ _ _ _ _ | exact Kd.N_nil _ _ _ _ _ | exact Kd.V_nil _ _ _ _ _ | exact Kd.Q_nil _ _ _ _ _ | exact Kd.S_nil _ _ _ _ _, bq⟩




end Go.Proofs.Ytkkgjljcgnegpaa.Pall
