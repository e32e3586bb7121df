-- written by the kit's print program, put together by a program
import Derived.Test.YtkkgjljcgnegpaaMFnExactRunSession1
namespace Go.Proofs.Ytkkgjljcgnegpaa.Pall
open Go.RowKit Go.Proofs.YtkkgjljcgnegpaaW.PrintWords Go.Proofs.YtkkgjljcgnegpaaW.PrintLast Go.Proofs.YtkkgjljcgnegpaaW.PrintMore
attribute [local go_sem] max2_int min2_int max_two min_two max_three min_three max_four min_four   -- for this text's walks alone
set_option linter.unusedVariables false
set_option linter.unusedSimpArgs false
/-! ### impl_copySession: function 72 -/
def impl_copySession.f (a0_0 : Int) (a0_1 : Int) (l0_2 : List (S58)) (l0_3 : List (S60)) (l0_4 : List (S60)) : Option (Int × Int × (List (S58)) × (List (S60)) × (List (S60))) := (impl_copyBoard.f a0_0 a0_1 l0_2).bind fun bt529 => ((some (([] : List (S60)) : List (S60))).bind fun y534 => (if y534.length + l0_3.length < 3518437208883 then ((some (([] : List (S60)) : List (S60))).bind fun y540 => (if y540.length + l0_4.length < 3518437208883 then (some (bt529.1, bt529.2.1, bt529.2.2, (y534 ++ l0_3), (y540 ++ l0_4))) else (none))) else (none)))
def impl_copySession.T1 : Bool × List (List Nat × List Nat) := (true, [([], []), ([0], [0]), ([1], [1]), ([], []), ([], []), ([4], [4]), ([3, 5, 2], [3, 5]), ([], []), ([], []), ([8], [8]), ([7, 9, 6], [7, 9]), ([2, 6, 10], [2, 6, 10]), ([11, 10, 0, 1, 2, 3, 4, 5, 6, 7, 8, 9, 10, 11], [11])])
def impl_copySession.B1 : List Nat := [0, 1, 3, 0, 0, 16, 63, 0, 0, 256, 1023, 2047, 4095]
theorem impl_copySession.tab1 : rtab .any (opsOf Try.f72 1) = impl_copySession.T1 := by kernel_rfl
theorem impl_copySession.bits1 : waitsOk impl_copySession.T1.2 impl_copySession.B1 = true := by kernel_rfl
set_option maxHeartbeats 8000000 in
set_option maxRecDepth 100000 in
theorem impl_copySession.calls (a0_0 : Int) (a0_1 : Int) (A0_2 : Option Addr) (c0_2 : Nat) (l0_2 : List (S58)) (A0_3 : Option Addr) (c0_3 : Nat) (l0_3 : List (S60)) (A0_4 : Option Addr) (c0_4 : Nat) (l0_4 : List (S60)) (r1 : Int) (r2 : Int) (r3 : List (S58)) (r4 : List (S60)) (r5 : List (S60)) (w : World) (hr0_2 : Kd.C k58 w A0_2 l0_2.length l0_2) (hc0_2 : l0_2.length ≤ c0_2) (hr0_3 : Kd.C k60 w A0_3 l0_3.length l0_3) (hc0_3 : l0_3.length ≤ c0_3) (hr0_4 : Kd.C k60 w A0_4 l0_4.length l0_4) (hc0_4 : l0_4.length ≤ c0_4) (h : impl_copySession.f a0_0 a0_1 l0_2 l0_3 l0_4 = some (r1, r2, r3, r4, r5)) :
  Calls Try.prog 72 #[.agg #[.int .i64 a0_0, .int .i64 a0_1, .slice A0_2 l0_2.length c0_2, .slice A0_3 l0_3.length c0_3, .slice A0_4 l0_4.length c0_4]] w fun e w' => ∃ v2_ v3_ v4_ : Value, e = .returned (.agg #[.int .i64 r1, .int .i64 r2, v2_, v3_, v4_]) ∧ Kd.R k58 58 w' w.heap.size (fun _ => True) v2_ r3 ∧ Kd.R k60 60 w' w.heap.size (fun k_ => some k_ ≠ (v4_ : Value).ownBlock) v3_ r4 ∧ Kd.R k60 60 w' w.heap.size (fun k_ => some k_ ≠ (v3_ : Value).ownBlock) v4_ r5 ∧ Below w.heap.size w w' := by
 have hu35 := Try.underlying35
 have hu32 := Try.underlying32
 have HR0_2 := am hr0_2
 have HC0_2 := am hc0_2
 clear hr0_2 hc0_2
 have HR0_3 := am hr0_3
 have HC0_3 := am hc0_3
 clear hr0_3 hc0_3
 have HR0_4 := am hr0_4
 have HC0_4 := am hc0_4
 clear hr0_4 hc0_4
 have HB := am (Below.refl w.heap.size w)
 have H : ((impl_copyBoard.f a0_0 a0_1 l0_2).bind fun bt529 => ((some (([] : List (S60)) : List (S60))).bind fun y534 => (if y534.length + l0_3.length < 3518437208883 then ((some (([] : List (S60)) : List (S60))).bind fun y540 => (if y540.length + l0_4.length < 3518437208883 then (some (bt529.1, bt529.2.1, bt529.2.2, (y534 ++ l0_3), (y540 ++ l0_4))) else (none))) else (none)))) = some (r1, r2, r3, r4, r5) := h
 clear h
 obtain ⟨⟨t529, t530, t531⟩, A2, H⟩ := bindq H
 try dsimp only at H
 obtain ⟨y534, hy534⟩ : ∃ y_ : List (S60), y_ = (([] : List (S60))) := ⟨_, rfl⟩
 replace H : (if y534.length + l0_3.length < 3518437208883 then ((some (([] : List (S60)) : List (S60))).bind fun y540 => (if y540.length + l0_4.length < 3518437208883 then (some (t529, t530, t531, (y534 ++ l0_3), (y540 ++ l0_4))) else (none))) else (none)) = some (r1, r2, r3, r4, r5) := by first | (rw [hy534]; with_reducible exact H) | (have H2_ := (Option.bind_some _ _).symm.trans H; rw [hy534]; with_reducible exact H2_) | (have H2_ := (Option.bind_some _ _).symm.trans H; with_reducible exact H2_) | with_reducible exact H | (rw [hy534]; exact H) | exact H
 have Ny534 := am hy534
 clear hy534
 by_cases c3 : y534.length + l0_3.length < 3518437208883
 ·rw [if_pos c3] at H
  have LMc3 := am c3
  clear c3
  obtain ⟨y537, hy537⟩ : ∃ y_ : List (S60), y_ = (y534 ++ l0_3) := ⟨_, rfl⟩
  replace H : ((some (([] : List (S60)) : List (S60))).bind fun y540 => (if y540.length + l0_4.length < 3518437208883 then (some (t529, t530, t531, y537, (y540 ++ l0_4))) else (none))) = some (r1, r2, r3, r4, r5) := by first | (rw [hy537]; with_reducible exact H) | (have H2_ := (Option.bind_some _ _).symm.trans H; rw [hy537]; with_reducible exact H2_) | (have H2_ := (Option.bind_some _ _).symm.trans H; with_reducible exact H2_) | with_reducible exact H | (rw [hy537]; exact H) | exact H
  have Ny537 := am hy537
  clear hy537
  obtain ⟨y540, hy540⟩ : ∃ y_ : List (S60), y_ = (([] : List (S60))) := ⟨_, rfl⟩
  replace H : (if y540.length + l0_4.length < 3518437208883 then (some (t529, t530, t531, y537, (y540 ++ l0_4))) else (none)) = some (r1, r2, r3, r4, r5) := by first | (rw [hy540]; with_reducible exact H) | (have H2_ := (Option.bind_some _ _).symm.trans H; rw [hy540]; with_reducible exact H2_) | (have H2_ := (Option.bind_some _ _).symm.trans H; with_reducible exact H2_) | with_reducible exact H | (rw [hy540]; exact H) | exact H
  have Ny540 := am hy540
  clear hy540
  by_cases c4 : y540.length + l0_4.length < 3518437208883
  ·rw [if_pos c4] at H
   have LMc4 := am c4
   clear c4
   obtain ⟨y543, hy543⟩ : ∃ y_ : List (S60), y_ = (y540 ++ l0_4) := ⟨_, rfl⟩
   replace H : (some (t529, t530, t531, y537, y543)) = some (r1, r2, r3, r4, r5) := by first | (rw [hy543]; with_reducible exact H) | (have H2_ := (Option.bind_some _ _).symm.trans H; rw [hy543]; with_reducible exact H2_) | (have H2_ := (Option.bind_some _ _).symm.trans H; with_reducible exact H2_) | with_reducible exact H | (rw [hy543]; exact H) | exact H
   have Ny543 := am hy543
   clear hy543
   simp only [Option.some.injEq, Prod.mk.injEq] at H
   obtain ⟨rfl, rfl, rfl, rfl, rfl⟩ := H
   go_enter Try.func72, Try.ntmps72
   try go_wp2_with (first | ((with_reducible refine gate_dst (N := 1) rfl ?_); refine box_event ?hg (N := 1) ?hd (cs := #[.int .i64 a0_0, .int .i64 a0_1, .slice A0_2 l0_2.length c0_2, .slice A0_3 l0_3.length c0_3, .slice A0_4 l0_4.length c0_4]) (t := 35) ?hr ?_; (case hd => rfl); (case hg => rfl); (case hr => first | (go_simp; done) | (go_simp; rfl)); intro gb527 hg w5 hbox hb; have BK527 := am (hbox); have GW527 := am (gq hg); have GE527 := am (gq hg); replace HB := sb hb; clear hb hbox hg) | ((with_reducible refine gate_dst (N := 2) rfl ?_); refine box_event ?hg (N := 2) ?hd (cs := #[.int .i64 0, .int .i64 0, .slice none 0 0, .slice none 0 0, .slice none 0 0]) (t := 35) ?hr ?_; (case hd => rfl); (case hg => rfl); (case hr => first | (go_simp; done) | (go_simp; rfl)); intro gb528 hg w6 hbox hb; have BK528 := am (hbox); have GW528 := am (gq hg); have GE528 := am (gq hg); replace HB := sb hb; have NB527_528 := nl hg BK527; have NB528_527 := ng hg BK527; replace BK527 := zb BK527 hb; clear hb hbox hg))
   replace BK527 := am (blk_drew BK527.out)
   replace BK528 := am (blk_drew BK528.out)
   replace HB := am (below_drew1 HB.out)
   refine start_ (n := 13) (S := fun w' => w'.cell? ⟨gb527, 0, none⟩ = some (.int .i64 a0_0) ∧ w'.cell? ⟨gb527, 1, none⟩ = some (.int .i64 a0_1) ∧ w'.cell? ⟨gb527, 2, none⟩ = some (.slice A0_2 l0_2.length c0_2) ∧ w'.cell? ⟨gb527, 3, none⟩ = some (.slice A0_3 l0_3.length c0_3) ∧ w'.cell? ⟨gb527, 4, none⟩ = some (.slice A0_4 l0_4.length c0_4)) (ds := []) #[false, false, false, false, false, false, false, false, false, false, false, false, false] (by kernel_rfl) rfl rfl cl (fun hHeld => ?_); refine with_tabW impl_copySession.tab1 impl_copySession.bits1 (fun HT_ HW_ => ?_)
   generalize w6.drew = w7 at BK527 BK528 HB hHeld ⊢
   refine pure_ (i := 0) (N := some 3) (v := ?_) (a' := ?_) #[true, false, false, false, false, false, false, false, false, false, false, false, false] rfl rfl (any_of HT_.out (by kernel_rfl)) (fun _ _ _ h => h) (Or.inl ⟨by rfl, ?_⟩) ?_ ?_
   rotate_left
   ·intro w'
    go_simp
    with_reducible rfl
   rotate_left
   ·simp only [Act.put, List.setIfInBounds_toArray, List.set_cons_zero, List.set_cons_succ, i64_w, i32_w]
    rfl
   refine pure_ (i := 4) (N := some 7) (v := ?_) (a' := ?_) #[true, false, false, false, true, false, false, false, false, false, false, false, false] rfl rfl (any_of HT_.out (by kernel_rfl)) (fun _ _ _ h => h) (Or.inl ⟨by rfl, ?_⟩) ?_ ?_
   rotate_left
   ·intro w'
    go_simp
    with_reducible rfl
   rotate_left
   ·simp only [Act.put, List.setIfInBounds_toArray, List.set_cons_zero, List.set_cons_succ, i64_w, i32_w]
    rfl
   refine pure_ (i := 8) (N := some 11) (v := ?_) (a' := ?_) #[true, false, false, false, true, false, false, false, true, false, false, false, false] rfl rfl (any_of HT_.out (by kernel_rfl)) (fun _ _ _ h => h) (Or.inl ⟨by rfl, ?_⟩) ?_ ?_
   rotate_left
   ·intro w'
    go_simp
    with_reducible rfl
   rotate_left
   ·simp only [Act.put, List.setIfInBounds_toArray, List.set_cons_zero, List.set_cons_succ, i64_w, i32_w]
    rfl
   refine take_ (i := 1) (N := some 4) (v := ?_) (a' := ?_) #[true, true, false, false, true, false, false, false, true, false, false, false, false] rfl rfl (take_ofW HT_.out HW_.out (by kernel_rfl)) (fun _ _ _ h => h) (Or.inl ⟨by rfl, ?_⟩) hHeld ?_ ?_
   rotate_left
   ·rintro w' ⟨s0, s1, s2, s3, s4⟩
    go_simp
    with_reducible rfl
   rotate_left
   ·simp only [Act.put, List.setIfInBounds_toArray, List.set_cons_zero, List.set_cons_succ, i64_w, i32_w]
    rfl
   refine take_ (i := 5) (N := some 8) (v := ?_) (a' := ?_) #[true, true, false, false, true, true, false, false, true, false, false, false, false] rfl rfl (take_ofW HT_.out HW_.out (by kernel_rfl)) (fun _ _ _ h => h) (Or.inl ⟨by rfl, ?_⟩) hHeld ?_ ?_
   rotate_left
   ·rintro w' ⟨s0, s1, s2, s3, s4⟩
    go_simp
    with_reducible rfl
   rotate_left
   ·simp only [Act.put, List.setIfInBounds_toArray, List.set_cons_zero, List.set_cons_succ, i64_w, i32_w]
    rfl
   refine take_ (i := 9) (N := some 12) (v := ?_) (a' := ?_) #[true, true, false, false, true, true, false, false, true, true, false, false, false] rfl rfl (take_ofW HT_.out HW_.out (by kernel_rfl)) (fun _ _ _ h => h) (Or.inl ⟨by rfl, ?_⟩) hHeld ?_ ?_
   rotate_left
   ·rintro w' ⟨s0, s1, s2, s3, s4⟩
    go_simp
    with_reducible rfl
   rotate_left
   ·simp only [Act.put, List.setIfInBounds_toArray, List.set_cons_zero, List.set_cons_succ, i64_w, i32_w]
    rfl
   refine join_ (σ := Value × Value × Value × Value) 3 #[true, true, true, true, true, true, true, true, true, true, false, false, false] (fun s_ => [(5, .agg #[.int .i64 t529, .int .i64 t530, s_.1]), (6, s_.2.1), (9, s_.2.2.1), (10, s_.2.2.2)]) (fun s_ w' => (w'.cell? ⟨gb527, 0, none⟩ = some (.int .i64 a0_0) ∧ w'.cell? ⟨gb527, 1, none⟩ = some (.int .i64 a0_1) ∧ w'.cell? ⟨gb527, 2, none⟩ = some (.slice A0_2 l0_2.length c0_2) ∧ w'.cell? ⟨gb527, 3, none⟩ = some (.slice A0_3 l0_3.length c0_3) ∧ w'.cell? ⟨gb527, 4, none⟩ = some (.slice A0_4 l0_4.length c0_4)) ∧ (Kd.R k58 58 w' w.heap.size (fun _ => True) s_.1 t531) ∧ (Kd.R k60 60 w' w.heap.size (fun k_ => some k_ ≠ (s_.2.2.2 : Value).ownBlock) s_.2.2.1 y537) ∧ (Kd.R k60 60 w' w.heap.size (fun k_ => some k_ ≠ (s_.2.2.1 : Value).ownBlock) s_.2.2.2 y540) ∧ (w'.heap[gb527]? = some (.cells #[.int .i64 a0_0, .int .i64 a0_1, .slice A0_2 l0_2.length c0_2, .slice A0_3 l0_3.length c0_3, .slice A0_4 l0_4.length c0_4] 35 (0, 0))) ∧ (w'.heap[gb528]? = some (.cells #[.int .i64 0, .int .i64 0, .slice none 0 0, .slice none 0 0, .slice none 0 0] 35 (0, 0))) ∧ (Below w.heap.size w w')) ?_ ?_
   rotate_left
   ·intro hJ2_3_6_7
    refine join_ (σ := Value × Value × Value) 4 #[true, true, true, true, true, true, true, false, true, true, false, false, false] (fun s_ => [(5, .agg #[.int .i64 t529, .int .i64 t530, s_.1]), (6, s_.2.1), (9, s_.2.2)]) (fun s_ w' => (w'.cell? ⟨gb527, 0, none⟩ = some (.int .i64 a0_0) ∧ w'.cell? ⟨gb527, 1, none⟩ = some (.int .i64 a0_1) ∧ w'.cell? ⟨gb527, 2, none⟩ = some (.slice A0_2 l0_2.length c0_2) ∧ w'.cell? ⟨gb527, 3, none⟩ = some (.slice A0_3 l0_3.length c0_3) ∧ w'.cell? ⟨gb527, 4, none⟩ = some (.slice A0_4 l0_4.length c0_4)) ∧ (Kd.R k58 58 w' w.heap.size (fun _ => True) s_.1 t531) ∧ (Kd.R k60 60 w' w.heap.size (fun _ => True) s_.2.2 y537) ∧ (w'.heap[gb527]? = some (.cells #[.int .i64 a0_0, .int .i64 a0_1, .slice A0_2 l0_2.length c0_2, .slice A0_3 l0_3.length c0_3, .slice A0_4 l0_4.length c0_4] 35 (0, 0))) ∧ (w'.heap[gb528]? = some (.cells #[.int .i64 0, .int .i64 0, .slice none 0 0, .slice none 0 0, .slice none 0 0] 35 (0, 0))) ∧ (Below w.heap.size w w')) ?_ ?_
    rotate_left
    ·intro hJ2_3_6
     refine join_ (σ := Value × Value × Value) 4 #[true, true, true, true, true, true, false, true, true, true, false, false, false] (fun s_ => [(5, .agg #[.int .i64 t529, .int .i64 t530, s_.1]), (6, s_.2.1), (10, s_.2.2)]) (fun s_ w' => (w'.cell? ⟨gb527, 0, none⟩ = some (.int .i64 a0_0) ∧ w'.cell? ⟨gb527, 1, none⟩ = some (.int .i64 a0_1) ∧ w'.cell? ⟨gb527, 2, none⟩ = some (.slice A0_2 l0_2.length c0_2) ∧ w'.cell? ⟨gb527, 3, none⟩ = some (.slice A0_3 l0_3.length c0_3) ∧ w'.cell? ⟨gb527, 4, none⟩ = some (.slice A0_4 l0_4.length c0_4)) ∧ (Kd.R k58 58 w' w.heap.size (fun _ => True) s_.1 t531) ∧ (Kd.R k60 60 w' w.heap.size (fun k_ => some k_ ≠ (s_.2.2 : Value).ownBlock) s_.2.1 y534) ∧ (Kd.R k60 60 w' w.heap.size (fun k_ => some k_ ≠ (s_.2.1 : Value).ownBlock) s_.2.2 y540) ∧ (w'.heap[gb527]? = some (.cells #[.int .i64 a0_0, .int .i64 a0_1, .slice A0_2 l0_2.length c0_2, .slice A0_3 l0_3.length c0_3, .slice A0_4 l0_4.length c0_4] 35 (0, 0))) ∧ (w'.heap[gb528]? = some (.cells #[.int .i64 0, .int .i64 0, .slice none 0 0, .slice none 0 0, .slice none 0 0] 35 (0, 0))) ∧ (Below w.heap.size w w')) ?_ ?_
     rotate_left
     ·intro hJ2_3_7
      refine join_ (σ := Value × Value) 5 #[true, true, true, true, true, true, false, false, true, true, false, false, false] (fun s_ => [(5, .agg #[.int .i64 t529, .int .i64 t530, s_.1]), (6, s_.2)]) (fun s_ w' => (w'.cell? ⟨gb527, 0, none⟩ = some (.int .i64 a0_0) ∧ w'.cell? ⟨gb527, 1, none⟩ = some (.int .i64 a0_1) ∧ w'.cell? ⟨gb527, 2, none⟩ = some (.slice A0_2 l0_2.length c0_2) ∧ w'.cell? ⟨gb527, 3, none⟩ = some (.slice A0_3 l0_3.length c0_3) ∧ w'.cell? ⟨gb527, 4, none⟩ = some (.slice A0_4 l0_4.length c0_4)) ∧ (Kd.R k58 58 w' w.heap.size (fun _ => True) s_.1 t531) ∧ (Kd.R k60 60 w' w.heap.size (fun _ => True) s_.2 y534) ∧ (w'.heap[gb527]? = some (.cells #[.int .i64 a0_0, .int .i64 a0_1, .slice A0_2 l0_2.length c0_2, .slice A0_3 l0_3.length c0_3, .slice A0_4 l0_4.length c0_4] 35 (0, 0))) ∧ (w'.heap[gb528]? = some (.cells #[.int .i64 0, .int .i64 0, .slice none 0 0, .slice none 0 0, .slice none 0 0] 35 (0, 0))) ∧ (Below w.heap.size w w')) ?_ ?_
      rotate_left
      ·intro hJ2_3
       refine join_ (σ := Value × Value) 5 #[true, true, true, false, true, true, false, true, true, true, false, false, false] (fun s_ => [(5, .agg #[.int .i64 t529, .int .i64 t530, s_.1]), (10, s_.2)]) (fun s_ w' => (w'.cell? ⟨gb527, 0, none⟩ = some (.int .i64 a0_0) ∧ w'.cell? ⟨gb527, 1, none⟩ = some (.int .i64 a0_1) ∧ w'.cell? ⟨gb527, 2, none⟩ = some (.slice A0_2 l0_2.length c0_2) ∧ w'.cell? ⟨gb527, 3, none⟩ = some (.slice A0_3 l0_3.length c0_3) ∧ w'.cell? ⟨gb527, 4, none⟩ = some (.slice A0_4 l0_4.length c0_4)) ∧ (Kd.R k58 58 w' w.heap.size (fun _ => True) s_.1 t531) ∧ (Kd.R k60 60 w' w.heap.size (fun _ => True) s_.2 y540) ∧ (w'.heap[gb527]? = some (.cells #[.int .i64 a0_0, .int .i64 a0_1, .slice A0_2 l0_2.length c0_2, .slice A0_3 l0_3.length c0_3, .slice A0_4 l0_4.length c0_4] 35 (0, 0))) ∧ (w'.heap[gb528]? = some (.cells #[.int .i64 0, .int .i64 0, .slice none 0 0, .slice none 0 0, .slice none 0 0] 35 (0, 0))) ∧ (Below w.heap.size w w')) ?_ ?_
       rotate_left
       ·intro hJ2_7
        refine join_ (σ := Value × Value) 5 #[true, true, false, true, true, true, false, true, true, true, false, false, false] (fun s_ => [(6, s_.1), (10, s_.2)]) (fun s_ w' => (w'.cell? ⟨gb527, 0, none⟩ = some (.int .i64 a0_0) ∧ w'.cell? ⟨gb527, 1, none⟩ = some (.int .i64 a0_1) ∧ w'.cell? ⟨gb527, 2, none⟩ = some (.slice A0_2 l0_2.length c0_2) ∧ w'.cell? ⟨gb527, 3, none⟩ = some (.slice A0_3 l0_3.length c0_3) ∧ w'.cell? ⟨gb527, 4, none⟩ = some (.slice A0_4 l0_4.length c0_4)) ∧ (Kd.R k60 60 w' w.heap.size (fun k_ => some k_ ≠ (s_.2 : Value).ownBlock) s_.1 y534) ∧ (Kd.R k60 60 w' w.heap.size (fun k_ => some k_ ≠ (s_.1 : Value).ownBlock) s_.2 y540) ∧ (w'.heap[gb527]? = some (.cells #[.int .i64 a0_0, .int .i64 a0_1, .slice A0_2 l0_2.length c0_2, .slice A0_3 l0_3.length c0_3, .slice A0_4 l0_4.length c0_4] 35 (0, 0))) ∧ (w'.heap[gb528]? = some (.cells #[.int .i64 0, .int .i64 0, .slice none 0 0, .slice none 0 0, .slice none 0 0] 35 (0, 0))) ∧ (Below w.heap.size w w')) ?_ ?_
        rotate_left
        ·intro hJ3_7
         refine join_ (σ := Value) 6 #[true, true, true, false, true, true, false, false, true, true, false, false, false] (fun s_ => [(5, .agg #[.int .i64 t529, .int .i64 t530, s_])]) (fun s_ w' => (w'.cell? ⟨gb527, 0, none⟩ = some (.int .i64 a0_0) ∧ w'.cell? ⟨gb527, 1, none⟩ = some (.int .i64 a0_1) ∧ w'.cell? ⟨gb527, 2, none⟩ = some (.slice A0_2 l0_2.length c0_2) ∧ w'.cell? ⟨gb527, 3, none⟩ = some (.slice A0_3 l0_3.length c0_3) ∧ w'.cell? ⟨gb527, 4, none⟩ = some (.slice A0_4 l0_4.length c0_4)) ∧ (Kd.R k58 58 w' w.heap.size (fun _ => True) s_ t531) ∧ (w'.heap[gb527]? = some (.cells #[.int .i64 a0_0, .int .i64 a0_1, .slice A0_2 l0_2.length c0_2, .slice A0_3 l0_3.length c0_3, .slice A0_4 l0_4.length c0_4] 35 (0, 0))) ∧ (w'.heap[gb528]? = some (.cells #[.int .i64 0, .int .i64 0, .slice none 0 0, .slice none 0 0, .slice none 0 0] 35 (0, 0))) ∧ (Below w.heap.size w w')) ?_ ?_
         rotate_left
         ·intro hJ2
          refine join_ (σ := Value) 6 #[true, true, false, true, true, true, false, false, true, true, false, false, false] (fun s_ => [(6, s_)]) (fun s_ w' => (w'.cell? ⟨gb527, 0, none⟩ = some (.int .i64 a0_0) ∧ w'.cell? ⟨gb527, 1, none⟩ = some (.int .i64 a0_1) ∧ w'.cell? ⟨gb527, 2, none⟩ = some (.slice A0_2 l0_2.length c0_2) ∧ w'.cell? ⟨gb527, 3, none⟩ = some (.slice A0_3 l0_3.length c0_3) ∧ w'.cell? ⟨gb527, 4, none⟩ = some (.slice A0_4 l0_4.length c0_4)) ∧ (Kd.R k60 60 w' w.heap.size (fun _ => True) s_ y534) ∧ (w'.heap[gb527]? = some (.cells #[.int .i64 a0_0, .int .i64 a0_1, .slice A0_2 l0_2.length c0_2, .slice A0_3 l0_3.length c0_3, .slice A0_4 l0_4.length c0_4] 35 (0, 0))) ∧ (w'.heap[gb528]? = some (.cells #[.int .i64 0, .int .i64 0, .slice none 0 0, .slice none 0 0, .slice none 0 0] 35 (0, 0))) ∧ (Below w.heap.size w w')) ?_ ?_
          rotate_left
          ·intro hJ3
           refine join_ (σ := Value) 6 #[true, true, false, false, true, true, false, true, true, true, false, false, false] (fun s_ => [(10, s_)]) (fun s_ w' => (w'.cell? ⟨gb527, 0, none⟩ = some (.int .i64 a0_0) ∧ w'.cell? ⟨gb527, 1, none⟩ = some (.int .i64 a0_1) ∧ w'.cell? ⟨gb527, 2, none⟩ = some (.slice A0_2 l0_2.length c0_2) ∧ w'.cell? ⟨gb527, 3, none⟩ = some (.slice A0_3 l0_3.length c0_3) ∧ w'.cell? ⟨gb527, 4, none⟩ = some (.slice A0_4 l0_4.length c0_4)) ∧ (Kd.R k60 60 w' w.heap.size (fun _ => True) s_ y540) ∧ (w'.heap[gb527]? = some (.cells #[.int .i64 a0_0, .int .i64 a0_1, .slice A0_2 l0_2.length c0_2, .slice A0_3 l0_3.length c0_3, .slice A0_4 l0_4.length c0_4] 35 (0, 0))) ∧ (w'.heap[gb528]? = some (.cells #[.int .i64 0, .int .i64 0, .slice none 0 0, .slice none 0 0, .slice none 0 0] 35 (0, 0))) ∧ (Below w.heap.size w w')) ?_ ?_
           rotate_left
           ·intro hJ7
            refine three_ (i := 2) (j := 3) (k := 7) (Ni := some 5) (Nj := some 6) (Nk := some 10) #[true, true, true, false, true, true, false, false, true, true, false, false, false] #[true, true, false, true, true, true, false, false, true, true, false, false, false] #[true, true, false, false, true, true, false, true, true, true, false, false, false] rfl rfl rfl rfl rfl rfl (three_of HT_.out (by kernel_rfl)) (by decide) (by decide) (by decide) (fun K hK => ?_) (fun K hK => ?_) (fun K hK => ?_)
            ·skip
             refine goes_ Try.func67 (by kernel_rfl) rfl #[.agg #[.int .i64 a0_0, .int .i64 a0_1, .slice A0_2 l0_2.length c0_2]] (by rfl) rfl rfl mq ?_
             with_reducible refine (impl_copyBoard.calls a0_0 a0_1 _ _ l0_2 t529 t530 t531 _ ?s1 ?s2 A2.out).mono ?_
             (case s1 => exact cq (Kd.C_below HR0_2.out HB.out))
             (case s2 => exact HC0_2.out)
             rintro e w8 ⟨v532, rfl, ho0, hb⟩
             refine ⟨_, rfl, ?_⟩
             have HO533 := rl ho0
             replace BK527 := zb BK527 hb
             replace BK528 := zb BK528 hb
             replace HB := sb hb
             (try clear hb ho0)
             refine hK.out _ _ cl (fun hHeld => ?_)
             clear hK K
             refine norm_ (a' := ?_) ?_ ?_
             rotate_left
             ·show Act.put _ (some 5) _ = _
              simp only [Act.put, List.setIfInBounds_toArray, List.set_cons_zero, List.set_cons_succ, i64_w, i32_w]
              rfl
             exact norm_ (by first | (simp only [putAll, Act.put, List.setIfInBounds_toArray, List.set_cons_zero, List.set_cons_succ]; done) | (simp only [putAll, Act.put, List.setIfInBounds_toArray, List.set_cons_zero, List.set_cons_succ]; rfl)) (hJ2 (v532) _ ⟨hHeld, (rq HO533), (zq BK527), (zq BK528), bq⟩)
            ·skip
             refine Kd.R_lit_step k60 _ 60 ?hg (N := 6) ?hd (xs := ([] : List (S60))) (inner := []) (ok := fun _ => True) (okp := fun _ => True) ?hr ?hp (fun _ hk => hk) trivial (Below.refl _ _) (Nat.le_refl _) (by simp) ?_; (case hd => rfl); (case hg => rfl); (case hr => first | (go_simp; done) | (go_simp; rfl)); (case hp => exact (Reps.none _ _))
             intro v535 w8 ho9 hb hg_ hnew_
             clear hg_ hnew_
             (first | rw [← Ny534.out] at ho9 | (simp only [Int.reduceToNat] at ho9; rw [← Ny534.out] at ho9))
             have HO536 := rl ho9
             replace BK527 := zb BK527 hb
             replace BK528 := zb BK528 hb
             replace HB := sb hb
             clear hb ho9
             refine hK.out _ _ cl (fun hHeld => ?_)
             clear hK K
             refine norm_ (a' := ?_) ?_ ?_
             rotate_left
             ·show Act.put _ (some 6) _ = _
              simp only [Act.put, List.setIfInBounds_toArray, List.set_cons_zero, List.set_cons_succ, i64_w, i32_w]
              rfl
             exact norm_ (by first | (simp only [putAll, Act.put, List.setIfInBounds_toArray, List.set_cons_zero, List.set_cons_succ]; done) | (simp only [putAll, Act.put, List.setIfInBounds_toArray, List.set_cons_zero, List.set_cons_succ]; rfl)) (hJ3 (v535) _ ⟨hHeld, (rq HO536), (zq BK527), (zq BK528), bq⟩)
            ·skip
             refine Kd.R_lit_step k60 _ 60 ?hg (N := 10) ?hd (xs := ([] : List (S60))) (inner := []) (ok := fun _ => True) (okp := fun _ => True) ?hr ?hp (fun _ hk => hk) trivial (Below.refl _ _) (Nat.le_refl _) (by simp) ?_; (case hd => rfl); (case hg => rfl); (case hr => first | (go_simp; done) | (go_simp; rfl)); (case hp => exact (Reps.none _ _))
             intro v541 w8 ho9 hb hg_ hnew_
             clear hg_ hnew_
             (first | rw [← Ny540.out] at ho9 | (simp only [Int.reduceToNat] at ho9; rw [← Ny540.out] at ho9))
             have HO542 := rl ho9
             replace BK527 := zb BK527 hb
             replace BK528 := zb BK528 hb
             replace HB := sb hb
             clear hb ho9
             refine hK.out _ _ cl (fun hHeld => ?_)
             clear hK K
             refine norm_ (a' := ?_) ?_ ?_
             rotate_left
             ·show Act.put _ (some 10) _ = _
              simp only [Act.put, List.setIfInBounds_toArray, List.set_cons_zero, List.set_cons_succ, i64_w, i32_w]
              rfl
             exact norm_ (by first | (simp only [putAll, Act.put, List.setIfInBounds_toArray, List.set_cons_zero, List.set_cons_succ]; done) | (simp only [putAll, Act.put, List.setIfInBounds_toArray, List.set_cons_zero, List.set_cons_succ]; rfl)) (hJ7 (v541) _ ⟨hHeld, (rq HO542), (zq BK527), (zq BK528), bq⟩)
           ·skip
            rintro v541 w10 ⟨hS_, h0_, h1_, h2_, h3_⟩
            have n0_ : Aside0 (Kd.R k60 60 w10 w.heap.size (fun _ => True) v541 y540) := ⟨h0_⟩
            have n1_ : Aside0 (w10.heap[gb527]? = some (.cells #[.int .i64 a0_0, .int .i64 a0_1, .slice A0_2 l0_2.length c0_2, .slice A0_3 l0_3.length c0_3, .slice A0_4 l0_4.length c0_4] 35 (0, 0))) := ⟨h1_⟩
            have n2_ : Aside0 (w10.heap[gb528]? = some (.cells #[.int .i64 0, .int .i64 0, .slice none 0 0, .slice none 0 0, .slice none 0 0] 35 (0, 0))) := ⟨h2_⟩
            have n3_ : Aside0 (Below w.heap.size w w10) := ⟨h3_⟩
            clear BK527 BK528 HB h0_ h1_ h2_ h3_
            have HO542 := n0_
            have BK527 := n1_
            have BK528 := n2_
            have HB := n3_
            clear n0_ n1_ n2_ n3_
            have hHeld : w10.cell? ⟨gb527, 0, none⟩ = some (.int .i64 a0_0) ∧ w10.cell? ⟨gb527, 1, none⟩ = some (.int .i64 a0_1) ∧ w10.cell? ⟨gb527, 2, none⟩ = some (.slice A0_2 l0_2.length c0_2) ∧ w10.cell? ⟨gb527, 3, none⟩ = some (.slice A0_3 l0_3.length c0_3) ∧ w10.cell? ⟨gb527, 4, none⟩ = some (.slice A0_4 l0_4.length c0_4) := hS_
            refine norm_ (a' := ?_) ?_ ?_
            rotate_left
            ·simp only [putAll, Act.put, List.setIfInBounds_toArray, List.set_cons_zero, List.set_cons_succ]
             rfl
            refine two_ (i := 2) (j := 3) (Ni := some 5) (Nj := some 6) #[true, true, true, false, true, true, false, true, true, true, false, false, false] #[true, true, false, true, true, true, false, true, true, true, false, false, false] rfl rfl rfl rfl (two_of HT_.out (by kernel_rfl)) (by decide) (by decide) (fun K hK => ?_) (fun K hK => ?_)
            ·skip
             refine goes_ Try.func67 (by kernel_rfl) rfl #[.agg #[.int .i64 a0_0, .int .i64 a0_1, .slice A0_2 l0_2.length c0_2]] (by rfl) rfl rfl mq ?_
             with_reducible refine (impl_copyBoard.calls a0_0 a0_1 _ _ l0_2 t529 t530 t531 _ ?s1 ?s2 A2.out).mono ?_
             (case s1 => exact cq (Kd.C_below HR0_2.out HB.out))
             (case s2 => exact HC0_2.out)
             rintro e w11 ⟨v532, rfl, ho0, hb⟩
             refine ⟨_, rfl, ?_⟩
             replace HO542 := rb HO542 hb
             have HO533 := rl ho0
             replace BK527 := zb BK527 hb
             replace BK528 := zb BK528 hb
             replace HB := sb hb
             (try clear hb ho0)
             refine hK.out _ _ cl (fun hHeld => ?_)
             clear hK K
             refine norm_ (a' := ?_) ?_ ?_
             rotate_left
             ·show Act.put _ (some 5) _ = _
              simp only [Act.put, List.setIfInBounds_toArray, List.set_cons_zero, List.set_cons_succ, i64_w, i32_w]
              rfl
             exact norm_ (by first | (simp only [putAll, Act.put, List.setIfInBounds_toArray, List.set_cons_zero, List.set_cons_succ]; done) | (simp only [putAll, Act.put, List.setIfInBounds_toArray, List.set_cons_zero, List.set_cons_succ]; rfl)) (hJ2_7 (v532, v541) _ ⟨hHeld, (rq HO533), (rq HO542), (zq BK527), (zq BK528), bq⟩)
            ·skip
             refine Kd.R_lit_step k60 _ 60 ?hg (N := 6) ?hd (xs := ([] : List (S60))) (inner := []) (ok := fun _ => True) (okp := fun _ => True) ?hr ?hp (fun _ hk => hk) trivial (Below.refl _ _) (Nat.le_refl _) (by simp) ?_; (case hd => rfl); (case hg => rfl); (case hr => first | (go_simp; done) | (go_simp; rfl)); (case hp => exact (Reps.none _ _))
             intro v535 w11 ho12 hb hg_ hnew_
             clear hg_ hnew_
             (first | rw [← Ny534.out] at ho12 | (simp only [Int.reduceToNat] at ho12; rw [← Ny534.out] at ho12))
             have HO536 := rl (Kd.R_new' ho12 (lw HO542))
             replace HO542 := am (Kd.R_elder' (rq HO542) (Kd.R_base ho12) hb)
             replace BK527 := zb BK527 hb
             replace BK528 := zb BK528 hb
             replace HB := sb hb
             clear hb ho12
             refine hK.out _ _ cl (fun hHeld => ?_)
             clear hK K
             refine norm_ (a' := ?_) ?_ ?_
             rotate_left
             ·show Act.put _ (some 6) _ = _
              simp only [Act.put, List.setIfInBounds_toArray, List.set_cons_zero, List.set_cons_succ, i64_w, i32_w]
              rfl
             exact norm_ (by first | (simp only [putAll, Act.put, List.setIfInBounds_toArray, List.set_cons_zero, List.set_cons_succ]; done) | (simp only [putAll, Act.put, List.setIfInBounds_toArray, List.set_cons_zero, List.set_cons_succ]; rfl)) (hJ3_7 (v535, v541) _ ⟨hHeld, (rm HO536), (rm HO542), (zq BK527), (zq BK528), bq⟩)
          ·skip
           rintro v535 w10 ⟨hS_, h0_, h1_, h2_, h3_⟩
           have n0_ : Aside0 (Kd.R k60 60 w10 w.heap.size (fun _ => True) v535 y534) := ⟨h0_⟩
           have n1_ : Aside0 (w10.heap[gb527]? = some (.cells #[.int .i64 a0_0, .int .i64 a0_1, .slice A0_2 l0_2.length c0_2, .slice A0_3 l0_3.length c0_3, .slice A0_4 l0_4.length c0_4] 35 (0, 0))) := ⟨h1_⟩
           have n2_ : Aside0 (w10.heap[gb528]? = some (.cells #[.int .i64 0, .int .i64 0, .slice none 0 0, .slice none 0 0, .slice none 0 0] 35 (0, 0))) := ⟨h2_⟩
           have n3_ : Aside0 (Below w.heap.size w w10) := ⟨h3_⟩
           clear BK527 BK528 HB h0_ h1_ h2_ h3_
           have HO536 := n0_
           have BK527 := n1_
           have BK528 := n2_
           have HB := n3_
           clear n0_ n1_ n2_ n3_
           have hHeld : w10.cell? ⟨gb527, 0, none⟩ = some (.int .i64 a0_0) ∧ w10.cell? ⟨gb527, 1, none⟩ = some (.int .i64 a0_1) ∧ w10.cell? ⟨gb527, 2, none⟩ = some (.slice A0_2 l0_2.length c0_2) ∧ w10.cell? ⟨gb527, 3, none⟩ = some (.slice A0_3 l0_3.length c0_3) ∧ w10.cell? ⟨gb527, 4, none⟩ = some (.slice A0_4 l0_4.length c0_4) := hS_
           refine norm_ (a' := ?_) ?_ ?_
           rotate_left
           ·simp only [putAll, Act.put, List.setIfInBounds_toArray, List.set_cons_zero, List.set_cons_succ]
            rfl
           refine two_ (i := 2) (j := 7) (Ni := some 5) (Nj := some 10) #[true, true, true, true, true, true, false, false, true, true, false, false, false] #[true, true, false, true, true, true, false, true, true, true, false, false, false] rfl rfl rfl rfl (two_of HT_.out (by kernel_rfl)) (by decide) (by decide) (fun K hK => ?_) (fun K hK => ?_)
           ·skip
            refine goes_ Try.func67 (by kernel_rfl) rfl #[.agg #[.int .i64 a0_0, .int .i64 a0_1, .slice A0_2 l0_2.length c0_2]] (by rfl) rfl rfl mq ?_
            with_reducible refine (impl_copyBoard.calls a0_0 a0_1 _ _ l0_2 t529 t530 t531 _ ?s1 ?s2 A2.out).mono ?_
            (case s1 => exact cq (Kd.C_below HR0_2.out HB.out))
            (case s2 => exact HC0_2.out)
            rintro e w11 ⟨v532, rfl, ho0, hb⟩
            refine ⟨_, rfl, ?_⟩
            replace HO536 := rb HO536 hb
            have HO533 := rl ho0
            replace BK527 := zb BK527 hb
            replace BK528 := zb BK528 hb
            replace HB := sb hb
            (try clear hb ho0)
            refine hK.out _ _ cl (fun hHeld => ?_)
            clear hK K
            refine norm_ (a' := ?_) ?_ ?_
            rotate_left
            ·show Act.put _ (some 5) _ = _
             simp only [Act.put, List.setIfInBounds_toArray, List.set_cons_zero, List.set_cons_succ, i64_w, i32_w]
             rfl
            exact norm_ (by first | (simp only [putAll, Act.put, List.setIfInBounds_toArray, List.set_cons_zero, List.set_cons_succ]; done) | (simp only [putAll, Act.put, List.setIfInBounds_toArray, List.set_cons_zero, List.set_cons_succ]; rfl)) (hJ2_3 (v532, v535) _ ⟨hHeld, (rq HO533), (rq HO536), (zq BK527), (zq BK528), bq⟩)
           ·skip
            refine Kd.R_lit_step k60 _ 60 ?hg (N := 10) ?hd (xs := ([] : List (S60))) (inner := []) (ok := fun _ => True) (okp := fun _ => True) ?hr ?hp (fun _ hk => hk) trivial (Below.refl _ _) (Nat.le_refl _) (by simp) ?_; (case hd => rfl); (case hg => rfl); (case hr => first | (go_simp; done) | (go_simp; rfl)); (case hp => exact (Reps.none _ _))
            intro v541 w11 ho12 hb hg_ hnew_
            clear hg_ hnew_
            (first | rw [← Ny540.out] at ho12 | (simp only [Int.reduceToNat] at ho12; rw [← Ny540.out] at ho12))
            have HO542 := rl (Kd.R_new' ho12 (lw HO536))
            replace HO536 := am (Kd.R_elder' (rq HO536) (Kd.R_base ho12) hb)
            replace BK527 := zb BK527 hb
            replace BK528 := zb BK528 hb
            replace HB := sb hb
            clear hb ho12
            refine hK.out _ _ cl (fun hHeld => ?_)
            clear hK K
            refine norm_ (a' := ?_) ?_ ?_
            rotate_left
            ·show Act.put _ (some 10) _ = _
             simp only [Act.put, List.setIfInBounds_toArray, List.set_cons_zero, List.set_cons_succ, i64_w, i32_w]
             rfl
            exact norm_ (by first | (simp only [putAll, Act.put, List.setIfInBounds_toArray, List.set_cons_zero, List.set_cons_succ]; done) | (simp only [putAll, Act.put, List.setIfInBounds_toArray, List.set_cons_zero, List.set_cons_succ]; rfl)) (hJ3_7 (v535, v541) _ ⟨hHeld, (rm HO536), (rm HO542), (zq BK527), (zq BK528), bq⟩)
         ·skip
          rintro v532 w9 ⟨hS_, h0_, h1_, h2_, h3_⟩
          have n0_ : Aside0 (Kd.R k58 58 w9 w.heap.size (fun _ => True) v532 t531) := ⟨h0_⟩
          have n1_ : Aside0 (w9.heap[gb527]? = some (.cells #[.int .i64 a0_0, .int .i64 a0_1, .slice A0_2 l0_2.length c0_2, .slice A0_3 l0_3.length c0_3, .slice A0_4 l0_4.length c0_4] 35 (0, 0))) := ⟨h1_⟩
          have n2_ : Aside0 (w9.heap[gb528]? = some (.cells #[.int .i64 0, .int .i64 0, .slice none 0 0, .slice none 0 0, .slice none 0 0] 35 (0, 0))) := ⟨h2_⟩
          have n3_ : Aside0 (Below w.heap.size w w9) := ⟨h3_⟩
          clear BK527 BK528 HB h0_ h1_ h2_ h3_
          have HO533 := n0_
          have BK527 := n1_
          have BK528 := n2_
          have HB := n3_
          clear n0_ n1_ n2_ n3_
          have hHeld : w9.cell? ⟨gb527, 0, none⟩ = some (.int .i64 a0_0) ∧ w9.cell? ⟨gb527, 1, none⟩ = some (.int .i64 a0_1) ∧ w9.cell? ⟨gb527, 2, none⟩ = some (.slice A0_2 l0_2.length c0_2) ∧ w9.cell? ⟨gb527, 3, none⟩ = some (.slice A0_3 l0_3.length c0_3) ∧ w9.cell? ⟨gb527, 4, none⟩ = some (.slice A0_4 l0_4.length c0_4) := hS_
          refine norm_ (a' := ?_) ?_ ?_
          rotate_left
          ·simp only [putAll, Act.put, List.setIfInBounds_toArray, List.set_cons_zero, List.set_cons_succ]
           rfl
          refine two_ (i := 3) (j := 7) (Ni := some 6) (Nj := some 10) #[true, true, true, true, true, true, false, false, true, true, false, false, false] #[true, true, true, false, true, true, false, true, true, true, false, false, false] rfl rfl rfl rfl (two_of HT_.out (by kernel_rfl)) (by decide) (by decide) (fun K hK => ?_) (fun K hK => ?_)
          ·skip
           refine Kd.R_lit_step k60 _ 60 ?hg (N := 6) ?hd (xs := ([] : List (S60))) (inner := []) (ok := fun _ => True) (okp := fun _ => True) ?hr ?hp (fun _ hk => hk) trivial (Below.refl _ _) (Nat.le_refl _) (by simp) ?_; (case hd => rfl); (case hg => rfl); (case hr => first | (go_simp; done) | (go_simp; rfl)); (case hp => exact (Reps.none _ _))
           intro v535 w10 ho11 hb hg_ hnew_
           clear hg_ hnew_
           (first | rw [← Ny534.out] at ho11 | (simp only [Int.reduceToNat] at ho11; rw [← Ny534.out] at ho11))
           replace HO533 := rb HO533 hb
           have HO536 := rl ho11
           replace BK527 := zb BK527 hb
           replace BK528 := zb BK528 hb
           replace HB := sb hb
           clear hb ho11
           refine hK.out _ _ cl (fun hHeld => ?_)
           clear hK K
           refine norm_ (a' := ?_) ?_ ?_
           rotate_left
           ·show Act.put _ (some 6) _ = _
            simp only [Act.put, List.setIfInBounds_toArray, List.set_cons_zero, List.set_cons_succ, i64_w, i32_w]
            rfl
           exact norm_ (by first | (simp only [putAll, Act.put, List.setIfInBounds_toArray, List.set_cons_zero, List.set_cons_succ]; done) | (simp only [putAll, Act.put, List.setIfInBounds_toArray, List.set_cons_zero, List.set_cons_succ]; rfl)) (hJ2_3 (v532, v535) _ ⟨hHeld, (rq HO533), (rq HO536), (zq BK527), (zq BK528), bq⟩)
          ·skip
           refine Kd.R_lit_step k60 _ 60 ?hg (N := 10) ?hd (xs := ([] : List (S60))) (inner := []) (ok := fun _ => True) (okp := fun _ => True) ?hr ?hp (fun _ hk => hk) trivial (Below.refl _ _) (Nat.le_refl _) (by simp) ?_; (case hd => rfl); (case hg => rfl); (case hr => first | (go_simp; done) | (go_simp; rfl)); (case hp => exact (Reps.none _ _))
           intro v541 w10 ho11 hb hg_ hnew_
           clear hg_ hnew_
           (first | rw [← Ny540.out] at ho11 | (simp only [Int.reduceToNat] at ho11; rw [← Ny540.out] at ho11))
           replace HO533 := rb HO533 hb
           have HO542 := rl ho11
           replace BK527 := zb BK527 hb
           replace BK528 := zb BK528 hb
           replace HB := sb hb
           clear hb ho11
           refine hK.out _ _ cl (fun hHeld => ?_)
           clear hK K
           refine norm_ (a' := ?_) ?_ ?_
           rotate_left
           ·show Act.put _ (some 10) _ = _
            simp only [Act.put, List.setIfInBounds_toArray, List.set_cons_zero, List.set_cons_succ, i64_w, i32_w]
            rfl
           exact norm_ (by first | (simp only [putAll, Act.put, List.setIfInBounds_toArray, List.set_cons_zero, List.set_cons_succ]; done) | (simp only [putAll, Act.put, List.setIfInBounds_toArray, List.set_cons_zero, List.set_cons_succ]; rfl)) (hJ2_7 (v532, v541) _ ⟨hHeld, (rq HO533), (rq HO542), (zq BK527), (zq BK528), bq⟩)
        ·skip
         rintro ⟨v535, v541⟩ w12 ⟨hS_, h0_, h1_, h2_, h3_, h4_⟩
         have n0_ : Aside0 (Kd.R k60 60 w12 w.heap.size (fun k_ => some k_ ≠ (v541 : Value).ownBlock) v535 y534) := ⟨h0_⟩
         have n1_ : Aside0 (Kd.R k60 60 w12 w.heap.size (fun k_ => some k_ ≠ (v535 : Value).ownBlock) v541 y540) := ⟨h1_⟩
         have n2_ : Aside0 (w12.heap[gb527]? = some (.cells #[.int .i64 a0_0, .int .i64 a0_1, .slice A0_2 l0_2.length c0_2, .slice A0_3 l0_3.length c0_3, .slice A0_4 l0_4.length c0_4] 35 (0, 0))) := ⟨h2_⟩
         have n3_ : Aside0 (w12.heap[gb528]? = some (.cells #[.int .i64 0, .int .i64 0, .slice none 0 0, .slice none 0 0, .slice none 0 0] 35 (0, 0))) := ⟨h3_⟩
         have n4_ : Aside0 (Below w.heap.size w w12) := ⟨h4_⟩
         clear BK527 BK528 HB h0_ h1_ h2_ h3_ h4_
         have HO536 := n0_
         have HO542 := n1_
         have BK527 := n2_
         have BK528 := n3_
         have HB := n4_
         clear n0_ n1_ n2_ n3_ n4_
         have hHeld : w12.cell? ⟨gb527, 0, none⟩ = some (.int .i64 a0_0) ∧ w12.cell? ⟨gb527, 1, none⟩ = some (.int .i64 a0_1) ∧ w12.cell? ⟨gb527, 2, none⟩ = some (.slice A0_2 l0_2.length c0_2) ∧ w12.cell? ⟨gb527, 3, none⟩ = some (.slice A0_3 l0_3.length c0_3) ∧ w12.cell? ⟨gb527, 4, none⟩ = some (.slice A0_4 l0_4.length c0_4) := hS_
         refine norm_ (a' := ?_) ?_ ?_
         rotate_left
         ·simp only [putAll, Act.put, List.setIfInBounds_toArray, List.set_cons_zero, List.set_cons_succ]
          rfl
         refine one_ (i := 2) (N := some 5) #[true, true, true, true, true, true, false, true, true, true, false, false, false] rfl rfl (one_of HT_.out (by kernel_rfl)) (by decide) (fun K hK => ?_)
         refine goes_ Try.func67 (by kernel_rfl) rfl #[.agg #[.int .i64 a0_0, .int .i64 a0_1, .slice A0_2 l0_2.length c0_2]] (by rfl) rfl rfl mq ?_
         with_reducible refine (impl_copyBoard.calls a0_0 a0_1 _ _ l0_2 t529 t530 t531 _ ?s1 ?s2 A2.out).mono ?_
         (case s1 => exact cq (Kd.C_below HR0_2.out HB.out))
         (case s2 => exact HC0_2.out)
         rintro e w13 ⟨v532, rfl, ho0, hb⟩
         refine ⟨_, rfl, ?_⟩
         replace HO536 := rb HO536 hb
         replace HO542 := rb HO542 hb
         have HO533 := rl ho0
         replace BK527 := zb BK527 hb
         replace BK528 := zb BK528 hb
         replace HB := sb hb
         (try clear hb ho0)
         refine hK.out _ _ cl (fun hHeld => ?_)
         clear hK K
         refine norm_ (a' := ?_) ?_ ?_
         rotate_left
         ·show Act.put _ (some 5) _ = _
          simp only [Act.put, List.setIfInBounds_toArray, List.set_cons_zero, List.set_cons_succ, i64_w, i32_w]
          rfl
         exact norm_ (by first | (simp only [putAll, Act.put, List.setIfInBounds_toArray, List.set_cons_zero, List.set_cons_succ]; done) | (simp only [putAll, Act.put, List.setIfInBounds_toArray, List.set_cons_zero, List.set_cons_succ]; rfl)) (hJ2_3_7 (v532, v535, v541) _ ⟨hHeld, (rq HO533), (rq HO536), (rq HO542), (zq BK527), (zq BK528), bq⟩)
       ·skip
        rintro ⟨v532, v541⟩ w11 ⟨hS_, h0_, h1_, h2_, h3_, h4_⟩
        have n0_ : Aside0 (Kd.R k58 58 w11 w.heap.size (fun _ => True) v532 t531) := ⟨h0_⟩
        have n1_ : Aside0 (Kd.R k60 60 w11 w.heap.size (fun _ => True) v541 y540) := ⟨h1_⟩
        have n2_ : Aside0 (w11.heap[gb527]? = some (.cells #[.int .i64 a0_0, .int .i64 a0_1, .slice A0_2 l0_2.length c0_2, .slice A0_3 l0_3.length c0_3, .slice A0_4 l0_4.length c0_4] 35 (0, 0))) := ⟨h2_⟩
        have n3_ : Aside0 (w11.heap[gb528]? = some (.cells #[.int .i64 0, .int .i64 0, .slice none 0 0, .slice none 0 0, .slice none 0 0] 35 (0, 0))) := ⟨h3_⟩
        have n4_ : Aside0 (Below w.heap.size w w11) := ⟨h4_⟩
        clear BK527 BK528 HB h0_ h1_ h2_ h3_ h4_
        have HO533 := n0_
        have HO542 := n1_
        have BK527 := n2_
        have BK528 := n3_
        have HB := n4_
        clear n0_ n1_ n2_ n3_ n4_
        have hHeld : w11.cell? ⟨gb527, 0, none⟩ = some (.int .i64 a0_0) ∧ w11.cell? ⟨gb527, 1, none⟩ = some (.int .i64 a0_1) ∧ w11.cell? ⟨gb527, 2, none⟩ = some (.slice A0_2 l0_2.length c0_2) ∧ w11.cell? ⟨gb527, 3, none⟩ = some (.slice A0_3 l0_3.length c0_3) ∧ w11.cell? ⟨gb527, 4, none⟩ = some (.slice A0_4 l0_4.length c0_4) := hS_
        refine norm_ (a' := ?_) ?_ ?_
        rotate_left
        ·simp only [putAll, Act.put, List.setIfInBounds_toArray, List.set_cons_zero, List.set_cons_succ]
         rfl
        refine one_ (i := 3) (N := some 6) #[true, true, true, true, true, true, false, true, true, true, false, false, false] rfl rfl (one_of HT_.out (by kernel_rfl)) (by decide) (fun K hK => ?_)
        refine Kd.R_lit_step k60 _ 60 ?hg (N := 6) ?hd (xs := ([] : List (S60))) (inner := []) (ok := fun _ => True) (okp := fun _ => True) ?hr ?hp (fun _ hk => hk) trivial (Below.refl _ _) (Nat.le_refl _) (by simp) ?_; (case hd => rfl); (case hg => rfl); (case hr => first | (go_simp; done) | (go_simp; rfl)); (case hp => exact (Reps.none _ _))
        intro v535 w12 ho13 hb hg_ hnew_
        clear hg_ hnew_
        (first | rw [← Ny534.out] at ho13 | (simp only [Int.reduceToNat] at ho13; rw [← Ny534.out] at ho13))
        replace HO533 := rb HO533 hb
        have HO536 := rl (Kd.R_new' ho13 (lw HO542))
        replace HO542 := am (Kd.R_elder' (rq HO542) (Kd.R_base ho13) hb)
        replace BK527 := zb BK527 hb
        replace BK528 := zb BK528 hb
        replace HB := sb hb
        clear hb ho13
        refine hK.out _ _ cl (fun hHeld => ?_)
        clear hK K
        refine norm_ (a' := ?_) ?_ ?_
        rotate_left
        ·show Act.put _ (some 6) _ = _
         simp only [Act.put, List.setIfInBounds_toArray, List.set_cons_zero, List.set_cons_succ, i64_w, i32_w]
         rfl
        exact norm_ (by first | (simp only [putAll, Act.put, List.setIfInBounds_toArray, List.set_cons_zero, List.set_cons_succ]; done) | (simp only [putAll, Act.put, List.setIfInBounds_toArray, List.set_cons_zero, List.set_cons_succ]; rfl)) (hJ2_3_7 (v532, v535, v541) _ ⟨hHeld, (rq HO533), (rm HO536), (rm HO542), (zq BK527), (zq BK528), bq⟩)
      ·skip
       rintro ⟨v532, v535⟩ w11 ⟨hS_, h0_, h1_, h2_, h3_, h4_⟩
       have n0_ : Aside0 (Kd.R k58 58 w11 w.heap.size (fun _ => True) v532 t531) := ⟨h0_⟩
       have n1_ : Aside0 (Kd.R k60 60 w11 w.heap.size (fun _ => True) v535 y534) := ⟨h1_⟩
       have n2_ : Aside0 (w11.heap[gb527]? = some (.cells #[.int .i64 a0_0, .int .i64 a0_1, .slice A0_2 l0_2.length c0_2, .slice A0_3 l0_3.length c0_3, .slice A0_4 l0_4.length c0_4] 35 (0, 0))) := ⟨h2_⟩
       have n3_ : Aside0 (w11.heap[gb528]? = some (.cells #[.int .i64 0, .int .i64 0, .slice none 0 0, .slice none 0 0, .slice none 0 0] 35 (0, 0))) := ⟨h3_⟩
       have n4_ : Aside0 (Below w.heap.size w w11) := ⟨h4_⟩
       clear BK527 BK528 HB h0_ h1_ h2_ h3_ h4_
       have HO533 := n0_
       have HO536 := n1_
       have BK527 := n2_
       have BK528 := n3_
       have HB := n4_
       clear n0_ n1_ n2_ n3_ n4_
       have hHeld : w11.cell? ⟨gb527, 0, none⟩ = some (.int .i64 a0_0) ∧ w11.cell? ⟨gb527, 1, none⟩ = some (.int .i64 a0_1) ∧ w11.cell? ⟨gb527, 2, none⟩ = some (.slice A0_2 l0_2.length c0_2) ∧ w11.cell? ⟨gb527, 3, none⟩ = some (.slice A0_3 l0_3.length c0_3) ∧ w11.cell? ⟨gb527, 4, none⟩ = some (.slice A0_4 l0_4.length c0_4) := hS_
       refine norm_ (a' := ?_) ?_ ?_
       rotate_left
       ·simp only [putAll, Act.put, List.setIfInBounds_toArray, List.set_cons_zero, List.set_cons_succ]
        rfl
       refine two_ (i := 6) (j := 7) (Ni := some 9) (Nj := some 10) #[true, true, true, true, true, true, true, false, true, true, false, false, false] #[true, true, true, true, true, true, false, true, true, true, false, false, false] rfl rfl rfl rfl (two_of HT_.out (by kernel_rfl)) (by decide) (by decide) (fun K hK => ?_) (fun K hK => ?_)
       ·skip
        refine Kd.R_append_rows_step k60 (w0 := w) w.heap.size (by rfl) (.tmp 6) (.tmp 8) 33 60 (.agg #[(.int .i64 0), (.int .i64 0), (.int .i64 0), (.int .i64 0), (.int .i64 0)]) 40 rfl Try.underlying33 info60 rfl (by decide) (by omega) v535 y534 l0_3 _ _ _ (fun _ => True) (fun _ => False) rfl rfl ?aO ?aR (fun _ _ h => h) (fun _ h => h.elim) ?aF ?aB ?aS ?aL ?_
        (case aR => repeat (first | exact (Kd.C_below HR0_3.out HB.out) | (with_reducible refine Kd.C_alloc ?_ _) | (with_reducible refine Kd.C_drewN ?_ _) | (with_reducible refine Kd.C_drew ?_)))
        (case aB => exact bq)
        (case aF => exact (fun _ _ => trivial))
        (case aO => exact (rq HO536))
        (case aS => exact (below_size bq))
        (case aL => have := LMc3.out; omega)
        intro v538 w12 ho hb hg hat
        rw [← Ny537.out] at ho
        have n0_ := am (blk_grown (g := gb527) (o := .cells #[.int .i64 a0_0, .int .i64 a0_1, .slice A0_2 l0_2.length c0_2, .slice A0_3 l0_3.length c0_3, .slice A0_4 l0_4.length c0_4] 35 (0, 0)) (zq BK527) hg (Kd.R_ne HO536.out BK527.out (by decide)))
        have n1_ := am (blk_grown (g := gb528) (o := .cells #[.int .i64 0, .int .i64 0, .slice none 0 0, .slice none 0 0, .slice none 0 0] 35 (0, 0)) (zq BK528) hg (Kd.R_ne HO536.out BK528.out (by decide)))
        have n2_ := am (Kd.R_over' (rq HO533) (Kd.R_typed (rq HO536)) (by decide) hg)
        have n3_ := am (hb)
        have n4_ := am (ho)
        clear BK527 BK528 HO533 HB HO536
        have BK527 := n0_
        have BK528 := n1_
        have HO533 := n2_
        have HB := n3_
        have HO539 := n4_
        clear n0_ n1_ n2_ n3_ n4_ ho hb hg hat
        refine hK.out _ _ cl (fun hHeld => ?_)
        clear hK K
        refine norm_ (a' := ?_) ?_ ?_
        rotate_left
        ·show Act.put _ (some 9) _ = _
         simp only [Act.put, List.setIfInBounds_toArray, List.set_cons_zero, List.set_cons_succ, i64_w, i32_w]
         rfl
        exact norm_ (by first | (simp only [putAll, Act.put, List.setIfInBounds_toArray, List.set_cons_zero, List.set_cons_succ]; done) | (simp only [putAll, Act.put, List.setIfInBounds_toArray, List.set_cons_zero, List.set_cons_succ]; rfl)) (hJ2_3_6 (v532, v535, v538) _ ⟨hHeld, (rq HO533), (rq HO539), (zq BK527), (zq BK528), bq⟩)
       ·skip
        refine Kd.R_lit_step k60 _ 60 ?hg (N := 10) ?hd (xs := ([] : List (S60))) (inner := []) (ok := fun _ => True) (okp := fun _ => True) ?hr ?hp (fun _ hk => hk) trivial (Below.refl _ _) (Nat.le_refl _) (by simp) ?_; (case hd => rfl); (case hg => rfl); (case hr => first | (go_simp; done) | (go_simp; rfl)); (case hp => exact (Reps.none _ _))
        intro v541 w12 ho13 hb hg_ hnew_
        clear hg_ hnew_
        (first | rw [← Ny540.out] at ho13 | (simp only [Int.reduceToNat] at ho13; rw [← Ny540.out] at ho13))
        replace HO533 := rb HO533 hb
        have HO542 := rl (Kd.R_new' ho13 (lw HO536))
        replace HO536 := am (Kd.R_elder' (rq HO536) (Kd.R_base ho13) hb)
        replace BK527 := zb BK527 hb
        replace BK528 := zb BK528 hb
        replace HB := sb hb
        clear hb ho13
        refine hK.out _ _ cl (fun hHeld => ?_)
        clear hK K
        refine norm_ (a' := ?_) ?_ ?_
        rotate_left
        ·show Act.put _ (some 10) _ = _
         simp only [Act.put, List.setIfInBounds_toArray, List.set_cons_zero, List.set_cons_succ, i64_w, i32_w]
         rfl
        exact norm_ (by first | (simp only [putAll, Act.put, List.setIfInBounds_toArray, List.set_cons_zero, List.set_cons_succ]; done) | (simp only [putAll, Act.put, List.setIfInBounds_toArray, List.set_cons_zero, List.set_cons_succ]; rfl)) (hJ2_3_7 (v532, v535, v541) _ ⟨hHeld, (rq HO533), (rm HO536), (rm HO542), (zq BK527), (zq BK528), bq⟩)
     ·skip
      rintro ⟨v532, v535, v541⟩ w13 ⟨hS_, h0_, h1_, h2_, h3_, h4_, h5_⟩
      have n0_ : Aside0 (Kd.R k58 58 w13 w.heap.size (fun _ => True) v532 t531) := ⟨h0_⟩
      have n1_ : Aside0 (Kd.R k60 60 w13 w.heap.size (fun k_ => some k_ ≠ (v541 : Value).ownBlock) v535 y534) := ⟨h1_⟩
      have n2_ : Aside0 (Kd.R k60 60 w13 w.heap.size (fun k_ => some k_ ≠ (v535 : Value).ownBlock) v541 y540) := ⟨h2_⟩
      have n3_ : Aside0 (w13.heap[gb527]? = some (.cells #[.int .i64 a0_0, .int .i64 a0_1, .slice A0_2 l0_2.length c0_2, .slice A0_3 l0_3.length c0_3, .slice A0_4 l0_4.length c0_4] 35 (0, 0))) := ⟨h3_⟩
      have n4_ : Aside0 (w13.heap[gb528]? = some (.cells #[.int .i64 0, .int .i64 0, .slice none 0 0, .slice none 0 0, .slice none 0 0] 35 (0, 0))) := ⟨h4_⟩
      have n5_ : Aside0 (Below w.heap.size w w13) := ⟨h5_⟩
      clear BK527 BK528 HB h0_ h1_ h2_ h3_ h4_ h5_
      have HO533 := n0_
      have HO536 := n1_
      have HO542 := n2_
      have BK527 := n3_
      have BK528 := n4_
      have HB := n5_
      clear n0_ n1_ n2_ n3_ n4_ n5_
      have hHeld : w13.cell? ⟨gb527, 0, none⟩ = some (.int .i64 a0_0) ∧ w13.cell? ⟨gb527, 1, none⟩ = some (.int .i64 a0_1) ∧ w13.cell? ⟨gb527, 2, none⟩ = some (.slice A0_2 l0_2.length c0_2) ∧ w13.cell? ⟨gb527, 3, none⟩ = some (.slice A0_3 l0_3.length c0_3) ∧ w13.cell? ⟨gb527, 4, none⟩ = some (.slice A0_4 l0_4.length c0_4) := hS_
      refine norm_ (a' := ?_) ?_ ?_
      rotate_left
      ·simp only [putAll, Act.put, List.setIfInBounds_toArray, List.set_cons_zero, List.set_cons_succ]
       rfl
      refine one_ (i := 6) (N := some 9) #[true, true, true, true, true, true, true, true, true, true, false, false, false] rfl rfl (one_of HT_.out (by kernel_rfl)) (by decide) (fun K hK => ?_)
      refine Kd.R_append_rows_step k60 (w0 := w) w.heap.size (by rfl) (.tmp 6) (.tmp 8) 33 60 (.agg #[(.int .i64 0), (.int .i64 0), (.int .i64 0), (.int .i64 0), (.int .i64 0)]) 40 rfl Try.underlying33 info60 rfl (by decide) (by omega) v535 y534 l0_3 _ _ _ (fun k_ => some k_ ≠ (v541 : Value).ownBlock) (fun _ => False) rfl rfl ?aO ?aR (fun _ _ h => h) (fun _ h => h.elim) ?aF ?aB ?aS ?aL ?_
      (case aR => repeat (first | exact (Kd.C_below HR0_3.out HB.out) | (with_reducible refine Kd.C_alloc ?_ _) | (with_reducible refine Kd.C_drewN ?_ _) | (with_reducible refine Kd.C_drew ?_)))
      (case aB => exact bq)
      (case aF => exact (fun k_ hk => Kd.fresh' (lw HO542) k_ hk))
      (case aO => exact (rq HO536))
      (case aS => exact (below_size bq))
      (case aL => have := LMc3.out; omega)
      intro v538 w14 ho hb hg hat
      rw [← Ny537.out] at ho
      have n0_ := am (blk_grown (g := gb527) (o := .cells #[.int .i64 a0_0, .int .i64 a0_1, .slice A0_2 l0_2.length c0_2, .slice A0_3 l0_3.length c0_3, .slice A0_4 l0_4.length c0_4] 35 (0, 0)) (zq BK527) hg (Kd.R_ne HO536.out BK527.out (by decide)))
      have n1_ := am (blk_grown (g := gb528) (o := .cells #[.int .i64 0, .int .i64 0, .slice none 0 0, .slice none 0 0, .slice none 0 0] 35 (0, 0)) (zq BK528) hg (Kd.R_ne HO536.out BK528.out (by decide)))
      have n2_ := am (Kd.R_over' (rq HO533) (Kd.R_typed (rq HO536)) (by decide) hg)
      have n3_ := am (Kd.R_after (ok := (fun _ => True)) (rm HO542) hg hat)
      have n4_ := am (hb)
      have n5_ := am (ho)
      clear BK527 BK528 HO533 HO542 HB HO536
      have BK527 := n0_
      have BK528 := n1_
      have HO533 := n2_
      have HO542 := n3_
      have HB := n4_
      have HO539 := n5_
      clear n0_ n1_ n2_ n3_ n4_ n5_ ho hb hg hat
      refine hK.out _ _ cl (fun hHeld => ?_)
      clear hK K
      refine norm_ (a' := ?_) ?_ ?_
      rotate_left
      ·show Act.put _ (some 9) _ = _
       simp only [Act.put, List.setIfInBounds_toArray, List.set_cons_zero, List.set_cons_succ, i64_w, i32_w]
       rfl
      exact norm_ (by first | (simp only [putAll, Act.put, List.setIfInBounds_toArray, List.set_cons_zero, List.set_cons_succ]; done) | (simp only [putAll, Act.put, List.setIfInBounds_toArray, List.set_cons_zero, List.set_cons_succ]; rfl)) (hJ2_3_6_7 (v532, v535, v538, v541) _ ⟨hHeld, (rq HO533), (rq HO539), (rm HO542), (zq BK527), (zq BK528), bq⟩)
    ·skip
     rintro ⟨v532, v535, v538⟩ w12 ⟨hS_, h0_, h1_, h2_, h3_, h4_⟩
     have n0_ : Aside0 (Kd.R k58 58 w12 w.heap.size (fun _ => True) v532 t531) := ⟨h0_⟩
     have n1_ : Aside0 (Kd.R k60 60 w12 w.heap.size (fun _ => True) v538 y537) := ⟨h1_⟩
     have n2_ : Aside0 (w12.heap[gb527]? = some (.cells #[.int .i64 a0_0, .int .i64 a0_1, .slice A0_2 l0_2.length c0_2, .slice A0_3 l0_3.length c0_3, .slice A0_4 l0_4.length c0_4] 35 (0, 0))) := ⟨h2_⟩
     have n3_ : Aside0 (w12.heap[gb528]? = some (.cells #[.int .i64 0, .int .i64 0, .slice none 0 0, .slice none 0 0, .slice none 0 0] 35 (0, 0))) := ⟨h3_⟩
     have n4_ : Aside0 (Below w.heap.size w w12) := ⟨h4_⟩
     clear BK527 BK528 HB h0_ h1_ h2_ h3_ h4_
     have HO533 := n0_
     have HO539 := n1_
     have BK527 := n2_
     have BK528 := n3_
     have HB := n4_
     clear n0_ n1_ n2_ n3_ n4_
     have hHeld : w12.cell? ⟨gb527, 0, none⟩ = some (.int .i64 a0_0) ∧ w12.cell? ⟨gb527, 1, none⟩ = some (.int .i64 a0_1) ∧ w12.cell? ⟨gb527, 2, none⟩ = some (.slice A0_2 l0_2.length c0_2) ∧ w12.cell? ⟨gb527, 3, none⟩ = some (.slice A0_3 l0_3.length c0_3) ∧ w12.cell? ⟨gb527, 4, none⟩ = some (.slice A0_4 l0_4.length c0_4) := hS_
     refine norm_ (a' := ?_) ?_ ?_
     rotate_left
     ·simp only [putAll, Act.put, List.setIfInBounds_toArray, List.set_cons_zero, List.set_cons_succ]
      rfl
     refine one_ (i := 7) (N := some 10) #[true, true, true, true, true, true, true, true, true, true, false, false, false] rfl rfl (one_of HT_.out (by kernel_rfl)) (by decide) (fun K hK => ?_)
     refine Kd.R_lit_step k60 _ 60 ?hg (N := 10) ?hd (xs := ([] : List (S60))) (inner := []) (ok := fun _ => True) (okp := fun _ => True) ?hr ?hp (fun _ hk => hk) trivial (Below.refl _ _) (Nat.le_refl _) (by simp) ?_; (case hd => rfl); (case hg => rfl); (case hr => first | (go_simp; done) | (go_simp; rfl)); (case hp => exact (Reps.none _ _))
     intro v541 w13 ho14 hb hg_ hnew_
     clear hg_ hnew_
     (first | rw [← Ny540.out] at ho14 | (simp only [Int.reduceToNat] at ho14; rw [← Ny540.out] at ho14))
     replace HO533 := rb HO533 hb
     have HO542 := rl (Kd.R_new' ho14 (lw HO539))
     replace HO539 := am (Kd.R_elder' (rq HO539) (Kd.R_base ho14) hb)
     replace BK527 := zb BK527 hb
     replace BK528 := zb BK528 hb
     replace HB := sb hb
     clear hb ho14
     refine hK.out _ _ cl (fun hHeld => ?_)
     clear hK K
     refine norm_ (a' := ?_) ?_ ?_
     rotate_left
     ·show Act.put _ (some 10) _ = _
      simp only [Act.put, List.setIfInBounds_toArray, List.set_cons_zero, List.set_cons_succ, i64_w, i32_w]
      rfl
     exact norm_ (by first | (simp only [putAll, Act.put, List.setIfInBounds_toArray, List.set_cons_zero, List.set_cons_succ]; done) | (simp only [putAll, Act.put, List.setIfInBounds_toArray, List.set_cons_zero, List.set_cons_succ]; rfl)) (hJ2_3_6_7 (v532, v535, v538, v541) _ ⟨hHeld, (rq HO533), (rm HO539), (rm HO542), (zq BK527), (zq BK528), bq⟩)
   rintro ⟨v532, v535, v538, v541⟩ w14 ⟨hS_, h0_, h1_, h2_, h3_, h4_, h5_⟩
   have n0_ : Aside0 (Kd.R k58 58 w14 w.heap.size (fun _ => True) v532 t531) := ⟨h0_⟩
   have n1_ : Aside0 (Kd.R k60 60 w14 w.heap.size (fun k_ => some k_ ≠ (v541 : Value).ownBlock) v538 y537) := ⟨h1_⟩
   have n2_ : Aside0 (Kd.R k60 60 w14 w.heap.size (fun k_ => some k_ ≠ (v538 : Value).ownBlock) v541 y540) := ⟨h2_⟩
   have n3_ : Aside0 (w14.heap[gb527]? = some (.cells #[.int .i64 a0_0, .int .i64 a0_1, .slice A0_2 l0_2.length c0_2, .slice A0_3 l0_3.length c0_3, .slice A0_4 l0_4.length c0_4] 35 (0, 0))) := ⟨h3_⟩
   have n4_ : Aside0 (w14.heap[gb528]? = some (.cells #[.int .i64 0, .int .i64 0, .slice none 0 0, .slice none 0 0, .slice none 0 0] 35 (0, 0))) := ⟨h4_⟩
   have n5_ : Aside0 (Below w.heap.size w w14) := ⟨h5_⟩
   clear BK527 BK528 HB h0_ h1_ h2_ h3_ h4_ h5_
   have HO533 := n0_
   have HO539 := n1_
   have HO542 := n2_
   have BK527 := n3_
   have BK528 := n4_
   have HB := n5_
   clear n0_ n1_ n2_ n3_ n4_ n5_
   have hHeld : w14.cell? ⟨gb527, 0, none⟩ = some (.int .i64 a0_0) ∧ w14.cell? ⟨gb527, 1, none⟩ = some (.int .i64 a0_1) ∧ w14.cell? ⟨gb527, 2, none⟩ = some (.slice A0_2 l0_2.length c0_2) ∧ w14.cell? ⟨gb527, 3, none⟩ = some (.slice A0_3 l0_3.length c0_3) ∧ w14.cell? ⟨gb527, 4, none⟩ = some (.slice A0_4 l0_4.length c0_4) := hS_
   refine norm_ (a' := ?_) ?_ ?_
   rotate_left
   ·simp only [putAll, Act.put, List.setIfInBounds_toArray, List.set_cons_zero, List.set_cons_succ]
    rfl
   refine one_ (i := 10) (N := some 13) #[true, true, true, true, true, true, true, true, true, true, true, false, false] rfl rfl (one_of HT_.out (by kernel_rfl)) (by decide) (fun K hK => ?_)
   refine Kd.R_append_rows_step k60 (w0 := w) w.heap.size (by rfl) (.tmp 10) (.tmp 12) 33 60 (.agg #[(.int .i64 0), (.int .i64 0), (.int .i64 0), (.int .i64 0), (.int .i64 0)]) 40 rfl Try.underlying33 info60 rfl (by decide) (by omega) v541 y540 l0_4 _ _ _ (fun k_ => some k_ ≠ (v538 : Value).ownBlock) (fun _ => False) rfl rfl ?aO ?aR (fun _ _ h => h) (fun _ h => h.elim) ?aF ?aB ?aS ?aL ?_
   (case aR => repeat (first | exact (Kd.C_below HR0_4.out HB.out) | (with_reducible refine Kd.C_alloc ?_ _) | (with_reducible refine Kd.C_drewN ?_ _) | (with_reducible refine Kd.C_drew ?_)))
   (case aB => exact bq)
   (case aF => exact (fun k_ hk => Kd.fresh' (lw HO539) k_ hk))
   (case aO => exact (rq HO542))
   (case aS => exact (below_size bq))
   (case aL => have := LMc4.out; omega)
   intro v544 w15 ho hb hg hat
   rw [← Ny543.out] at ho
   have n0_ := am (blk_grown (g := gb527) (o := .cells #[.int .i64 a0_0, .int .i64 a0_1, .slice A0_2 l0_2.length c0_2, .slice A0_3 l0_3.length c0_3, .slice A0_4 l0_4.length c0_4] 35 (0, 0)) (zq BK527) hg (Kd.R_ne HO542.out BK527.out (by decide)))
   have n1_ := am (blk_grown (g := gb528) (o := .cells #[.int .i64 0, .int .i64 0, .slice none 0 0, .slice none 0 0, .slice none 0 0] 35 (0, 0)) (zq BK528) hg (Kd.R_ne HO542.out BK528.out (by decide)))
   have n2_ := am (Kd.R_over' (rq HO533) (Kd.R_typed (rq HO542)) (by decide) hg)
   have n3_ := am (Kd.R_after (ok := (fun _ => True)) (rm HO539) hg hat)
   have n4_ := am (hb)
   have n5_ := am (ho)
   clear BK527 BK528 HO533 HO539 HB HO542
   have BK527 := n0_
   have BK528 := n1_
   have HO533 := n2_
   have HO539 := n3_
   have HB := n4_
   have HO545 := n5_
   clear n0_ n1_ n2_ n3_ n4_ n5_ ho hb hg hat
   obtain ⟨Ao16, co16, eo16⟩ := Kd.R_slice HO545.out
   (first | subst eo16 | (injection eo16 with f1_ f2_ f3_; have f4_ := f1_.symm; have f5_ := f3_.symm; clear f1_ f2_ f3_; subst f4_; subst f5_))
   obtain ⟨Ao17, co17, eo17⟩ := Kd.R_slice HO539.out
   (first | subst eo17 | (injection eo17 with f1_ f2_ f3_; have f4_ := f1_.symm; have f5_ := f3_.symm; clear f1_ f2_ f3_; subst f4_; subst f5_))
   obtain ⟨Ao18, co18, eo18⟩ := Kd.R_slice HO533.out
   (first | subst eo18 | (injection eo18 with f1_ f2_ f3_; have f4_ := f1_.symm; have f5_ := f3_.symm; clear f1_ f2_ f3_; subst f4_; subst f5_))
   refine hK.out _ _ cl (fun hHeld => ?_)
   clear hK K
   refine norm_ (a' := ?_) ?_ ?_
   rotate_left
   ·show Act.put _ (some 13) _ = _
    simp only [Act.put, List.setIfInBounds_toArray, List.set_cons_zero, List.set_cons_succ, i64_w, i32_w]
    rfl
   refine pure_ (i := 11) (N := some 14) (v := ?_) (a' := ?_) #[true, true, true, true, true, true, true, true, true, true, true, true, false] rfl rfl (any_of HT_.out (by kernel_rfl)) (fun _ _ _ h => h) (Or.inl ⟨by rfl, ?_⟩) ?_ ?_
   rotate_left
   ·intro w'
    go_simp
    with_reducible rfl
   rotate_left
   ·simp only [Act.put, List.setIfInBounds_toArray, List.set_cons_zero, List.set_cons_succ, i64_w, i32_w]
    rfl
   refine one_ (i := 12) (N := none) #[true, true, true, true, true, true, true, true, true, true, true, true, true] rfl rfl (one_of HT_.out (by kernel_rfl)) (by decide) (fun K hK => ?_)
   have hs19 : w15.cell? ⟨gb528, 0, none⟩ = some (.int .i64 0) := (blk_cell BK528.out 0).trans rfl
   have hfs19 := blk_frozen BK528.out 0
   have hns19_0 := NB527_528.out
   have hms19_0 := NB528_527.out
   have hs20 : w15.cell? ⟨gb528, 1, none⟩ = some (.int .i64 0) := (blk_cell BK528.out 1).trans rfl
   have hfs20 := blk_frozen BK528.out 1
   have hns20_0 := NB527_528.out
   have hms20_0 := NB528_527.out
   have hs21 : w15.cell? ⟨gb528, 2, none⟩ = some (.slice none 0 0) := (blk_cell BK528.out 2).trans rfl
   have hfs21 := blk_frozen BK528.out 2
   have hns21_0 := NB527_528.out
   have hms21_0 := NB528_527.out
   have hs22 : w15.cell? ⟨gb528, 3, none⟩ = some (.slice none 0 0) := (blk_cell BK528.out 3).trans rfl
   have hfs22 := blk_frozen BK528.out 3
   have hns22_0 := NB527_528.out
   have hms22_0 := NB528_527.out
   have hs23 : w15.cell? ⟨gb528, 4, none⟩ = some (.slice none 0 0) := (blk_cell BK528.out 4).trans rfl
   have hfs23 := blk_frozen BK528.out 4
   have hns23_0 := NB527_528.out
   have hms23_0 := NB528_527.out
   refine skip_ (w1 := ?_) (by rfl) rfl ?_ ?_
   rotate_left
   ·go_simp
    rfl
   refine hK.out _ _ (chf hHeld) (fun hHeld => ?_)
   clear hK K
   refine done_ (done_of HT_.out (by kernel_rfl)) ?_
   try go_wp2
   refine bodyPost_ret (results_cell_row rfl _ _ gb528 35 #[.int .i64 t529, .int .i64 t530, .slice Ao18 t531.length co18, .slice Ao17 y537.length co17, .slice Ao16 y543.length co16] (0, 0) _ rfl (zp BK528) Try.underlying35 rfl (by kernel_rfl)) rfl ?_
   exact ⟨_, _, _, eq_, Kd.R_mono (ff HO533 BK528) (fun _ hk => trivial), Kd.R_mono (ff HO539 BK528) (fun _ hk => hk.1.2), Kd.R_mono (ff HO545 BK528) (fun _ hk => hk.1), bq⟩
  ·rw [if_neg c4] at H
   exact absurd H (by simp)
 ·rw [if_neg c3] at H
  exact absurd H (by simp)



/-! ### impl_ActOnce: function 38 -/
def impl_ActOnce.f (k : Nat) (a0_0 : Int) (a0_1 : Int) (l0_2 : List (S58)) (l0_3 : List (S60)) (l0_4 : List (S60)) (a1_0 : Int) (a1_1 : Int) (a1_2 : Int) (a1_3 : Int) (a1_4 : Int) : Option (Int × Int × (List (S58)) × (List (S60)) × (List (S60)) × Bool) := (impl_IsSession.f k a0_0 a0_1 l0_2 l0_3 l0_4).bind fun t851 => (if t851 = true then ((impl_isAct.f k a0_0 a0_1 l0_2 a1_0 a1_1 a1_2 a1_3 a1_4).bind fun t852 => (if t852 = true then (if (l0_3.length : Int) ≥ 40 then (some (0, 0, ([] : List (S58)), ([] : List (S60)), ([] : List (S60)), false)) else ((impl_copySession.f a0_0 a0_1 l0_2 l0_3 l0_4).bind fun bt853 => (if bt853.2.2.2.1.length < 3518437208883 then (some (bt853.1, bt853.2.1, bt853.2.2.1, (bt853.2.2.2.1 ++ [(⟨a1_0, a1_1, a1_2, (⟨a1_3, a1_4⟩ : S58)⟩ : S60)]), ([] : List (S60)), true)) else (none)))) else (some (0, 0, ([] : List (S58)), ([] : List (S60)), ([] : List (S60)), false)))) else (some (0, 0, ([] : List (S58)), ([] : List (S60)), ([] : List (S60)), false)))
theorem impl_ActOnce.mono : ∀ a0 a1 a2 a3 a4 a5 a6 a7 a8 a9 k, LeO (impl_ActOnce.f k a0 a1 a2 a3 a4 a5 a6 a7 a8 a9) (impl_ActOnce.f (k + 1) a0 a1 a2 a3 a4 a5 a6 a7 a8 a9) := by
 intro a0 a1 a2 a3 a4 a5 a6 a7 a8 a9 k
 unfold impl_ActOnce.f
 repeat' first
   | (with_reducible exact impl_IsSession.mono _ _ _ _ _ _)
   | (with_reducible exact impl_isAct.mono _ _ _ _ _ _ _ _ _)
   | (with_reducible exact LeO.refl _)
   | (with_reducible exact LeO.none _)
   | (with_reducible refine LeO.ite ?_ ?_)
   | (with_reducible refine LeO.bind ?_ (fun _ => ?_))
   | exact impl_IsSession.mono _ _ _ _ _ _
   | exact impl_isAct.mono _ _ _ _ _ _ _ _ _
   | exact LeO.none _
   | refine LeO.ite ?_ ?_
   | refine LeO.bind ?_ (fun _ => ?_)
set_option maxHeartbeats 8000000 in
set_option maxRecDepth 100000 in
theorem impl_ActOnce.calls (k : Nat) (a0_0 : Int) (a0_1 : Int) (A0_2 : Option Addr) (c0_2 : Nat) (l0_2 : List (S58)) (A0_3 : Option Addr) (c0_3 : Nat) (l0_3 : List (S60)) (A0_4 : Option Addr) (c0_4 : Nat) (l0_4 : List (S60)) (a1_0 : Int) (a1_1 : Int) (a1_2 : Int) (a1_3 : Int) (a1_4 : Int) (r1 : Int) (r2 : Int) (r3 : List (S58)) (r4 : List (S60)) (r5 : List (S60)) (r6 : Bool) (w : World) (hr0_2 : Kd.C k58 w A0_2 l0_2.length l0_2) (hc0_2 : l0_2.length ≤ c0_2) (hr0_3 : Kd.C k60 w A0_3 l0_3.length l0_3) (hc0_3 : l0_3.length ≤ c0_3) (hr0_4 : Kd.C k60 w A0_4 l0_4.length l0_4) (hc0_4 : l0_4.length ≤ c0_4) (h : impl_ActOnce.f k a0_0 a0_1 l0_2 l0_3 l0_4 a1_0 a1_1 a1_2 a1_3 a1_4 = some (r1, r2, r3, r4, r5, r6)) :
  Calls Try.prog 38 #[.agg #[.int .i64 a0_0, .int .i64 a0_1, .slice A0_2 l0_2.length c0_2, .slice A0_3 l0_3.length c0_3, .slice A0_4 l0_4.length c0_4], .agg #[.int .i64 a1_0, .int .i64 a1_1, .int .i64 a1_2, .int .i64 a1_3, .int .i64 a1_4]] w fun e w' => ∃ v2_ v3_ v4_ : Value, e = .returned (.tuple #[.agg #[.int .i64 r1, .int .i64 r2, v2_, v3_, v4_], .bool r6]) ∧ Kd.R k58 58 w' w.heap.size (fun _ => True) v2_ r3 ∧ Kd.R k60 60 w' w.heap.size (fun k_ => some k_ ≠ (v4_ : Value).ownBlock) v3_ r4 ∧ Kd.R k60 60 w' w.heap.size (fun k_ => some k_ ≠ (v3_ : Value).ownBlock) v4_ r5 ∧ Below w.heap.size w w' := by
 have hu35 := Try.underlying35
 have hu60 := Try.underlying60
 have hu32 := Try.underlying32
 have HR0_2 := am hr0_2
 have HC0_2 := am hc0_2
 clear hr0_2 hc0_2
 have HR0_3 := am hr0_3
 have HC0_3 := am hc0_3
 clear hr0_3 hc0_3
 have HR0_4 := am hr0_4
 have HC0_4 := am hc0_4
 clear hr0_4 hc0_4
 have HB := am (Below.refl w.heap.size w)
 have H : ((impl_IsSession.f k a0_0 a0_1 l0_2 l0_3 l0_4).bind fun t851 => (if t851 = true then ((impl_isAct.f k a0_0 a0_1 l0_2 a1_0 a1_1 a1_2 a1_3 a1_4).bind fun t852 => (if t852 = true then (if (l0_3.length : Int) ≥ 40 then (some (0, 0, ([] : List (S58)), ([] : List (S60)), ([] : List (S60)), false)) else ((impl_copySession.f a0_0 a0_1 l0_2 l0_3 l0_4).bind fun bt853 => (if bt853.2.2.2.1.length < 3518437208883 then (some (bt853.1, bt853.2.1, bt853.2.2.1, (bt853.2.2.2.1 ++ [(⟨a1_0, a1_1, a1_2, (⟨a1_3, a1_4⟩ : S58)⟩ : S60)]), ([] : List (S60)), true)) else (none)))) else (some (0, 0, ([] : List (S58)), ([] : List (S60)), ([] : List (S60)), false)))) else (some (0, 0, ([] : List (S58)), ([] : List (S60)), ([] : List (S60)), false)))) = some (r1, r2, r3, r4, r5, r6) := h
 clear h
 obtain ⟨t851, A3, H⟩ := bindq H
 try dsimp only at H
 by_cases c4 : t851 = true
 ·subst c4
  rw [if_pos rfl] at H
  try dsimp only at H
  obtain ⟨t852, A5, H⟩ := bindq H
  try dsimp only at H
  by_cases c6 : t852 = true
  ·subst c6
   rw [if_pos rfl] at H
   try dsimp only at H
   by_cases c7 : (l0_3.length : Int) ≥ 40
   ·rw [if_pos c7] at H
    have c7b0 : decide (40 ≤ (l0_3.length : Int)) = true := decide_eq_true c7
    have c7b1 : decide (40 ≤ l0_3.length) = true := decide_eq_true (by omega)
    clear c7
    simp only [Option.some.injEq, Prod.mk.injEq] at H
    obtain ⟨rfl, rfl, rfl, rfl, rfl, rfl⟩ := H
    go_enter Try.func38, Try.ntmps38
    go_wp2_with (first | ((with_reducible refine gate_dst (N := 2) rfl ?_); (try (refine gate_guard (by rfl) ?_; dsimp only)); refine box_event ?hg (N := 2) ?hd (cs := #[.int .i64 a0_0, .int .i64 a0_1, .slice A0_2 l0_2.length c0_2, .slice A0_3 l0_3.length c0_3, .slice A0_4 l0_4.length c0_4]) (t := 35) ?hr ?_; (case hd => rfl); (case hg => rfl); (case hr => first | (go_simp; done) | (go_simp; rfl)); intro gb848 hg w8 hbox hb; have BK848 := am (hbox); have GW848 := am (gq hg); have GE848 := am (gq hg); replace HB := sb hb; clear hb hbox hg) | ((with_reducible refine gate_dst (N := 3) rfl ?_); (try (refine gate_guard (by rfl) ?_; dsimp only)); refine box_event ?hg (N := 3) ?hd (cs := #[.int .i64 a1_0, .int .i64 a1_1, .int .i64 a1_2, .int .i64 a1_3, .int .i64 a1_4]) (t := 60) ?hr ?_; (case hd => rfl); (case hg => rfl); (case hr => first | (go_simp; done) | (go_simp; rfl)); intro gb849 hg w9 hbox hb; have BK849 := am (hbox); have GW849 := am (gq hg); have GE849 := am (gq hg); replace HB := sb hb; have NB848_849 := nl hg BK848; have NB849_848 := ng hg BK848; replace BK848 := zb BK848 hb; clear hb hbox hg) | ((with_reducible refine gate_dst (N := 4) rfl ?_); (try (refine gate_guard (by rfl) ?_; dsimp only)); refine box_event ?hg (N := 4) ?hd (cs := #[.int .i64 0, .int .i64 0, .slice none 0 0, .slice none 0 0, .slice none 0 0]) (t := 35) ?hr ?_; (case hd => rfl); (case hg => rfl); (case hr => first | (go_simp; done) | (go_simp; rfl)); intro gb850 hg w10 hbox hb; have BK850 := am (hbox); have GW850 := am (gq hg); have GE850 := am (gq hg); replace HB := sb hb; have NB848_850 := nl hg BK848; have NB850_848 := ng hg BK848; replace BK848 := zb BK848 hb; have NB849_850 := nl hg BK849; have NB850_849 := ng hg BK849; replace BK849 := zb BK849 hb; clear hb hbox hg; have hnb11 := NB848_849.out; have hnc11 := NB849_848.out; have hnb12 := NB848_850.out; have hnc12 := NB850_848.out; have ⟨hcz13_0, hcz13_1, hcz13_2, hcz13_3, hcz13_4, hfz13_0, hfz13_1, hfz13_2, hfz13_3, hfz13_4⟩ := bc5 BK848) | ((with_reducible refine gate_callee (f := 17) rfl ?_); refine goesQ (some 8) Try.func17 #[.agg #[.int .i64 a0_0, .int .i64 a0_1, .slice A0_2 l0_2.length c0_2, .slice A0_3 l0_3.length c0_3, .slice A0_4 l0_4.length c0_4]] ?_; (with_reducible refine (impl_IsSession.calls k a0_0 a0_1 _ _ l0_2 (fun k_ => k_ < w.heap.size) _ _ l0_3 (fun k_ => k_ < w.heap.size) _ _ l0_4 true _ ?s1 ?s2 ?s3 ?s4 A3.out).mono ?_); (case s1 => exact cq (Kd.C_below HR0_2.out HB.out)); (case s2 => exact HC0_2.out); (case s3 => exact Kd.V_mk HC0_3.out (Kd.F_below (Kd.C_F k60_heap HR0_3.out) bq)); (case s4 => exact Kd.V_mk HC0_4.out (Kd.F_below (Kd.C_F k60_heap HR0_4.out) bq)); rintro e w14 ⟨rfl, hb⟩; refine ⟨_, rfl, ?_⟩; replace BK848 := zb BK848 hb; replace BK849 := zb BK849 hb; replace BK850 := zb BK850 hb; replace HB := sb hb; (try clear hb); have ⟨hcz15_0, hcz15_1, hcz15_2, hcz15_3, hcz15_4, hfz15_0, hfz15_1, hfz15_2, hfz15_3, hfz15_4⟩ := bc5 BK848; have hnb16 := NB849_850.out; have hnc16 := NB850_849.out; have ⟨hcz17_0, hcz17_1, hcz17_2, hcz17_3, hcz17_4, hfz17_0, hfz17_1, hfz17_2, hfz17_3, hfz17_4⟩ := bc5 BK849) | (go_at_call 62; (with_reducible refine (impl_isAct.calls k a0_0 a0_1 _ _ l0_2 a1_0 a1_1 a1_2 a1_3 a1_4 true _ ?s1 ?s2 A5.out).mono ?_); (case s1 => exact cq (Kd.C_below HR0_2.out HB.out)); (case s2 => exact HC0_2.out); rintro e w18 ⟨rfl, hb⟩; replace BK848 := zb BK848 hb; replace BK849 := zb BK849 hb; replace BK850 := zb BK850 hb; replace HB := sb hb; (try clear hb); have ⟨hcz19_0, hcz19_1, hcz19_2, hcz19_3, hcz19_4, hfz19_0, hfz19_1, hfz19_2, hfz19_3, hfz19_4⟩ := bc5 BK848; have ⟨hcz20_0, hcz20_1, hcz20_2, hcz20_3, hcz20_4, hfz20_0, hfz20_1, hfz20_2, hfz20_3, hfz20_4⟩ := bc5 BK850))
    refine bodyPost_ret (results_ct rfl _ _ gb850 35 #[.int .i64 0, .int .i64 0, .slice none 0 0, .slice none 0 0, .slice none 0 0] (0, 0) _ rfl (zp BK850) Try.underlying35 rfl (by kernel_rfl)) rfl ?_
    exact ⟨_, _, _, eq_, by first | exact Kd.R_nil _ _ _ _ _ | exact Kd.N_nil _ _ _ _ _ | exact Kd.V_nil _ _ _ _ _ | exact Kd.Q_nil _ _ _ _ _ | exact Kd.S_nil _ _ _ _ _, by first | exact Kd.R_nil _ _ _ _ _ | exact Kd.N_nil _ _ _ _ _ | exact Kd.V_nil _ _ _ _ _ | exact Kd.Q_nil _ _ _ _ _ | exact Kd.S_nil _ _ _ _ _, by first | exact Kd.R_nil _ _ _ _ _ | exact Kd.N_nil _ _ _ _ _ | exact Kd.V_nil _ _ _ _ _ | exact Kd.Q_nil _ _ _ _ _ | exact Kd.S_nil _ _ _ _ _, bq⟩
   ·rw [if_neg c7] at H
    have c7b0 : decide (40 ≤ (l0_3.length : Int)) = false := decide_eq_false c7
    have c7b1 : decide (40 ≤ l0_3.length) = false := decide_eq_false (by omega)
    clear c7
    obtain ⟨⟨t853, t854, t855, t858, t861⟩, A21, H⟩ := bindq H
    try dsimp only at H
    by_cases c22 : t858.length < 3518437208883
    ·rw [if_pos c22] at H
     have LMc22 := am c22
     clear c22
     obtain ⟨y865, hy865⟩ : ∃ y_ : List (S60), y_ = (t858 ++ [(⟨a1_0, a1_1, a1_2, (⟨a1_3, a1_4⟩ : S58)⟩ : S60)]) := ⟨_, rfl⟩
     replace H : (some (t853, t854, t855, y865, ([] : List (S60)), true)) = some (r1, r2, r3, r4, r5, r6) := by first | (rw [hy865]; with_reducible exact H) | (have H2_ := (Option.bind_some _ _).symm.trans H; rw [hy865]; with_reducible exact H2_) | (have H2_ := (Option.bind_some _ _).symm.trans H; with_reducible exact H2_) | with_reducible exact H | (rw [hy865]; exact H) | exact H
     have Ny865 := am hy865
     clear hy865
     simp only [Option.some.injEq, Prod.mk.injEq] at H
     obtain ⟨rfl, rfl, rfl, rfl, rfl, rfl⟩ := H
     go_enter Try.func38, Try.ntmps38
     go_wp2_with (first | ((with_reducible refine gate_dst (N := 2) rfl ?_); (try (refine gate_guard (by rfl) ?_; dsimp only)); refine box_event ?hg (N := 2) ?hd (cs := #[.int .i64 a0_0, .int .i64 a0_1, .slice A0_2 l0_2.length c0_2, .slice A0_3 l0_3.length c0_3, .slice A0_4 l0_4.length c0_4]) (t := 35) ?hr ?_; (case hd => rfl); (case hg => rfl); (case hr => first | (go_simp; done) | (go_simp; rfl)); intro gb848 hg w23 hbox hb; have BK848 := am (hbox); have GW848 := am (gq hg); have GE848 := am (gq hg); replace HB := sb hb; clear hb hbox hg) | ((with_reducible refine gate_dst (N := 3) rfl ?_); (try (refine gate_guard (by rfl) ?_; dsimp only)); refine box_event ?hg (N := 3) ?hd (cs := #[.int .i64 a1_0, .int .i64 a1_1, .int .i64 a1_2, .int .i64 a1_3, .int .i64 a1_4]) (t := 60) ?hr ?_; (case hd => rfl); (case hg => rfl); (case hr => first | (go_simp; done) | (go_simp; rfl)); intro gb849 hg w24 hbox hb; have BK849 := am (hbox); have GW849 := am (gq hg); have GE849 := am (gq hg); replace HB := sb hb; have NB848_849 := nl hg BK848; have NB849_848 := ng hg BK848; replace BK848 := zb BK848 hb; clear hb hbox hg) | ((with_reducible refine gate_dst (N := 4) rfl ?_); (try (refine gate_guard (by rfl) ?_; dsimp only)); refine box_event ?hg (N := 4) ?hd (cs := #[.int .i64 0, .int .i64 0, .slice none 0 0, .slice none 0 0, .slice none 0 0]) (t := 35) ?hr ?_; (case hd => rfl); (case hg => rfl); (case hr => first | (go_simp; done) | (go_simp; rfl)); intro gb850 hg w25 hbox hb; have BK850 := am (hbox); have GW850 := am (gq hg); have GE850 := am (gq hg); replace HB := sb hb; have NB848_850 := nl hg BK848; have NB850_848 := ng hg BK848; replace BK848 := zb BK848 hb; have NB849_850 := nl hg BK849; have NB850_849 := ng hg BK849; replace BK849 := zb BK849 hb; clear hb hbox hg; have hnb26 := NB848_849.out; have hnc26 := NB849_848.out; have hnb27 := NB848_850.out; have hnc27 := NB850_848.out; have ⟨hcz28_0, hcz28_1, hcz28_2, hcz28_3, hcz28_4, hfz28_0, hfz28_1, hfz28_2, hfz28_3, hfz28_4⟩ := bc5 BK848) | ((with_reducible refine gate_callee (f := 17) rfl ?_); refine goesQ (some 8) Try.func17 #[.agg #[.int .i64 a0_0, .int .i64 a0_1, .slice A0_2 l0_2.length c0_2, .slice A0_3 l0_3.length c0_3, .slice A0_4 l0_4.length c0_4]] ?_; (with_reducible refine (impl_IsSession.calls k a0_0 a0_1 _ _ l0_2 (fun k_ => k_ < w.heap.size) _ _ l0_3 (fun k_ => k_ < w.heap.size) _ _ l0_4 true _ ?s1 ?s2 ?s3 ?s4 A3.out).mono ?_); (case s1 => exact cq (Kd.C_below HR0_2.out HB.out)); (case s2 => exact HC0_2.out); (case s3 => exact Kd.V_mk HC0_3.out (Kd.F_below (Kd.C_F k60_heap HR0_3.out) bq)); (case s4 => exact Kd.V_mk HC0_4.out (Kd.F_below (Kd.C_F k60_heap HR0_4.out) bq)); rintro e w29 ⟨rfl, hb⟩; refine ⟨_, rfl, ?_⟩; replace BK848 := zb BK848 hb; replace BK849 := zb BK849 hb; replace BK850 := zb BK850 hb; replace HB := sb hb; (try clear hb); have ⟨hcz30_0, hcz30_1, hcz30_2, hcz30_3, hcz30_4, hfz30_0, hfz30_1, hfz30_2, hfz30_3, hfz30_4⟩ := bc5 BK848; have hnb31 := NB849_850.out; have hnc31 := NB850_849.out; have ⟨hcz32_0, hcz32_1, hcz32_2, hcz32_3, hcz32_4, hfz32_0, hfz32_1, hfz32_2, hfz32_3, hfz32_4⟩ := bc5 BK849) | (go_at_call 62; (with_reducible refine (impl_isAct.calls k a0_0 a0_1 _ _ l0_2 a1_0 a1_1 a1_2 a1_3 a1_4 true _ ?s1 ?s2 A5.out).mono ?_); (case s1 => exact cq (Kd.C_below HR0_2.out HB.out)); (case s2 => exact HC0_2.out); rintro e w33 ⟨rfl, hb⟩; replace BK848 := zb BK848 hb; replace BK849 := zb BK849 hb; replace BK850 := zb BK850 hb; replace HB := sb hb; (try clear hb); have ⟨hcz34_0, hcz34_1, hcz34_2, hcz34_3, hcz34_4, hfz34_0, hfz34_1, hfz34_2, hfz34_3, hfz34_4⟩ := bc5 BK848) | ((with_reducible refine gate_callee (f := 72) rfl ?_); refine goesQ (some 25) Try.func72 #[.agg #[.int .i64 a0_0, .int .i64 a0_1, .slice A0_2 l0_2.length c0_2, .slice A0_3 l0_3.length c0_3, .slice A0_4 l0_4.length c0_4]] ?_; (with_reducible refine (impl_copySession.calls a0_0 a0_1 _ _ l0_2 _ _ l0_3 _ _ l0_4 t853 t854 t855 t858 t861 _ ?s1 ?s2 ?s3 ?s4 ?s5 ?s6 A21.out).mono ?_); (case s1 => exact cq (Kd.C_below HR0_2.out HB.out)); (case s2 => exact HC0_2.out); (case s3 => exact cq (Kd.C_below HR0_3.out HB.out)); (case s4 => exact HC0_3.out); (case s5 => exact cq (Kd.C_below HR0_4.out HB.out)); (case s6 => exact HC0_4.out); rintro e w35 ⟨v856, v859, v862, rfl, ho0, ho1, ho2, hb⟩; refine ⟨_, rfl, ?_⟩; have HO857 := rl ho0; have HO860 := am (Kd.R_lower (Kd.R_newB ho1 (g := gb849) (o := .cells #[.int .i64 a1_0, .int .i64 a1_1, .int .i64 a1_2, .int .i64 a1_3, .int .i64 a1_4] 60 (0, 0)) (zq BK849)) (below_size bq)); have HO863 := am (Kd.R_lower (Kd.R_newB ho2 (g := gb849) (o := .cells #[.int .i64 a1_0, .int .i64 a1_1, .int .i64 a1_2, .int .i64 a1_3, .int .i64 a1_4] 60 (0, 0)) (zq BK849)) (below_size bq)); replace BK848 := zb BK848 hb; replace BK849 := zb BK849 hb; replace BK850 := zb BK850 hb; replace HB := sb hb; (try clear hb ho0 ho1 ho2)) | ((with_reducible refine gate_dst (N := 6) rfl ?_); (try (refine gate_guard (by rfl) ?_; dsimp only)); refine box_event ?hg (N := 6) ?hd (cs := #[.int .i64 0, .int .i64 0, .slice none 0 0, .slice none 0 0, .slice none 0 0]) (t := 35) ?hr ?_; (case hd => rfl); (case hg => rfl); (case hr => first | (go_simp; done) | (go_simp; rfl)); intro gb864 hg w36 hbox hb; replace HO857 := rb HO857 hb; replace HO860 := rb HO860 hb; replace HO863 := rb HO863 hb; have BK864 := am (hbox); have GW864 := am (gq hg); have GE864 := am (gq hg); replace HB := sb hb; have NB848_864 := nl hg BK848; have NB864_848 := ng hg BK848; replace BK848 := zb BK848 hb; have NB849_864 := nl hg BK849; have NB864_849 := ng hg BK849; replace BK849 := zb BK849 hb; have NB850_864 := nl hg BK850; have NB864_850 := ng hg BK850; replace BK850 := zb BK850 hb; clear hb hbox hg; have hnb37 := NB864_848.out; have hnc37 := NB848_864.out; have hnb38 := NB864_849.out; have hnc38 := NB849_864.out; have hnb39 := NB864_850.out; have hnc39 := NB850_864.out; have ⟨hcz40_0, hcz40_1, hcz40_2, hcz40_3, hcz40_4, hfz40_0, hfz40_1, hfz40_2, hfz40_3, hfz40_4⟩ := bc5 BK864; obtain ⟨Ao41, co41, eo41⟩ := Kd.R_slice HO857.out; subst eo41; obtain ⟨Ao42, co42, eo42⟩ := Kd.R_slice HO860.out; subst eo42; obtain ⟨Ao43, co43, eo43⟩ := Kd.R_slice HO863.out; subst eo43; have ⟨hcz44_0, hcz44_1, hcz44_2, hcz44_3, hcz44_4, hfz44_0, hfz44_1, hfz44_2, hfz44_3, hfz44_4⟩ := bc5 BK849) | ((with_reducible refine gate_builtin (b := .append) (xs := #[.tmp 27, .tmp 29]) rfl ?_); (try (refine gate_guard (by rfl) ?_; dsimp only)); at_builtin; refine Kd.R_append k60 (w0 := w) w.heap.size rfl (.tmp 27) (.tmp 29) 33 60 (.agg #[(.int .i64 0), (.int .i64 0), (.int .i64 0), (.int .i64 0), (.int .i64 0)]) 40 rfl Try.underlying33 info60 rfl (by decide) (by omega) (.slice Ao42 t858.length co42) t858 (⟨a1_0, a1_1, a1_2, (⟨a1_3, a1_4⟩ : S58)⟩ : S60) [.int .i64 a1_0, .int .i64 a1_1, .int .i64 a1_2, .int .i64 a1_3, .int .i64 a1_4] (fun k_ => some k_ ≠ (.slice Ao43 t861.length co43 : Value).ownBlock ∧ k_ ≠ gb849) (fun _ => False) rfl (by first | (go_simp; done) | (go_simp; rfl)) ?aP (fun _ hk => hk.elim) ?aF ?aO ?aB ?aS ?aL ?_; (case aP => exact k60_mkM _ _ _ (⟨a1_0, a1_1, a1_2, (⟨a1_3, a1_4⟩ : S58)⟩ : S60)); (case aB => exact bq); (case aF => exact (fun k_ hk => ⟨Kd.fresh' (Kd.R_lt (fq HO863 BK864)) k_ hk, Kd.freshB (g := gb849) (o := .cells #[.int .i64 a1_0, .int .i64 a1_1, .int .i64 a1_2, .int .i64 a1_3, .int .i64 a1_4] 60 (0, 0)) (zp BK849) k_ hk⟩)); (case aO => exact (Kd.R_mono (ff HO860 BK864) (fun _ hk => ⟨hk.1.1, hk.1.2⟩))); (case aS => exact (below_size bq)); (case aL => have := LMc22.out; omega); intro v866 w45 ho hb hg hat; rw [← Ny865.out] at ho; have n0_ := am (blk_grown (g := gb848) (o := .cells #[.int .i64 a0_0, .int .i64 a0_1, .slice A0_2 l0_2.length c0_2, .slice A0_3 l0_3.length c0_3, .slice A0_4 l0_4.length c0_4] 35 (0, 0)) (zp BK848) hg (Kd.R_ne HO860.out BK848.out (by decide))); have n1_ := am (blk_grown (g := gb849) (o := .cells #[.int .i64 a1_0, .int .i64 a1_1, .int .i64 a1_2, .int .i64 a1_3, .int .i64 a1_4] 60 (0, 0)) (zp BK849) hg (Kd.R_away HO860.out (fun _ hk => hk.2))); have n2_ := am (blk_grown (g := gb850) (o := .cells #[.int .i64 0, .int .i64 0, .slice none 0 0, .slice none 0 0, .slice none 0 0] 35 (0, 0)) (zp BK850) hg (Kd.R_ne HO860.out BK850.out (by decide))); have n3_ := am (Kd.R_over' (fq HO857 BK864) (Kd.R_typed (fq HO860 BK864)) (by decide) hg); have n4_ := am (Kd.R_after (ok := (fun k_ => k_ ≠ gb849)) (Kd.R_mono (ff HO863 BK864) (fun _ hk => ⟨hk.1.2, hk.1.1⟩)) hg hat); have n5_ := am (blk_grown (g := gb864) (o := .cells #[.int .i64 t853, .int .i64 t854, .slice Ao41 t855.length co41, .slice Ao42 t858.length co42, .slice Ao43 t861.length co43] 35 (0, 0)) (zp BK864) hg (Kd.R_ne HO860.out BK864.out (by decide))); have n6_ := am (hb); have n7_ := am (ho); clear BK848; clear BK849; clear BK850; clear HO857; clear HO863; clear BK864; clear HB; clear HO860; have BK848 := n0_; have BK849 := n1_; have BK850 := n2_; have HO857 := n3_; have BK864 := n5_; have HB := n6_; have HO867 := n7_; clear n0_ n1_ n2_ n3_ n4_ n5_ n6_ n7_; clear ho hb hg hat; obtain ⟨Ao46, co46, eo46⟩ := Kd.R_slice HO867.out; subst eo46; have ⟨hcz47_0, hcz47_1, hcz47_2, hcz47_3, hcz47_4, hfz47_0, hfz47_1, hfz47_2, hfz47_3, hfz47_4⟩ := bc5 BK864; have ⟨hcz48_0, hcz48_1, hcz48_2, hcz48_3, hcz48_4, hfz48_0, hfz48_1, hfz48_2, hfz48_3, hfz48_4⟩ := bc5 BK850))
     refine bodyPost_ret (results_ct rfl _ _ gb850 35 #[.int .i64 t853, .int .i64 t854, .slice Ao41 t855.length co41, .slice Ao46 y865.length co46, .slice none 0 0] (0, 0) _ rfl (zp BK850) Try.underlying35 rfl (by kernel_rfl)) rfl ?_
     exact ⟨_, _, _, eq_, by (with_reducible repeat (first | apply Kd.R_alloc | apply Kd.R_drewN | apply Kd.R_drew)); exact Kd.R_mono (Kd.R_far (p := ⟨gb850, 4, none⟩) (Kd.R_far (p := ⟨gb850, 3, none⟩) (Kd.R_far (p := ⟨gb850, 2, none⟩) (Kd.R_far (p := ⟨gb850, 1, none⟩) (Kd.R_far (p := ⟨gb850, 0, none⟩) (Kd.R_far (p := ⟨gb864, 4, none⟩) (Kd.R_far (p := ⟨gb864, 3, none⟩) (Kd.R_types (Kd.R_types HO857.out BK864.out (by decide)) BK850.out (by decide)) (fun _ hk => hk.1.2) (.slice Ao46 y865.length co46)) (fun _ hk => hk.1.2) (.slice none 0 0)) (fun _ hk => hk.2) (.int .i64 t853)) (fun _ hk => hk.2) (.int .i64 t854)) (fun _ hk => hk.2) (.slice Ao41 t855.length co41)) (fun _ hk => hk.2) (.slice Ao46 y865.length co46)) (fun _ hk => hk.2) (.slice none 0 0)) (fun _ hk => trivial), by (with_reducible repeat (first | apply Kd.R_alloc | apply Kd.R_drewN | apply Kd.R_drew)); exact Kd.R_mono (Kd.R_far (p := ⟨gb850, 4, none⟩) (Kd.R_far (p := ⟨gb850, 3, none⟩) (Kd.R_far (p := ⟨gb850, 2, none⟩) (Kd.R_far (p := ⟨gb850, 1, none⟩) (Kd.R_far (p := ⟨gb850, 0, none⟩) (Kd.R_far (p := ⟨gb864, 4, none⟩) (Kd.R_far (p := ⟨gb864, 3, none⟩) (Kd.R_types (Kd.R_types HO867.out BK864.out (by decide)) BK850.out (by decide)) (fun _ hk => hk.1.2) (.slice Ao46 y865.length co46)) (fun _ hk => hk.1.2) (.slice none 0 0)) (fun _ hk => hk.2) (.int .i64 t853)) (fun _ hk => hk.2) (.int .i64 t854)) (fun _ hk => hk.2) (.slice Ao41 t855.length co41)) (fun _ hk => hk.2) (.slice Ao46 y865.length co46)) (fun _ hk => hk.2) (.slice none 0 0)) (fun _ hk => (by simp [Value.ownBlock])), by first | exact Kd.R_nil _ _ _ _ _ | exact Kd.N_nil _ _ _ _ _ | exact Kd.V_nil _ _ _ _ _ | exact Kd.Q_nil _ _ _ _ _ | exact Kd.S_nil _ _ _ _ _, bq⟩
    ·rw [if_neg c22] at H
     exact absurd H (by simp)
  ·replace c6 := Bool.eq_false_iff.mpr c6
   subst c6
   rw [if_neg (show ¬ (false = true) by decide)] at H
   try dsimp only at H
   simp only [Option.some.injEq, Prod.mk.injEq] at H
   obtain ⟨rfl, rfl, rfl, rfl, rfl, rfl⟩ := H
   go_enter Try.func38, Try.ntmps38
   go_wp2_with (first | ((with_reducible refine gate_dst (N := 2) rfl ?_); (try (refine gate_guard (by rfl) ?_; dsimp only)); refine box_event ?hg (N := 2) ?hd (cs := #[.int .i64 a0_0, .int .i64 a0_1, .slice A0_2 l0_2.length c0_2, .slice A0_3 l0_3.length c0_3, .slice A0_4 l0_4.length c0_4]) (t := 35) ?hr ?_; (case hd => rfl); (case hg => rfl); (case hr => first | (go_simp; done) | (go_simp; rfl)); intro gb848 hg w49 hbox hb; have BK848 := am (hbox); have GW848 := am (gq hg); have GE848 := am (gq hg); replace HB := sb hb; clear hb hbox hg) | ((with_reducible refine gate_dst (N := 3) rfl ?_); (try (refine gate_guard (by rfl) ?_; dsimp only)); refine box_event ?hg (N := 3) ?hd (cs := #[.int .i64 a1_0, .int .i64 a1_1, .int .i64 a1_2, .int .i64 a1_3, .int .i64 a1_4]) (t := 60) ?hr ?_; (case hd => rfl); (case hg => rfl); (case hr => first | (go_simp; done) | (go_simp; rfl)); intro gb849 hg w50 hbox hb; have BK849 := am (hbox); have GW849 := am (gq hg); have GE849 := am (gq hg); replace HB := sb hb; have NB848_849 := nl hg BK848; have NB849_848 := ng hg BK848; replace BK848 := zb BK848 hb; clear hb hbox hg) | ((with_reducible refine gate_dst (N := 4) rfl ?_); (try (refine gate_guard (by rfl) ?_; dsimp only)); refine box_event ?hg (N := 4) ?hd (cs := #[.int .i64 0, .int .i64 0, .slice none 0 0, .slice none 0 0, .slice none 0 0]) (t := 35) ?hr ?_; (case hd => rfl); (case hg => rfl); (case hr => first | (go_simp; done) | (go_simp; rfl)); intro gb850 hg w51 hbox hb; have BK850 := am (hbox); have GW850 := am (gq hg); have GE850 := am (gq hg); replace HB := sb hb; have NB848_850 := nl hg BK848; have NB850_848 := ng hg BK848; replace BK848 := zb BK848 hb; have NB849_850 := nl hg BK849; have NB850_849 := ng hg BK849; replace BK849 := zb BK849 hb; clear hb hbox hg; have hnb52 := NB848_849.out; have hnc52 := NB849_848.out; have hnb53 := NB848_850.out; have hnc53 := NB850_848.out; have ⟨hcz54_0, hcz54_1, hcz54_2, hcz54_3, hcz54_4, hfz54_0, hfz54_1, hfz54_2, hfz54_3, hfz54_4⟩ := bc5 BK848) | ((with_reducible refine gate_callee (f := 17) rfl ?_); refine goesQ (some 8) Try.func17 #[.agg #[.int .i64 a0_0, .int .i64 a0_1, .slice A0_2 l0_2.length c0_2, .slice A0_3 l0_3.length c0_3, .slice A0_4 l0_4.length c0_4]] ?_; (with_reducible refine (impl_IsSession.calls k a0_0 a0_1 _ _ l0_2 (fun k_ => k_ < w.heap.size) _ _ l0_3 (fun k_ => k_ < w.heap.size) _ _ l0_4 true _ ?s1 ?s2 ?s3 ?s4 A3.out).mono ?_); (case s1 => exact cq (Kd.C_below HR0_2.out HB.out)); (case s2 => exact HC0_2.out); (case s3 => exact Kd.V_mk HC0_3.out (Kd.F_below (Kd.C_F k60_heap HR0_3.out) bq)); (case s4 => exact Kd.V_mk HC0_4.out (Kd.F_below (Kd.C_F k60_heap HR0_4.out) bq)); rintro e w55 ⟨rfl, hb⟩; refine ⟨_, rfl, ?_⟩; replace BK848 := zb BK848 hb; replace BK849 := zb BK849 hb; replace BK850 := zb BK850 hb; replace HB := sb hb; (try clear hb); have ⟨hcz56_0, hcz56_1, hcz56_2, hcz56_3, hcz56_4, hfz56_0, hfz56_1, hfz56_2, hfz56_3, hfz56_4⟩ := bc5 BK848; have hnb57 := NB849_850.out; have hnc57 := NB850_849.out; have ⟨hcz58_0, hcz58_1, hcz58_2, hcz58_3, hcz58_4, hfz58_0, hfz58_1, hfz58_2, hfz58_3, hfz58_4⟩ := bc5 BK849) | (go_at_call 62; (with_reducible refine (impl_isAct.calls k a0_0 a0_1 _ _ l0_2 a1_0 a1_1 a1_2 a1_3 a1_4 false _ ?s1 ?s2 A5.out).mono ?_); (case s1 => exact cq (Kd.C_below HR0_2.out HB.out)); (case s2 => exact HC0_2.out); rintro e w59 ⟨rfl, hb⟩; replace BK848 := zb BK848 hb; replace BK849 := zb BK849 hb; replace BK850 := zb BK850 hb; replace HB := sb hb; (try clear hb); have ⟨hcz60_0, hcz60_1, hcz60_2, hcz60_3, hcz60_4, hfz60_0, hfz60_1, hfz60_2, hfz60_3, hfz60_4⟩ := bc5 BK850))
   refine bodyPost_ret (results_ct rfl _ _ gb850 35 #[.int .i64 0, .int .i64 0, .slice none 0 0, .slice none 0 0, .slice none 0 0] (0, 0) _ rfl (zp BK850) Try.underlying35 rfl (by kernel_rfl)) rfl ?_
   exact ⟨_, _, _, eq_, by first | exact Kd.R_nil _ _ _ _ _ | exact Kd.N_nil _ _ _ _ _ | exact Kd.V_nil _ _ _ _ _ | exact Kd.Q_nil _ _ _ _ _ | exact Kd.S_nil _ _ _ _ _, by first | exact Kd.R_nil _ _ _ _ _ | exact Kd.N_nil _ _ _ _ _ | exact Kd.V_nil _ _ _ _ _ | exact Kd.Q_nil _ _ _ _ _ | exact Kd.S_nil _ _ _ _ _, by first | exact Kd.R_nil _ _ _ _ _ | exact Kd.N_nil _ _ _ _ _ | exact Kd.V_nil _ _ _ _ _ | exact Kd.Q_nil _ _ _ _ _ | exact Kd.S_nil _ _ _ _ _, bq⟩
 ·replace c4 := Bool.eq_false_iff.mpr c4
  subst c4
  rw [if_neg (show ¬ (false = true) by decide)] at H
  try dsimp only at H
  simp only [Option.some.injEq, Prod.mk.injEq] at H
  obtain ⟨rfl, rfl, rfl, rfl, rfl, rfl⟩ := H
  go_enter Try.func38, Try.ntmps38
  go_wp2_with (first | ((with_reducible refine gate_dst (N := 2) rfl ?_); (try (refine gate_guard (by rfl) ?_; dsimp only)); refine box_event ?hg (N := 2) ?hd (cs := #[.int .i64 a0_0, .int .i64 a0_1, .slice A0_2 l0_2.length c0_2, .slice A0_3 l0_3.length c0_3, .slice A0_4 l0_4.length c0_4]) (t := 35) ?hr ?_; (case hd => rfl); (case hg => rfl); (case hr => first | (go_simp; done) | (go_simp; rfl)); intro gb848 hg w61 hbox hb; have BK848 := am (hbox); have GW848 := am (gq hg); have GE848 := am (gq hg); replace HB := sb hb; clear hb hbox hg) | ((with_reducible refine gate_dst (N := 3) rfl ?_); (try (refine gate_guard (by rfl) ?_; dsimp only)); refine box_event ?hg (N := 3) ?hd (cs := #[.int .i64 a1_0, .int .i64 a1_1, .int .i64 a1_2, .int .i64 a1_3, .int .i64 a1_4]) (t := 60) ?hr ?_; (case hd => rfl); (case hg => rfl); (case hr => first | (go_simp; done) | (go_simp; rfl)); intro gb849 hg w62 hbox hb; have BK849 := am (hbox); have GW849 := am (gq hg); have GE849 := am (gq hg); replace HB := sb hb; have NB848_849 := nl hg BK848; have NB849_848 := ng hg BK848; replace BK848 := zb BK848 hb; clear hb hbox hg) | ((with_reducible refine gate_dst (N := 4) rfl ?_); (try (refine gate_guard (by rfl) ?_; dsimp only)); refine box_event ?hg (N := 4) ?hd (cs := #[.int .i64 0, .int .i64 0, .slice none 0 0, .slice none 0 0, .slice none 0 0]) (t := 35) ?hr ?_; (case hd => rfl); (case hg => rfl); (case hr => first | (go_simp; done) | (go_simp; rfl)); intro gb850 hg w63 hbox hb; have BK850 := am (hbox); have GW850 := am (gq hg); have GE850 := am (gq hg); replace HB := sb hb; have NB848_850 := nl hg BK848; have NB850_848 := ng hg BK848; replace BK848 := zb BK848 hb; have NB849_850 := nl hg BK849; have NB850_849 := ng hg BK849; replace BK849 := zb BK849 hb; clear hb hbox hg; have hnb64 := NB848_849.out; have hnc64 := NB849_848.out; have hnb65 := NB848_850.out; have hnc65 := NB850_848.out; have ⟨hcz66_0, hcz66_1, hcz66_2, hcz66_3, hcz66_4, hfz66_0, hfz66_1, hfz66_2, hfz66_3, hfz66_4⟩ := bc5 BK848) | ((with_reducible refine gate_callee (f := 17) rfl ?_); refine goesQ (some 8) Try.func17 #[.agg #[.int .i64 a0_0, .int .i64 a0_1, .slice A0_2 l0_2.length c0_2, .slice A0_3 l0_3.length c0_3, .slice A0_4 l0_4.length c0_4]] ?_; (with_reducible refine (impl_IsSession.calls k a0_0 a0_1 _ _ l0_2 (fun k_ => k_ < w.heap.size) _ _ l0_3 (fun k_ => k_ < w.heap.size) _ _ l0_4 false _ ?s1 ?s2 ?s3 ?s4 A3.out).mono ?_); (case s1 => exact cq (Kd.C_below HR0_2.out HB.out)); (case s2 => exact HC0_2.out); (case s3 => exact Kd.V_mk HC0_3.out (Kd.F_below (Kd.C_F k60_heap HR0_3.out) bq)); (case s4 => exact Kd.V_mk HC0_4.out (Kd.F_below (Kd.C_F k60_heap HR0_4.out) bq)); rintro e w67 ⟨rfl, hb⟩; refine ⟨_, rfl, ?_⟩; replace BK848 := zb BK848 hb; replace BK849 := zb BK849 hb; replace BK850 := zb BK850 hb; replace HB := sb hb; (try clear hb); have hnb68 := NB850_849.out; have hnc68 := NB849_850.out; have ⟨hcz69_0, hcz69_1, hcz69_2, hcz69_3, hcz69_4, hfz69_0, hfz69_1, hfz69_2, hfz69_3, hfz69_4⟩ := bc5 BK850))
  refine bodyPost_ret (results_ct rfl _ _ gb850 35 #[.int .i64 0, .int .i64 0, .slice none 0 0, .slice none 0 0, .slice none 0 0] (0, 0) _ rfl (zp BK850) Try.underlying35 rfl (by kernel_rfl)) rfl ?_
  exact ⟨_, _, _, eq_, by first | exact Kd.R_nil _ _ _ _ _ | exact Kd.N_nil _ _ _ _ _ | exact Kd.V_nil _ _ _ _ _ | exact Kd.Q_nil _ _ _ _ _ | exact Kd.S_nil _ _ _ _ _, by first | exact Kd.R_nil _ _ _ _ _ | exact Kd.N_nil _ _ _ _ _ | exact Kd.V_nil _ _ _ _ _ | exact Kd.Q_nil _ _ _ _ _ | exact Kd.S_nil _ _ _ _ _, by first | exact Kd.R_nil _ _ _ _ _ | exact Kd.N_nil _ _ _ _ _ | exact Kd.V_nil _ _ _ _ _ | exact Kd.Q_nil _ _ _ _ _ | exact Kd.S_nil _ _ _ _ _, bq⟩



/-! ### impl_RunSession: function 42 -/
mutual
def impl_RunSession.j0 : Nat → List (S60) → Bool → Int → Int → List (S58) → List (S60) → List (S60) → Option (Int × Int × (List (S58)) × (List (S60)) × (List (S60)) × Int × Bool)
 | 0, _, _, _, _, _, _, _ => none
 | k + 1, x1, x19, x1015000, x1015001, x1015002, x1015003, x1015004 => if x19 = true then (some (0, 0, ([] : List (S58)), ([] : List (S60)), ([] : List (S60)), 0, false)) else ((impl_copySession.f x1015000 x1015001 x1015002 x1015003 x1015004).bind fun bt1017 => (impl_RunSession.l0 k x1 x1 (x1.length : Int) 0 bt1017.1 bt1017.2.1 bt1017.2.2.1 bt1017.2.2.2.1 bt1017.2.2.2.2))
def impl_RunSession.l0 : Nat → List (S60) → List (S60) → Int → Int → Int → Int → List (S58) → List (S60) → List (S60) → Option (Int × Int × (List (S58)) × (List (S60)) × (List (S60)) × Int × Bool)
 | 0, _, _, _, _, _, _, _, _, _ => none
 | k + 1, x1, x23, x24, x25, x1029000, x1029001, x1029002, x1029003, x1029004 => if x25 < x24 then (if 0 ≤ x25 then (if x25 < (x23.length : Int) then ((impl_ActOnce.f k x1029000 x1029001 x1029002 x1029003 x1029004 ((rd_T60 x23 x25).f0) ((rd_T60 x23 x25).f1) ((rd_T60 x23 x25).f2) ((rd_T60 x23 x25).f3.f0) ((rd_T60 x23 x25).f3.f1)).bind fun bt1031 => (if bt1031.2.2.2.2.2 = true then (impl_RunSession.l0 k x1 x23 x24 (wrap64 (x25 + 1)) bt1031.1 bt1031.2.1 bt1031.2.2.1 bt1031.2.2.2.1 bt1031.2.2.2.2.1) else (some (x1029000, x1029001, x1029002, x1029003, x1029004, x25, true)))) else (none)) else (none)) else (some (x1029000, x1029001, x1029002, x1029003, x1029004, (x1.length : Int), true))
end
def impl_RunSession.f (k : Nat) (a0_0 : Int) (a0_1 : Int) (l0_2 : List (S58)) (l0_3 : List (S60)) (l0_4 : List (S60)) (l1 : List (S60)) : Option (Int × Int × (List (S58)) × (List (S60)) × (List (S60)) × Int × Bool) := (impl_IsSession.f k a0_0 a0_1 l0_2 l0_3 l0_4).bind fun t1016 => (if t1016 = true then (impl_RunSession.j0 k l1 (decide ((l1.length : Int) > 40)) a0_0 a0_1 l0_2 l0_3 l0_4) else (impl_RunSession.j0 k l1 true a0_0 a0_1 l0_2 l0_3 l0_4))
theorem impl_RunSession.mono_l : ∀ k, (∀ y0 y1 y2 y3 y4 y5 y6, LeO (impl_RunSession.j0 k y0 y1 y2 y3 y4 y5 y6) (impl_RunSession.j0 (k + 1) y0 y1 y2 y3 y4 y5 y6)) ∧ (∀ y0 y1 y2 y3 y4 y5 y6 y7 y8, LeO (impl_RunSession.l0 k y0 y1 y2 y3 y4 y5 y6 y7 y8) (impl_RunSession.l0 (k + 1) y0 y1 y2 y3 y4 y5 y6 y7 y8))
 | 0 => ⟨fun _ _ _ _ _ _ _ r h => by simp [impl_RunSession.j0] at h, fun _ _ _ _ _ _ _ _ _ r h => by simp [impl_RunSession.l0] at h⟩
 | k + 1 => by
  obtain ⟨ih0, ih1⟩ := impl_RunSession.mono_l k
  refine ⟨?_, ?_⟩
  ·intro y0 y1 y2 y3 y4 y5 y6
   unfold impl_RunSession.j0
   repeat' first
   | (with_reducible exact ih0 _ _ _ _ _ _ _)
   | (with_reducible exact ih1 _ _ _ _ _ _ _ _ _)
   | (with_reducible exact impl_ActOnce.mono _ _ _ _ _ _ _ _ _ _ _)
   | (with_reducible exact impl_IsSession.mono _ _ _ _ _ _)
   | (with_reducible exact LeO.refl _)
   | (with_reducible exact LeO.none _)
   | (with_reducible refine LeO.ite ?_ ?_)
   | (with_reducible refine LeO.bind ?_ (fun _ => ?_))
   | exact ih0 _ _ _ _ _ _ _
   | exact ih1 _ _ _ _ _ _ _ _ _
   | exact impl_ActOnce.mono _ _ _ _ _ _ _ _ _ _ _
   | exact impl_IsSession.mono _ _ _ _ _ _
   | exact LeO.none _
   | refine LeO.ite ?_ ?_
   | refine LeO.bind ?_ (fun _ => ?_)
  ·intro y0 y1 y2 y3 y4 y5 y6 y7 y8
   unfold impl_RunSession.l0
   repeat' first
   | (with_reducible exact ih0 _ _ _ _ _ _ _)
   | (with_reducible exact ih1 _ _ _ _ _ _ _ _ _)
   | (with_reducible exact impl_ActOnce.mono _ _ _ _ _ _ _ _ _ _ _)
   | (with_reducible exact impl_IsSession.mono _ _ _ _ _ _)
   | (with_reducible exact LeO.refl _)
   | (with_reducible exact LeO.none _)
   | (with_reducible refine LeO.ite ?_ ?_)
   | (with_reducible refine LeO.bind ?_ (fun _ => ?_))
   | exact ih0 _ _ _ _ _ _ _
   | exact ih1 _ _ _ _ _ _ _ _ _
   | exact impl_ActOnce.mono _ _ _ _ _ _ _ _ _ _ _
   | exact impl_IsSession.mono _ _ _ _ _ _
   | exact LeO.none _
   | refine LeO.ite ?_ ?_
   | refine LeO.bind ?_ (fun _ => ?_)
theorem impl_RunSession.mono : ∀ a0 a1 a2 a3 a4 a5 k, LeO (impl_RunSession.f k a0 a1 a2 a3 a4 a5) (impl_RunSession.f (k + 1) a0 a1 a2 a3 a4 a5) := by
 intro a0 a1 a2 a3 a4 a5 k
 obtain ⟨ih0, ih1⟩ := impl_RunSession.mono_l k
 unfold impl_RunSession.f
 repeat' first
   | (with_reducible exact ih0 _ _ _ _ _ _ _)
   | (with_reducible exact ih1 _ _ _ _ _ _ _ _ _)
   | (with_reducible exact impl_ActOnce.mono _ _ _ _ _ _ _ _ _ _ _)
   | (with_reducible exact impl_IsSession.mono _ _ _ _ _ _)
   | (with_reducible exact LeO.refl _)
   | (with_reducible exact LeO.none _)
   | (with_reducible refine LeO.ite ?_ ?_)
   | (with_reducible refine LeO.bind ?_ (fun _ => ?_))
   | exact ih0 _ _ _ _ _ _ _
   | exact ih1 _ _ _ _ _ _ _ _ _
   | exact impl_ActOnce.mono _ _ _ _ _ _ _ _ _ _ _
   | exact impl_IsSession.mono _ _ _ _ _ _
   | exact LeO.none _
   | refine LeO.ite ?_ ?_
   | refine LeO.bind ?_ (fun _ => ?_)
set_option maxHeartbeats 8000000 in
set_option maxRecDepth 100000 in
theorem impl_RunSession.calls (k : Nat) (a0_0 : Int) (a0_1 : Int) (A0_2 : Option Addr) (c0_2 : Nat) (l0_2 : List (S58)) (A0_3 : Option Addr) (c0_3 : Nat) (l0_3 : List (S60)) (A0_4 : Option Addr) (c0_4 : Nat) (l0_4 : List (S60)) (A1 : Option Addr) (c1 : Nat) (l1 : List (S60)) (r1 : Int) (r2 : Int) (r3 : List (S58)) (r4 : List (S60)) (r5 : List (S60)) (r6 : Int) (r7 : Bool) (w : World) (hr0_2 : Kd.C k58 w A0_2 l0_2.length l0_2) (hc0_2 : l0_2.length ≤ c0_2) (hr0_3 : Kd.C k60 w A0_3 l0_3.length l0_3) (hc0_3 : l0_3.length ≤ c0_3) (hr0_4 : Kd.C k60 w A0_4 l0_4.length l0_4) (hc0_4 : l0_4.length ≤ c0_4) (hr1 : Kd.C k60 w A1 l1.length l1) (hc1 : l1.length ≤ c1) (h : impl_RunSession.f k a0_0 a0_1 l0_2 l0_3 l0_4 l1 = some (r1, r2, r3, r4, r5, r6, r7)) :
  Calls Try.prog 42 #[.agg #[.int .i64 a0_0, .int .i64 a0_1, .slice A0_2 l0_2.length c0_2, .slice A0_3 l0_3.length c0_3, .slice A0_4 l0_4.length c0_4], .slice A1 l1.length c1] w fun e w' => ∃ v2_ v3_ v4_ : Value, e = .returned (.tuple #[.agg #[.int .i64 r1, .int .i64 r2, v2_, v3_, v4_], .int .i64 r6, .bool r7]) ∧ Kd.R k58 58 w' w.heap.size (fun _ => True) v2_ r3 ∧ Kd.R k60 60 w' w.heap.size (fun k_ => some k_ ≠ (v4_ : Value).ownBlock) v3_ r4 ∧ Kd.R k60 60 w' w.heap.size (fun k_ => some k_ ≠ (v3_ : Value).ownBlock) v4_ r5 ∧ Below w.heap.size w w' := by
 have hu35 := Try.underlying35
 have hu60 := Try.underlying60
 have HR0_2 := am hr0_2
 have HC0_2 := am hc0_2
 clear hr0_2 hc0_2
 have HR0_3 := am hr0_3
 have HC0_3 := am hc0_3
 clear hr0_3 hc0_3
 have HR0_4 := am hr0_4
 have HC0_4 := am hc0_4
 clear hr0_4 hc0_4
 have HR1 := am hr1
 have HC1 := am hc1
 clear hr1 hc1
 have HB := am (Below.refl w.heap.size w)
 have H : ((impl_IsSession.f k a0_0 a0_1 l0_2 l0_3 l0_4).bind fun t1016 => (if t1016 = true then (impl_RunSession.j0 k l1 (decide ((l1.length : Int) > 40)) a0_0 a0_1 l0_2 l0_3 l0_4) else (impl_RunSession.j0 k l1 true a0_0 a0_1 l0_2 l0_3 l0_4))) = some (r1, r2, r3, r4, r5, r6, r7) := h
 clear h
 have HC3 := am H
 clear H
 go_enter Try.func42, Try.ntmps42
 go_upto_region 1 with (first | ((with_reducible refine gate_dst (N := 2) rfl ?_); (try (refine gate_guard (by rfl) ?_; dsimp only)); refine box_event ?hg (N := 2) ?hd (cs := #[.int .i64 a0_0, .int .i64 a0_1, .slice A0_2 l0_2.length c0_2, .slice A0_3 l0_3.length c0_3, .slice A0_4 l0_4.length c0_4]) (t := 35) ?hr ?_; (case hd => rfl); (case hg => rfl); (case hr => first | (go_simp; done) | (go_simp; rfl)); intro gb1014 hg w4 hbox hb; have BK1014 := am (hbox); have GW1014 := am (gq hg); have GE1014 := am (gq hg); replace HB := sb hb; clear hb hbox hg) | ((with_reducible refine gate_dst (N := 4) rfl ?_); (try (refine gate_guard (by rfl) ?_; dsimp only)); refine box_event ?hg (N := 4) ?hd (cs := #[.int .i64 0, .int .i64 0, .slice none 0 0, .slice none 0 0, .slice none 0 0]) (t := 35) ?hr ?_; (case hd => rfl); (case hg => rfl); (case hr => first | (go_simp; done) | (go_simp; rfl)); intro gb1015 hg w5 hbox hb; have BK1015 := am (hbox); have GW1015 := am (gq hg); have GE1015 := am (gq hg); replace HB := sb hb; have NB1014_1015 := nl hg BK1014; have NB1015_1014 := ng hg BK1014; replace BK1014 := zb BK1014 hb; clear hb hbox hg))
 (try simp only [Act.put, List.setIfInBounds_toArray, List.set_cons_zero, List.set_cons_succ])
 go_cut [19] (fun v19 wc => ∃ (kq : Nat) (x19_2 : Bool), v19 = .bool x19_2 ∧ Aside0 (impl_RunSession.j0 kq l1 x19_2 a0_0 a0_1 l0_2 l0_3 l0_4 = some (r1, r2, r3, r4, r5, r6, r7)) ∧ Aside0 (kq ≤ k) ∧ Aside0 (wc.heap[gb1014]? = some (.cells #[.int .i64 a0_0, .int .i64 a0_1, (.slice A0_2 l0_2.length c0_2), (.slice A0_3 l0_3.length c0_3), (.slice A0_4 l0_4.length c0_4)] 35 (0, 0))) ∧ Aside0 (wc.heap[gb1015]? = some (.cells #[.int .i64 0, .int .i64 0, (.slice none 0 0), (.slice none 0 0), (.slice none 0 0)] 35 (0, 0))) ∧ Aside0 (Below w.heap.size w wc))
 case first =>
  have H := HC3.out
  clear HC3
  obtain ⟨t1016, A6, H⟩ := bindq H
  try dsimp only at H
  by_cases c7 : t1016 = true
  ·subst c7
   rw [if_pos rfl] at H
   try dsimp only at H
   have H' := am H
   clear H
   have hnb8 := NB1014_1015.out
   have hnc8 := NB1015_1014.out
   have ⟨hcz9_0, hcz9_1, hcz9_2, hcz9_3, hcz9_4, hfz9_0, hfz9_1, hfz9_2, hfz9_3, hfz9_4⟩ := bc5 BK1014
   go_wp2_with (first | ((with_reducible refine gate_callee (f := 17) rfl ?_); refine goesQ (some 13) Try.func17 #[.agg #[.int .i64 a0_0, .int .i64 a0_1, .slice A0_2 l0_2.length c0_2, .slice A0_3 l0_3.length c0_3, .slice A0_4 l0_4.length c0_4]] ?_; (with_reducible refine (impl_IsSession.calls k a0_0 a0_1 _ _ l0_2 (fun k_ => k_ < w.heap.size) _ _ l0_3 (fun k_ => k_ < w.heap.size) _ _ l0_4 true _ ?s1 ?s2 ?s3 ?s4 A6.out).mono ?_); (case s1 => exact cq (Kd.C_below HR0_2.out HB.out)); (case s2 => exact HC0_2.out); (case s3 => exact Kd.V_mk HC0_3.out (Kd.F_below (Kd.C_F k60_heap HR0_3.out) bq)); (case s4 => exact Kd.V_mk HC0_4.out (Kd.F_below (Kd.C_F k60_heap HR0_4.out) bq)); rintro e w10 ⟨rfl, hb⟩; refine ⟨_, rfl, ?_⟩; replace BK1014 := zb BK1014 hb; replace BK1015 := zb BK1015 hb; replace HB := sb hb; (try clear hb)))
   go_meet
   case rel => exact ⟨_, (decide ((l1.length : Int) > 40)), sq, H', ⟨by first | omega | exact Nat.le_refl _⟩, ⟨zq BK1014⟩, ⟨zq BK1015⟩, ⟨bq⟩⟩
  ·replace c7 := Bool.eq_false_iff.mpr c7
   subst c7
   rw [if_neg (show ¬ (false = true) by decide)] at H
   try dsimp only at H
   have H' := am H
   clear H
   have hnb11 := NB1014_1015.out
   have hnc11 := NB1015_1014.out
   have ⟨hcz12_0, hcz12_1, hcz12_2, hcz12_3, hcz12_4, hfz12_0, hfz12_1, hfz12_2, hfz12_3, hfz12_4⟩ := bc5 BK1014
   go_wp2_with (first | ((with_reducible refine gate_callee (f := 17) rfl ?_); refine goesQ (some 13) Try.func17 #[.agg #[.int .i64 a0_0, .int .i64 a0_1, .slice A0_2 l0_2.length c0_2, .slice A0_3 l0_3.length c0_3, .slice A0_4 l0_4.length c0_4]] ?_; (with_reducible refine (impl_IsSession.calls k a0_0 a0_1 _ _ l0_2 (fun k_ => k_ < w.heap.size) _ _ l0_3 (fun k_ => k_ < w.heap.size) _ _ l0_4 false _ ?s1 ?s2 ?s3 ?s4 A6.out).mono ?_); (case s1 => exact cq (Kd.C_below HR0_2.out HB.out)); (case s2 => exact HC0_2.out); (case s3 => exact Kd.V_mk HC0_3.out (Kd.F_below (Kd.C_F k60_heap HR0_3.out) bq)); (case s4 => exact Kd.V_mk HC0_4.out (Kd.F_below (Kd.C_F k60_heap HR0_4.out) bq)); rintro e w13 ⟨rfl, hb⟩; refine ⟨_, rfl, ?_⟩; replace BK1014 := zb BK1014 hb; replace BK1015 := zb BK1015 hb; replace HB := sb hb; (try clear hb)))
   go_meet
   case rel => exact ⟨_, (true), sq, H', ⟨by first | omega | exact Nat.le_refl _⟩, ⟨zq BK1014⟩, ⟨zq BK1015⟩, ⟨bq⟩⟩
 case rest =>
  clear HC3
  try clear c7
  try clear hcz12_0 hcz12_1 hcz12_2 hcz12_3 hcz12_4 hfz12_0 hfz12_1 hfz12_2 hfz12_3 hfz12_4
  try clear hcz9_0 hcz9_1 hcz9_2 hcz9_3 hcz9_4 hfz9_0 hfz9_1 hfz9_2 hfz9_3 hfz9_4
  obtain ⟨kq, x19_2, rfl, HA, HJ2, BK1014, BK1015, HB⟩ := hcut
  cases kq with
  | zero => exact absurd HA.out (by simp [impl_RunSession.j0])
  | succ kj2 =>
   have H := HA.out
   clear HA
   simp only [impl_RunSession.j0] at H
   by_cases c14 : x19_2 = true
   ·subst c14
    rw [if_pos rfl] at H
    try dsimp only at H
    simp only [Option.some.injEq, Prod.mk.injEq] at H
    obtain ⟨rfl, rfl, rfl, rfl, rfl, rfl, rfl⟩ := H
    have hnb15 := NB1015_1014.out
    have hnc15 := NB1014_1015.out
    have ⟨hcz16_0, hcz16_1, hcz16_2, hcz16_3, hcz16_4, hfz16_0, hfz16_1, hfz16_2, hfz16_3, hfz16_4⟩ := bc5 BK1015
    go_wp2
    refine bodyPost_ret (results_ctt rfl _ _ gb1015 35 #[.int .i64 0, .int .i64 0, .slice none 0 0, .slice none 0 0, .slice none 0 0] (0, 0) _ rfl (zp BK1015) Try.underlying35 rfl (by kernel_rfl)) rfl ?_
    exact ⟨_, _, _, eq_, by first | exact Kd.R_nil _ _ _ _ _ | exact Kd.N_nil _ _ _ _ _ | exact Kd.V_nil _ _ _ _ _ | exact Kd.Q_nil _ _ _ _ _ | exact Kd.S_nil _ _ _ _ _, by first | exact Kd.R_nil _ _ _ _ _ | exact Kd.N_nil _ _ _ _ _ | exact Kd.V_nil _ _ _ _ _ | exact Kd.Q_nil _ _ _ _ _ | exact Kd.S_nil _ _ _ _ _, by first | exact Kd.R_nil _ _ _ _ _ | exact Kd.N_nil _ _ _ _ _ | exact Kd.V_nil _ _ _ _ _ | exact Kd.Q_nil _ _ _ _ _ | exact Kd.S_nil _ _ _ _ _, bq⟩
   ·replace c14 := Bool.eq_false_iff.mpr c14
    subst c14
    rw [if_neg (show ¬ (false = true) by decide)] at H
    try dsimp only at H
    obtain ⟨⟨t1017, t1018, t1019, t1022, t1025⟩, A17, H⟩ := bindq H
    try dsimp only at H
    have H' := am H
    clear H
    have hnb18 := NB1014_1015.out
    have hnc18 := NB1015_1014.out
    have ⟨hcz19_0, hcz19_1, hcz19_2, hcz19_3, hcz19_4, hfz19_0, hfz19_1, hfz19_2, hfz19_3, hfz19_4⟩ := bc5 BK1014
    go_wp2_with (first | ((with_reducible refine gate_callee (f := 72) rfl ?_); refine goesQ (some 22) Try.func72 #[.agg #[.int .i64 a0_0, .int .i64 a0_1, .slice A0_2 l0_2.length c0_2, .slice A0_3 l0_3.length c0_3, .slice A0_4 l0_4.length c0_4]] ?_; (with_reducible refine (impl_copySession.calls a0_0 a0_1 _ _ l0_2 _ _ l0_3 _ _ l0_4 t1017 t1018 t1019 t1022 t1025 _ ?s1 ?s2 ?s3 ?s4 ?s5 ?s6 A17.out).mono ?_); (case s1 => exact cq (Kd.C_below HR0_2.out HB.out)); (case s2 => exact HC0_2.out); (case s3 => exact cq (Kd.C_below HR0_3.out HB.out)); (case s4 => exact HC0_3.out); (case s5 => exact cq (Kd.C_below HR0_4.out HB.out)); (case s6 => exact HC0_4.out); rintro e w20 ⟨v1020, v1023, v1026, rfl, ho0, ho1, ho2, hb⟩; refine ⟨_, rfl, ?_⟩; have HO1021 := rl ho0; have HO1024 := rl ho1; have HO1027 := rl ho2; replace BK1014 := zb BK1014 hb; replace BK1015 := zb BK1015 hb; replace HB := sb hb; (try clear hb ho0 ho1 ho2)) | ((with_reducible refine gate_dst (N := 7) rfl ?_); (try (refine gate_guard (by rfl) ?_; dsimp only)); refine box_event ?hg (N := 7) ?hd (cs := #[.int .i64 0, .int .i64 0, .slice none 0 0, .slice none 0 0, .slice none 0 0]) (t := 35) ?hr ?_; (case hd => rfl); (case hg => rfl); (case hr => first | (go_simp; done) | (go_simp; rfl)); intro gb1028 hg w21 hbox hb; replace HO1021 := rb HO1021 hb; replace HO1024 := rb HO1024 hb; replace HO1027 := rb HO1027 hb; have BK1028 := am (hbox); have GW1028 := am (gq hg); have GE1028 := am (gq hg); replace HB := sb hb; have NB1014_1028 := nl hg BK1014; have NB1028_1014 := ng hg BK1014; replace BK1014 := zb BK1014 hb; have NB1015_1028 := nl hg BK1015; have NB1028_1015 := ng hg BK1015; replace BK1015 := zb BK1015 hb; clear hb hbox hg; have hnb22 := NB1028_1014.out; have hnc22 := NB1014_1028.out; have hnb23 := NB1028_1015.out; have hnc23 := NB1015_1028.out; have ⟨hcz24_0, hcz24_1, hcz24_2, hcz24_3, hcz24_4, hfz24_0, hfz24_1, hfz24_2, hfz24_3, hfz24_4⟩ := bc5 BK1028; obtain ⟨Ao25, co25, eo25⟩ := Kd.R_slice HO1021.out; subst eo25; obtain ⟨Ao26, co26, eo26⟩ := Kd.R_slice HO1024.out; subst eo26; obtain ⟨Ao27, co27, eo27⟩ := Kd.R_slice HO1027.out; subst eo27))
    go_loopg [25] kj2 (fun kq v25 w' => ∃ (x25_2 : Int) (x1016000_2 : Int) (x1016001_2 : Int) (x1029000_2 : Int) (x1029001_2 : Int) (x1029002_2 : List (S58)) (x1029003_2 : List (S60)) (x1029004_2 : List (S60)) (u1029002 : Value) (u1029003 : Value) (u1029004 : Value), v25 = .int .i64 x25_2 ∧ Aside0 (impl_RunSession.l0 kq l1 l1 (l1.length : Int) x25_2 x1029000_2 x1029001_2 x1029002_2 x1029003_2 x1029004_2 = some (r1, r2, r3, r4, r5, r6, r7)) ∧ Aside0 (kq ≤ kj2) ∧ Aside0 (Kd.R k58 58 w' w.heap.size (fun _ => True) u1029002 x1029002_2) ∧ Aside0 (Kd.R k60 60 w' w.heap.size (fun k_ => some k_ ≠ (u1029004 : Value).ownBlock) u1029003 x1029003_2) ∧ Aside0 (Kd.R k60 60 w' w.heap.size (fun k_ => some k_ ≠ (u1029003 : Value).ownBlock) u1029004 x1029004_2) ∧ Aside0 (w'.heap[gb1014]? = some (.cells #[.int .i64 a0_0, .int .i64 a0_1, (.slice A0_2 l0_2.length c0_2), (.slice A0_3 l0_3.length c0_3), (.slice A0_4 l0_4.length c0_4)] 35 (0, 0))) ∧ Aside0 (w'.heap[gb1015]? = some (.cells #[.int .i64 x1016000_2, .int .i64 x1016001_2, (.slice none 0 0), (.slice none 0 0), (.slice none 0 0)] 35 (0, 0))) ∧ Aside0 (w'.heap[gb1028]? = some (.cells #[.int .i64 x1029000_2, .int .i64 x1029001_2, u1029002, u1029003, u1029004] 35 (0, 0))) ∧ Aside0 (Below w.heap.size w w'))
    case atStart => exact ⟨(0), (0), (0), (t1017), (t1018), (t1019), (t1022), (t1025), (.slice Ao25 t1019.length co25), (.slice Ao26 t1022.length co26), (.slice Ao27 t1025.length co27), sq, H', ⟨Nat.le_refl _⟩, ⟨Kd.R_mono (ff HO1021 BK1028) (fun _ hk => trivial)⟩, ⟨Kd.R_mono (ff HO1024 BK1028) (fun _ hk => hk.1)⟩, ⟨Kd.R_mono (ff HO1027 BK1028) (fun _ hk => hk.1)⟩, ⟨zp BK1014⟩, ⟨zp BK1015⟩, ⟨zp BK1028⟩, ⟨bq⟩⟩
    case round =>
     clear H'
     try clear c7
     try clear c14
     try clear hcz12_0 hcz12_1 hcz12_2 hcz12_3 hcz12_4 hfz12_0 hfz12_1 hfz12_2 hfz12_3 hfz12_4
     try clear hcz16_0 hcz16_1 hcz16_2 hcz16_3 hcz16_4 hfz16_0 hfz16_1 hfz16_2 hfz16_3 hfz16_4
     try clear hcz19_0 hcz19_1 hcz19_2 hcz19_3 hcz19_4 hfz19_0 hfz19_1 hfz19_2 hfz19_3 hfz19_4
     try clear hcz24_0 hcz24_1 hcz24_2 hcz24_3 hcz24_4 hfz24_0 hfz24_1 hfz24_2 hfz24_3 hfz24_4
     try clear hcz9_0 hcz9_1 hcz9_2 hcz9_3 hcz9_4 hfz9_0 hfz9_1 hfz9_2 hfz9_3 hfz9_4
     obtain ⟨x25_2, x1016000_2, x1016001_2, x1029000_2, x1029001_2, x1029002_2, x1029003_2, x1029004_2, u1029002, u1029003, u1029004, rfl, HA, HK2, HO_1029002, HO_1029003, HO_1029004, BK1014, BK1015, BK1028, HB⟩ := hrel
     cases gk with
     | zero => exact absurd HA.out (by simp [impl_RunSession.l0])
     | succ k2 =>
      have H := HA.out
      clear HA
      simp only [impl_RunSession.l0] at H
      by_cases c28 : x25_2 < (l1.length : Int)
      ·rw [if_pos c28] at H
       have c28b0 : decide (x25_2 < (l1.length : Int)) = true := decide_eq_true c28
       clear c28
       by_cases c29 : 0 ≤ x25_2
       ·rw [if_pos c29] at H
        have c29b0 : decide (0 ≤ x25_2) = true := decide_eq_true c29
        clear c29
        by_cases c30 : x25_2 < (l1.length : Int)
        ·rw [if_pos c30] at H
         have c30b0 : decide (x25_2 < (l1.length : Int)) = true := decide_eq_true c30
         clear c30
         obtain ⟨⟨t1031, t1032, t1033, t1036, t1039, t1042⟩, A31, H⟩ := bindq H
         try dsimp only at H
         by_cases c32 : t1042 = true
         ·subst c32
          rw [if_pos rfl] at H
          try dsimp only at H
          have H' := am H
          clear H
          have p1029 : 0 ≤ (x25_2 : Int) := of_decide_eq_true aq
          have q1029 : x25_2 < (l1.length : Int) := of_decide_eq_true aq
          obtain ⟨ad1029, e1029, hx1029_0, hx1029_1, hx1029_2, hx1029_3, hx1029_4⟩ := at_T60 HR1.out x25_2 p1029 q1029
          cases e1029
          replace hx1029_0 := (HB.out.cell (World.block_lt_of_cell? w _ hx1029_0)).trans hx1029_0
          replace hx1029_1 := (HB.out.cell (World.block_lt_of_cell? w _ hx1029_1)).trans hx1029_1
          replace hx1029_2 := (HB.out.cell (World.block_lt_of_cell? w _ hx1029_2)).trans hx1029_2
          replace hx1029_3 := (HB.out.cell (World.block_lt_of_cell? w _ hx1029_3)).trans hx1029_3
          replace hx1029_4 := (HB.out.cell (World.block_lt_of_cell? w _ hx1029_4)).trans hx1029_4
          replace p1029 := eq_true p1029
          replace q1029 := eq_true q1029
          go_wp2_with (first | ((with_reducible refine gate_dst (N := 9) rfl ?_); (try (refine gate_guard (by rfl) ?_; dsimp only)); refine box_event ?hg (N := 9) ?hd (cs := #[.int .i64 0, .int .i64 0, .int .i64 0, .int .i64 0, .int .i64 0]) (t := 60) ?hr ?_; (case hd => rfl); (case hg => rfl); (case hr => first | (go_simp; done) | (go_simp; rfl)); intro gb1030 hg w33 hbox hb; replace HO_1029002 := rb HO_1029002 hb; replace HO_1029003 := am (Kd.R_below (Kd.R_elderB (rq HO_1029003) gb1030 (Nat.le_of_eq hg.symm)) hb); replace HO_1029004 := am (Kd.R_below (Kd.R_elderB (rq HO_1029004) gb1030 (Nat.le_of_eq hg.symm)) hb); have BK1030 := am (hbox); have GW1030 := am (gq hg); have GE1030 := am (gq hg); replace HB := sb hb; have NB1014_1030 := nl hg BK1014; have NB1030_1014 := ng hg BK1014; replace BK1014 := zb BK1014 hb; have NB1015_1030 := nl hg BK1015; have NB1030_1015 := ng hg BK1015; replace BK1015 := zb BK1015 hb; have NB1028_1030 := nl hg BK1028; have NB1030_1028 := ng hg BK1028; replace BK1028 := zb BK1028 hb; clear hb hbox hg; have hnb34 := NB1030_1014.out; have hnc34 := NB1014_1030.out; have hnb35 := NB1030_1015.out; have hnc35 := NB1015_1030.out; have hnb36 := NB1030_1028.out; have hnc36 := NB1028_1030.out; have ⟨hcz37_0, hcz37_1, hcz37_2, hcz37_3, hcz37_4, hfz37_0, hfz37_1, hfz37_2, hfz37_3, hfz37_4⟩ := bc5 BK1030; have hnb38 := NB1028_1014.out; have hnc38 := NB1014_1028.out; have hnb39 := NB1028_1015.out; have hnc39 := NB1015_1028.out; have ⟨hcz40_0, hcz40_1, hcz40_2, hcz40_3, hcz40_4, hfz40_0, hfz40_1, hfz40_2, hfz40_3, hfz40_4⟩ := bc5 BK1028; obtain ⟨Ao41, co41, eo41⟩ := Kd.R_slice HO_1029002.out; subst eo41; obtain ⟨Ao42, co42, eo42⟩ := Kd.R_slice HO_1029003.out; subst eo42; obtain ⟨Ao43, co43, eo43⟩ := Kd.R_slice HO_1029004.out; subst eo43) | ((with_reducible refine gate_callee (f := 38) rfl ?_); refine goesQ (some 33) Try.func38 #[.agg #[.int .i64 x1029000_2, .int .i64 x1029001_2, .slice Ao41 x1029002_2.length co41, .slice Ao42 x1029003_2.length co42, .slice Ao43 x1029004_2.length co43], .agg #[.int .i64 ((rd_T60 l1 x25_2).f0), .int .i64 ((rd_T60 l1 x25_2).f1), .int .i64 ((rd_T60 l1 x25_2).f2), .int .i64 ((rd_T60 l1 x25_2).f3.f0), .int .i64 ((rd_T60 l1 x25_2).f3.f1)]] ?_; (with_reducible refine (impl_ActOnce.calls k2 x1029000_2 x1029001_2 _ _ x1029002_2 _ _ x1029003_2 _ _ x1029004_2 ((rd_T60 l1 x25_2).f0) ((rd_T60 l1 x25_2).f1) ((rd_T60 l1 x25_2).f2) ((rd_T60 l1 x25_2).f3.f0) ((rd_T60 l1 x25_2).f3.f1) t1031 t1032 t1033 t1036 t1039 true _ ?s1 ?s2 ?s3 ?s4 ?s5 ?s6 A31.out).mono ?_); (case s1 => exact cf HO_1029002 BK1030); (case s2 => exact rq1 HO_1029002); (case s3 => refine (Kd.R_reads' (e := 60) (base := w.heap.size) (ok := fun k_ => (some k_ ≠ (.slice Ao43 x1029004_2.length co43 : Value).ownBlock ∧ k_ ≠ gb1030)) (n := x1029003_2.length) (c := co42) ?_).2.2; exact (by (with_reducible repeat (first | apply Kd.R_alloc | apply Kd.R_drewN | apply Kd.R_drew)); exact (Kd.R_mono (Kd.R_far (p := ⟨gb1030, 4, none⟩) (Kd.R_far (p := ⟨gb1030, 3, none⟩) (Kd.R_far (p := ⟨gb1030, 2, none⟩) (Kd.R_far (p := ⟨gb1030, 1, none⟩) (Kd.R_far (p := ⟨gb1030, 0, none⟩) (Kd.R_mono HO_1029003.out (fun k_ hk => (⟨hk, hk.2⟩ : _ ∧ k_ ≠ gb1030))) (fun _ hk => hk.2) (.int .i64 ((rd_T60 l1 x25_2).f0))) (fun _ hk => hk.2) (.int .i64 ((rd_T60 l1 x25_2).f1))) (fun _ hk => hk.2) (.int .i64 ((rd_T60 l1 x25_2).f2))) (fun _ hk => hk.2) (.int .i64 ((rd_T60 l1 x25_2).f3.f0))) (fun _ hk => hk.2) (.int .i64 ((rd_T60 l1 x25_2).f3.f1))) (fun _ h_ => h_.1)))); (case s4 => exact rq1 HO_1029003); (case s5 => refine (Kd.R_reads' (e := 60) (base := w.heap.size) (ok := fun k_ => (some k_ ≠ (.slice Ao42 x1029003_2.length co42 : Value).ownBlock ∧ k_ ≠ gb1030)) (n := x1029004_2.length) (c := co43) ?_).2.2; exact (by (with_reducible repeat (first | apply Kd.R_alloc | apply Kd.R_drewN | apply Kd.R_drew)); exact (Kd.R_mono (Kd.R_far (p := ⟨gb1030, 4, none⟩) (Kd.R_far (p := ⟨gb1030, 3, none⟩) (Kd.R_far (p := ⟨gb1030, 2, none⟩) (Kd.R_far (p := ⟨gb1030, 1, none⟩) (Kd.R_far (p := ⟨gb1030, 0, none⟩) (Kd.R_mono HO_1029004.out (fun k_ hk => (⟨hk, hk.2⟩ : _ ∧ k_ ≠ gb1030))) (fun _ hk => hk.2) (.int .i64 ((rd_T60 l1 x25_2).f0))) (fun _ hk => hk.2) (.int .i64 ((rd_T60 l1 x25_2).f1))) (fun _ hk => hk.2) (.int .i64 ((rd_T60 l1 x25_2).f2))) (fun _ hk => hk.2) (.int .i64 ((rd_T60 l1 x25_2).f3.f0))) (fun _ hk => hk.2) (.int .i64 ((rd_T60 l1 x25_2).f3.f1))) (fun _ h_ => h_.1)))); (case s6 => exact rq1 HO_1029004); rintro e w44 ⟨v1034, v1037, v1040, rfl, ho0, ho1, ho2, hb⟩; refine ⟨_, rfl, ?_⟩; have HO1035 := rl (Kd.R_new' ho0 (Kd.R_lt (fq HO_1029002 BK1030))); replace HO_1029002 := am (Kd.R_elder' (fq HO_1029002 BK1030) (Kd.R_base ho0) hb); have HO1038 := am (Kd.R_lower (Kd.R_newB (Kd.R_new' (Kd.R_new' ho1 (Kd.R_lt (by (with_reducible repeat (first | apply Kd.R_alloc | apply Kd.R_drewN | apply Kd.R_drew)); exact (Kd.R_mono (Kd.R_far (p := ⟨gb1030, 4, none⟩) (Kd.R_far (p := ⟨gb1030, 3, none⟩) (Kd.R_far (p := ⟨gb1030, 2, none⟩) (Kd.R_far (p := ⟨gb1030, 1, none⟩) (Kd.R_far (p := ⟨gb1030, 0, none⟩) (Kd.R_mono HO_1029003.out (fun k_ hk => (⟨hk, hk.2⟩ : _ ∧ k_ ≠ gb1030))) (fun _ hk => hk.2) (.int .i64 ((rd_T60 l1 x25_2).f0))) (fun _ hk => hk.2) (.int .i64 ((rd_T60 l1 x25_2).f1))) (fun _ hk => hk.2) (.int .i64 ((rd_T60 l1 x25_2).f2))) (fun _ hk => hk.2) (.int .i64 ((rd_T60 l1 x25_2).f3.f0))) (fun _ hk => hk.2) (.int .i64 ((rd_T60 l1 x25_2).f3.f1))) (fun _ h_ => h_.1))))) (Kd.R_lt (by (with_reducible repeat (first | apply Kd.R_alloc | apply Kd.R_drewN | apply Kd.R_drew)); exact (Kd.R_mono (Kd.R_far (p := ⟨gb1030, 4, none⟩) (Kd.R_far (p := ⟨gb1030, 3, none⟩) (Kd.R_far (p := ⟨gb1030, 2, none⟩) (Kd.R_far (p := ⟨gb1030, 1, none⟩) (Kd.R_far (p := ⟨gb1030, 0, none⟩) (Kd.R_mono HO_1029004.out (fun k_ hk => (⟨hk, hk.2⟩ : _ ∧ k_ ≠ gb1030))) (fun _ hk => hk.2) (.int .i64 ((rd_T60 l1 x25_2).f0))) (fun _ hk => hk.2) (.int .i64 ((rd_T60 l1 x25_2).f1))) (fun _ hk => hk.2) (.int .i64 ((rd_T60 l1 x25_2).f2))) (fun _ hk => hk.2) (.int .i64 ((rd_T60 l1 x25_2).f3.f0))) (fun _ hk => hk.2) (.int .i64 ((rd_T60 l1 x25_2).f3.f1))) (fun _ h_ => h_.1))))) (g := gb1030) (o := .cells #[.int .i64 ((rd_T60 l1 x25_2).f0), .int .i64 ((rd_T60 l1 x25_2).f1), .int .i64 ((rd_T60 l1 x25_2).f2), .int .i64 ((rd_T60 l1 x25_2).f3.f0), .int .i64 ((rd_T60 l1 x25_2).f3.f1)] 60 (0, 0)) (zp BK1030)) (below_size bq)); have HO1041 := am (Kd.R_lower (Kd.R_newB (Kd.R_new' (Kd.R_new' ho2 (Kd.R_lt (by (with_reducible repeat (first | apply Kd.R_alloc | apply Kd.R_drewN | apply Kd.R_drew)); exact (Kd.R_mono (Kd.R_far (p := ⟨gb1030, 4, none⟩) (Kd.R_far (p := ⟨gb1030, 3, none⟩) (Kd.R_far (p := ⟨gb1030, 2, none⟩) (Kd.R_far (p := ⟨gb1030, 1, none⟩) (Kd.R_far (p := ⟨gb1030, 0, none⟩) (Kd.R_mono HO_1029003.out (fun k_ hk => (⟨hk, hk.2⟩ : _ ∧ k_ ≠ gb1030))) (fun _ hk => hk.2) (.int .i64 ((rd_T60 l1 x25_2).f0))) (fun _ hk => hk.2) (.int .i64 ((rd_T60 l1 x25_2).f1))) (fun _ hk => hk.2) (.int .i64 ((rd_T60 l1 x25_2).f2))) (fun _ hk => hk.2) (.int .i64 ((rd_T60 l1 x25_2).f3.f0))) (fun _ hk => hk.2) (.int .i64 ((rd_T60 l1 x25_2).f3.f1))) (fun _ h_ => h_.1))))) (Kd.R_lt (by (with_reducible repeat (first | apply Kd.R_alloc | apply Kd.R_drewN | apply Kd.R_drew)); exact (Kd.R_mono (Kd.R_far (p := ⟨gb1030, 4, none⟩) (Kd.R_far (p := ⟨gb1030, 3, none⟩) (Kd.R_far (p := ⟨gb1030, 2, none⟩) (Kd.R_far (p := ⟨gb1030, 1, none⟩) (Kd.R_far (p := ⟨gb1030, 0, none⟩) (Kd.R_mono HO_1029004.out (fun k_ hk => (⟨hk, hk.2⟩ : _ ∧ k_ ≠ gb1030))) (fun _ hk => hk.2) (.int .i64 ((rd_T60 l1 x25_2).f0))) (fun _ hk => hk.2) (.int .i64 ((rd_T60 l1 x25_2).f1))) (fun _ hk => hk.2) (.int .i64 ((rd_T60 l1 x25_2).f2))) (fun _ hk => hk.2) (.int .i64 ((rd_T60 l1 x25_2).f3.f0))) (fun _ hk => hk.2) (.int .i64 ((rd_T60 l1 x25_2).f3.f1))) (fun _ h_ => h_.1))))) (g := gb1030) (o := .cells #[.int .i64 ((rd_T60 l1 x25_2).f0), .int .i64 ((rd_T60 l1 x25_2).f1), .int .i64 ((rd_T60 l1 x25_2).f2), .int .i64 ((rd_T60 l1 x25_2).f3.f0), .int .i64 ((rd_T60 l1 x25_2).f3.f1)] 60 (0, 0)) (zp BK1030)) (below_size bq)); replace HO_1029003 := am (Kd.R_mono (Kd.R_told (Kd.R_told (Kd.R_old (by (with_reducible repeat (first | apply Kd.R_alloc | apply Kd.R_drewN | apply Kd.R_drew)); exact (Kd.R_mono (Kd.R_far (p := ⟨gb1030, 4, none⟩) (Kd.R_far (p := ⟨gb1030, 3, none⟩) (Kd.R_far (p := ⟨gb1030, 2, none⟩) (Kd.R_far (p := ⟨gb1030, 1, none⟩) (Kd.R_far (p := ⟨gb1030, 0, none⟩) (Kd.R_mono HO_1029003.out (fun k_ hk => (⟨hk, hk.2⟩ : _ ∧ k_ ≠ gb1030))) (fun _ hk => hk.2) (.int .i64 ((rd_T60 l1 x25_2).f0))) (fun _ hk => hk.2) (.int .i64 ((rd_T60 l1 x25_2).f1))) (fun _ hk => hk.2) (.int .i64 ((rd_T60 l1 x25_2).f2))) (fun _ hk => hk.2) (.int .i64 ((rd_T60 l1 x25_2).f3.f0))) (fun _ hk => hk.2) (.int .i64 ((rd_T60 l1 x25_2).f3.f1))) (fun _ h_ => h_.1))) hb) (Kd.R_base ho1)) (Kd.R_base ho2)) (fun _ h_ => h_.1)); replace HO_1029004 := am (Kd.R_mono (Kd.R_told (Kd.R_told (Kd.R_old (by (with_reducible repeat (first | apply Kd.R_alloc | apply Kd.R_drewN | apply Kd.R_drew)); exact (Kd.R_mono (Kd.R_far (p := ⟨gb1030, 4, none⟩) (Kd.R_far (p := ⟨gb1030, 3, none⟩) (Kd.R_far (p := ⟨gb1030, 2, none⟩) (Kd.R_far (p := ⟨gb1030, 1, none⟩) (Kd.R_far (p := ⟨gb1030, 0, none⟩) (Kd.R_mono HO_1029004.out (fun k_ hk => (⟨hk, hk.2⟩ : _ ∧ k_ ≠ gb1030))) (fun _ hk => hk.2) (.int .i64 ((rd_T60 l1 x25_2).f0))) (fun _ hk => hk.2) (.int .i64 ((rd_T60 l1 x25_2).f1))) (fun _ hk => hk.2) (.int .i64 ((rd_T60 l1 x25_2).f2))) (fun _ hk => hk.2) (.int .i64 ((rd_T60 l1 x25_2).f3.f0))) (fun _ hk => hk.2) (.int .i64 ((rd_T60 l1 x25_2).f3.f1))) (fun _ h_ => h_.1))) hb) (Kd.R_base ho1)) (Kd.R_base ho2)) (fun _ h_ => h_.1)); replace BK1014 := am (blk_below (g := gb1014) (o := .cells #[.int .i64 a0_0, .int .i64 a0_1, .slice A0_2 l0_2.length c0_2, .slice A0_3 l0_3.length c0_3, .slice A0_4 l0_4.length c0_4] 35 (0, 0)) (zp BK1014) hb); replace BK1015 := am (blk_below (g := gb1015) (o := .cells #[.int .i64 x1016000_2, .int .i64 x1016001_2, .slice none 0 0, .slice none 0 0, .slice none 0 0] 35 (0, 0)) (zp BK1015) hb); replace BK1028 := am (blk_below (g := gb1028) (o := .cells #[.int .i64 x1029000_2, .int .i64 x1029001_2, .slice Ao41 x1029002_2.length co41, .slice Ao42 x1029003_2.length co42, .slice Ao43 x1029004_2.length co43] 35 (0, 0)) (zp BK1028) hb); replace BK1030 := am (blk_below (g := gb1030) (o := .cells #[.int .i64 ((rd_T60 l1 x25_2).f0), .int .i64 ((rd_T60 l1 x25_2).f1), .int .i64 ((rd_T60 l1 x25_2).f2), .int .i64 ((rd_T60 l1 x25_2).f3.f0), .int .i64 ((rd_T60 l1 x25_2).f3.f1)] 60 (0, 0)) (zp BK1030) hb); replace HB := sb hb; (try clear hb hb2 hk hi ho0 ho1 ho2)) | ((with_reducible refine gate_dst (N := 10) rfl ?_); (try (refine gate_guard (by rfl) ?_; dsimp only)); refine box_event ?hg (N := 10) ?hd (cs := #[.int .i64 0, .int .i64 0, .slice none 0 0, .slice none 0 0, .slice none 0 0]) (t := 35) ?hr ?_; (case hd => rfl); (case hg => rfl); (case hr => first | (go_simp; done) | (go_simp; rfl)); intro gb1043 hg w45 hbox hb; replace HO_1029002 := rb HO_1029002 hb; replace HO_1029003 := rb HO_1029003 hb; replace HO_1029004 := rb HO_1029004 hb; replace HO1035 := rb HO1035 hb; replace HO1038 := rb HO1038 hb; replace HO1041 := rb HO1041 hb; have BK1043 := am (hbox); have GW1043 := am (gq hg); have GE1043 := am (gq hg); replace HB := sb hb; have NB1014_1043 := nl hg BK1014; have NB1043_1014 := ng hg BK1014; replace BK1014 := zb BK1014 hb; have NB1015_1043 := nl hg BK1015; have NB1043_1015 := ng hg BK1015; replace BK1015 := zb BK1015 hb; have NB1028_1043 := nl hg BK1028; have NB1043_1028 := ng hg BK1028; replace BK1028 := zb BK1028 hb; have NB1030_1043 := nl hg BK1030; have NB1043_1030 := ng hg BK1030; replace BK1030 := zb BK1030 hb; clear hb hbox hg; have hnb46 := NB1043_1014.out; have hnc46 := NB1014_1043.out; have hnb47 := NB1043_1015.out; have hnc47 := NB1015_1043.out; have hnb48 := NB1043_1028.out; have hnc48 := NB1028_1043.out; have hnb49 := NB1043_1030.out; have hnc49 := NB1030_1043.out; have ⟨hcz50_0, hcz50_1, hcz50_2, hcz50_3, hcz50_4, hfz50_0, hfz50_1, hfz50_2, hfz50_3, hfz50_4⟩ := bc5 BK1043; obtain ⟨Ao51, co51, eo51⟩ := Kd.R_slice HO1035.out; subst eo51; obtain ⟨Ao52, co52, eo52⟩ := Kd.R_slice HO1038.out; subst eo52; obtain ⟨Ao53, co53, eo53⟩ := Kd.R_slice HO1041.out; subst eo53; have ⟨hcz54_0, hcz54_1, hcz54_2, hcz54_3, hcz54_4, hfz54_0, hfz54_1, hfz54_2, hfz54_3, hfz54_4⟩ := bc5 BK1028))
          go_roundg k2
          case measure => have := HJ2.out; have := HK2.out; omega
          case rel => exact ⟨(wrap64 (x25_2 + 1)), (x1016000_2), (x1016001_2), (t1031), (t1032), (t1033), (t1036), (t1039), (.slice Ao51 t1033.length co51), (.slice Ao52 t1036.length co52), (.slice Ao53 t1039.length co53), sq, H', ⟨by have := HJ2.out; have := HK2.out; omega⟩, ⟨by (with_reducible repeat (first | apply Kd.R_alloc | apply Kd.R_drewN | apply Kd.R_drew)); exact Kd.R_mono (Kd.R_far (p := ⟨gb1028, 4, none⟩) (Kd.R_far (p := ⟨gb1028, 3, none⟩) (Kd.R_far (p := ⟨gb1028, 2, none⟩) (Kd.R_far (p := ⟨gb1028, 1, none⟩) (Kd.R_far (p := ⟨gb1028, 0, none⟩) (Kd.R_far (p := ⟨gb1043, 4, none⟩) (Kd.R_far (p := ⟨gb1043, 3, none⟩) (Kd.R_far (p := ⟨gb1043, 2, none⟩) (Kd.R_far (p := ⟨gb1043, 1, none⟩) (Kd.R_far (p := ⟨gb1043, 0, none⟩) (Kd.R_types (Kd.R_types HO1035.out BK1043.out (by decide)) BK1028.out (by decide)) (fun _ hk => hk.1.2) (.int .i64 t1031)) (fun _ hk => hk.1.2) (.int .i64 t1032)) (fun _ hk => hk.1.2) (.slice Ao51 t1033.length co51)) (fun _ hk => hk.1.2) (.slice Ao52 t1036.length co52)) (fun _ hk => hk.1.2) (.slice Ao53 t1039.length co53)) (fun _ hk => hk.2) (.int .i64 t1031)) (fun _ hk => hk.2) (.int .i64 t1032)) (fun _ hk => hk.2) (.slice Ao51 t1033.length co51)) (fun _ hk => hk.2) (.slice Ao52 t1036.length co52)) (fun _ hk => hk.2) (.slice Ao53 t1039.length co53)) (fun _ hk => trivial)⟩, ⟨by (with_reducible repeat (first | apply Kd.R_alloc | apply Kd.R_drewN | apply Kd.R_drew)); exact Kd.R_mono (Kd.R_far (p := ⟨gb1028, 4, none⟩) (Kd.R_far (p := ⟨gb1028, 3, none⟩) (Kd.R_far (p := ⟨gb1028, 2, none⟩) (Kd.R_far (p := ⟨gb1028, 1, none⟩) (Kd.R_far (p := ⟨gb1028, 0, none⟩) (Kd.R_far (p := ⟨gb1043, 4, none⟩) (Kd.R_far (p := ⟨gb1043, 3, none⟩) (Kd.R_far (p := ⟨gb1043, 2, none⟩) (Kd.R_far (p := ⟨gb1043, 1, none⟩) (Kd.R_far (p := ⟨gb1043, 0, none⟩) (Kd.R_types (Kd.R_types HO1038.out BK1043.out (by decide)) BK1028.out (by decide)) (fun _ hk => hk.1.2) (.int .i64 t1031)) (fun _ hk => hk.1.2) (.int .i64 t1032)) (fun _ hk => hk.1.2) (.slice Ao51 t1033.length co51)) (fun _ hk => hk.1.2) (.slice Ao52 t1036.length co52)) (fun _ hk => hk.1.2) (.slice Ao53 t1039.length co53)) (fun _ hk => hk.2) (.int .i64 t1031)) (fun _ hk => hk.2) (.int .i64 t1032)) (fun _ hk => hk.2) (.slice Ao51 t1033.length co51)) (fun _ hk => hk.2) (.slice Ao52 t1036.length co52)) (fun _ hk => hk.2) (.slice Ao53 t1039.length co53)) (fun _ hk => hk.1.1.1.1.1)⟩, ⟨by (with_reducible repeat (first | apply Kd.R_alloc | apply Kd.R_drewN | apply Kd.R_drew)); exact Kd.R_mono (Kd.R_far (p := ⟨gb1028, 4, none⟩) (Kd.R_far (p := ⟨gb1028, 3, none⟩) (Kd.R_far (p := ⟨gb1028, 2, none⟩) (Kd.R_far (p := ⟨gb1028, 1, none⟩) (Kd.R_far (p := ⟨gb1028, 0, none⟩) (Kd.R_far (p := ⟨gb1043, 4, none⟩) (Kd.R_far (p := ⟨gb1043, 3, none⟩) (Kd.R_far (p := ⟨gb1043, 2, none⟩) (Kd.R_far (p := ⟨gb1043, 1, none⟩) (Kd.R_far (p := ⟨gb1043, 0, none⟩) (Kd.R_types (Kd.R_types HO1041.out BK1043.out (by decide)) BK1028.out (by decide)) (fun _ hk => hk.1.2) (.int .i64 t1031)) (fun _ hk => hk.1.2) (.int .i64 t1032)) (fun _ hk => hk.1.2) (.slice Ao51 t1033.length co51)) (fun _ hk => hk.1.2) (.slice Ao52 t1036.length co52)) (fun _ hk => hk.1.2) (.slice Ao53 t1039.length co53)) (fun _ hk => hk.2) (.int .i64 t1031)) (fun _ hk => hk.2) (.int .i64 t1032)) (fun _ hk => hk.2) (.slice Ao51 t1033.length co51)) (fun _ hk => hk.2) (.slice Ao52 t1036.length co52)) (fun _ hk => hk.2) (.slice Ao53 t1039.length co53)) (fun _ hk => hk.1.1.1.1.1)⟩, ⟨zp BK1014⟩, ⟨zp BK1015⟩, ⟨zp BK1028⟩, ⟨bq⟩⟩
         ·replace c32 := Bool.eq_false_iff.mpr c32
          subst c32
          rw [if_neg (show ¬ (false = true) by decide)] at H
          try dsimp only at H
          simp only [Option.some.injEq, Prod.mk.injEq] at H
          obtain ⟨rfl, rfl, rfl, rfl, rfl, rfl, rfl⟩ := H
          have p1029 : 0 ≤ (x25_2 : Int) := of_decide_eq_true aq
          have q1029 : x25_2 < (l1.length : Int) := of_decide_eq_true aq
          obtain ⟨ad1029, e1029, hx1029_0, hx1029_1, hx1029_2, hx1029_3, hx1029_4⟩ := at_T60 HR1.out x25_2 p1029 q1029
          cases e1029
          replace hx1029_0 := (HB.out.cell (World.block_lt_of_cell? w _ hx1029_0)).trans hx1029_0
          replace hx1029_1 := (HB.out.cell (World.block_lt_of_cell? w _ hx1029_1)).trans hx1029_1
          replace hx1029_2 := (HB.out.cell (World.block_lt_of_cell? w _ hx1029_2)).trans hx1029_2
          replace hx1029_3 := (HB.out.cell (World.block_lt_of_cell? w _ hx1029_3)).trans hx1029_3
          replace hx1029_4 := (HB.out.cell (World.block_lt_of_cell? w _ hx1029_4)).trans hx1029_4
          replace p1029 := eq_true p1029
          replace q1029 := eq_true q1029
          go_wp2_with (first | ((with_reducible refine gate_dst (N := 9) rfl ?_); (try (refine gate_guard (by rfl) ?_; dsimp only)); refine box_event ?hg (N := 9) ?hd (cs := #[.int .i64 0, .int .i64 0, .int .i64 0, .int .i64 0, .int .i64 0]) (t := 60) ?hr ?_; (case hd => rfl); (case hg => rfl); (case hr => first | (go_simp; done) | (go_simp; rfl)); intro gb1030 hg w55 hbox hb; replace HO_1029002 := rb HO_1029002 hb; replace HO_1029003 := am (Kd.R_below (Kd.R_elderB (rq HO_1029003) gb1030 (Nat.le_of_eq hg.symm)) hb); replace HO_1029004 := am (Kd.R_below (Kd.R_elderB (rq HO_1029004) gb1030 (Nat.le_of_eq hg.symm)) hb); have BK1030 := am (hbox); have GW1030 := am (gq hg); have GE1030 := am (gq hg); replace HB := sb hb; have NB1014_1030 := nl hg BK1014; have NB1030_1014 := ng hg BK1014; replace BK1014 := zb BK1014 hb; have NB1015_1030 := nl hg BK1015; have NB1030_1015 := ng hg BK1015; replace BK1015 := zb BK1015 hb; have NB1028_1030 := nl hg BK1028; have NB1030_1028 := ng hg BK1028; replace BK1028 := zb BK1028 hb; clear hb hbox hg; have hnb56 := NB1030_1014.out; have hnc56 := NB1014_1030.out; have hnb57 := NB1030_1015.out; have hnc57 := NB1015_1030.out; have hnb58 := NB1030_1028.out; have hnc58 := NB1028_1030.out; have ⟨hcz59_0, hcz59_1, hcz59_2, hcz59_3, hcz59_4, hfz59_0, hfz59_1, hfz59_2, hfz59_3, hfz59_4⟩ := bc5 BK1030; have hnb60 := NB1028_1014.out; have hnc60 := NB1014_1028.out; have hnb61 := NB1028_1015.out; have hnc61 := NB1015_1028.out; have ⟨hcz62_0, hcz62_1, hcz62_2, hcz62_3, hcz62_4, hfz62_0, hfz62_1, hfz62_2, hfz62_3, hfz62_4⟩ := bc5 BK1028; obtain ⟨Ao63, co63, eo63⟩ := Kd.R_slice HO_1029002.out; subst eo63; obtain ⟨Ao64, co64, eo64⟩ := Kd.R_slice HO_1029003.out; subst eo64; obtain ⟨Ao65, co65, eo65⟩ := Kd.R_slice HO_1029004.out; subst eo65) | ((with_reducible refine gate_callee (f := 38) rfl ?_); refine goesQ (some 33) Try.func38 #[.agg #[.int .i64 x1029000_2, .int .i64 x1029001_2, .slice Ao63 x1029002_2.length co63, .slice Ao64 x1029003_2.length co64, .slice Ao65 x1029004_2.length co65], .agg #[.int .i64 ((rd_T60 l1 x25_2).f0), .int .i64 ((rd_T60 l1 x25_2).f1), .int .i64 ((rd_T60 l1 x25_2).f2), .int .i64 ((rd_T60 l1 x25_2).f3.f0), .int .i64 ((rd_T60 l1 x25_2).f3.f1)]] ?_; (with_reducible refine (impl_ActOnce.calls k2 x1029000_2 x1029001_2 _ _ x1029002_2 _ _ x1029003_2 _ _ x1029004_2 ((rd_T60 l1 x25_2).f0) ((rd_T60 l1 x25_2).f1) ((rd_T60 l1 x25_2).f2) ((rd_T60 l1 x25_2).f3.f0) ((rd_T60 l1 x25_2).f3.f1) t1031 t1032 t1033 t1036 t1039 false _ ?s1 ?s2 ?s3 ?s4 ?s5 ?s6 A31.out).mono ?_); (case s1 => exact cf HO_1029002 BK1030); (case s2 => exact rq1 HO_1029002); (case s3 => refine (Kd.R_reads' (e := 60) (base := w.heap.size) (ok := fun k_ => (some k_ ≠ (.slice Ao65 x1029004_2.length co65 : Value).ownBlock ∧ k_ ≠ gb1030)) (n := x1029003_2.length) (c := co64) ?_).2.2; exact (by (with_reducible repeat (first | apply Kd.R_alloc | apply Kd.R_drewN | apply Kd.R_drew)); exact (Kd.R_mono (Kd.R_far (p := ⟨gb1030, 4, none⟩) (Kd.R_far (p := ⟨gb1030, 3, none⟩) (Kd.R_far (p := ⟨gb1030, 2, none⟩) (Kd.R_far (p := ⟨gb1030, 1, none⟩) (Kd.R_far (p := ⟨gb1030, 0, none⟩) (Kd.R_mono HO_1029003.out (fun k_ hk => (⟨hk, hk.2⟩ : _ ∧ k_ ≠ gb1030))) (fun _ hk => hk.2) (.int .i64 ((rd_T60 l1 x25_2).f0))) (fun _ hk => hk.2) (.int .i64 ((rd_T60 l1 x25_2).f1))) (fun _ hk => hk.2) (.int .i64 ((rd_T60 l1 x25_2).f2))) (fun _ hk => hk.2) (.int .i64 ((rd_T60 l1 x25_2).f3.f0))) (fun _ hk => hk.2) (.int .i64 ((rd_T60 l1 x25_2).f3.f1))) (fun _ h_ => h_.1)))); (case s4 => exact rq1 HO_1029003); (case s5 => refine (Kd.R_reads' (e := 60) (base := w.heap.size) (ok := fun k_ => (some k_ ≠ (.slice Ao64 x1029003_2.length co64 : Value).ownBlock ∧ k_ ≠ gb1030)) (n := x1029004_2.length) (c := co65) ?_).2.2; exact (by (with_reducible repeat (first | apply Kd.R_alloc | apply Kd.R_drewN | apply Kd.R_drew)); exact (Kd.R_mono (Kd.R_far (p := ⟨gb1030, 4, none⟩) (Kd.R_far (p := ⟨gb1030, 3, none⟩) (Kd.R_far (p := ⟨gb1030, 2, none⟩) (Kd.R_far (p := ⟨gb1030, 1, none⟩) (Kd.R_far (p := ⟨gb1030, 0, none⟩) (Kd.R_mono HO_1029004.out (fun k_ hk => (⟨hk, hk.2⟩ : _ ∧ k_ ≠ gb1030))) (fun _ hk => hk.2) (.int .i64 ((rd_T60 l1 x25_2).f0))) (fun _ hk => hk.2) (.int .i64 ((rd_T60 l1 x25_2).f1))) (fun _ hk => hk.2) (.int .i64 ((rd_T60 l1 x25_2).f2))) (fun _ hk => hk.2) (.int .i64 ((rd_T60 l1 x25_2).f3.f0))) (fun _ hk => hk.2) (.int .i64 ((rd_T60 l1 x25_2).f3.f1))) (fun _ h_ => h_.1)))); (case s6 => exact rq1 HO_1029004); rintro e w66 ⟨v1034, v1037, v1040, rfl, ho0, ho1, ho2, hb⟩; refine ⟨_, rfl, ?_⟩; have HO1035 := rl (Kd.R_new' ho0 (Kd.R_lt (fq HO_1029002 BK1030))); replace HO_1029002 := am (Kd.R_elder' (fq HO_1029002 BK1030) (Kd.R_base ho0) hb); have HO1038 := am (Kd.R_lower (Kd.R_newB (Kd.R_new' (Kd.R_new' ho1 (Kd.R_lt (by (with_reducible repeat (first | apply Kd.R_alloc | apply Kd.R_drewN | apply Kd.R_drew)); exact (Kd.R_mono (Kd.R_far (p := ⟨gb1030, 4, none⟩) (Kd.R_far (p := ⟨gb1030, 3, none⟩) (Kd.R_far (p := ⟨gb1030, 2, none⟩) (Kd.R_far (p := ⟨gb1030, 1, none⟩) (Kd.R_far (p := ⟨gb1030, 0, none⟩) (Kd.R_mono HO_1029003.out (fun k_ hk => (⟨hk, hk.2⟩ : _ ∧ k_ ≠ gb1030))) (fun _ hk => hk.2) (.int .i64 ((rd_T60 l1 x25_2).f0))) (fun _ hk => hk.2) (.int .i64 ((rd_T60 l1 x25_2).f1))) (fun _ hk => hk.2) (.int .i64 ((rd_T60 l1 x25_2).f2))) (fun _ hk => hk.2) (.int .i64 ((rd_T60 l1 x25_2).f3.f0))) (fun _ hk => hk.2) (.int .i64 ((rd_T60 l1 x25_2).f3.f1))) (fun _ h_ => h_.1))))) (Kd.R_lt (by (with_reducible repeat (first | apply Kd.R_alloc | apply Kd.R_drewN | apply Kd.R_drew)); exact (Kd.R_mono (Kd.R_far (p := ⟨gb1030, 4, none⟩) (Kd.R_far (p := ⟨gb1030, 3, none⟩) (Kd.R_far (p := ⟨gb1030, 2, none⟩) (Kd.R_far (p := ⟨gb1030, 1, none⟩) (Kd.R_far (p := ⟨gb1030, 0, none⟩) (Kd.R_mono HO_1029004.out (fun k_ hk => (⟨hk, hk.2⟩ : _ ∧ k_ ≠ gb1030))) (fun _ hk => hk.2) (.int .i64 ((rd_T60 l1 x25_2).f0))) (fun _ hk => hk.2) (.int .i64 ((rd_T60 l1 x25_2).f1))) (fun _ hk => hk.2) (.int .i64 ((rd_T60 l1 x25_2).f2))) (fun _ hk => hk.2) (.int .i64 ((rd_T60 l1 x25_2).f3.f0))) (fun _ hk => hk.2) (.int .i64 ((rd_T60 l1 x25_2).f3.f1))) (fun _ h_ => h_.1))))) (g := gb1030) (o := .cells #[.int .i64 ((rd_T60 l1 x25_2).f0), .int .i64 ((rd_T60 l1 x25_2).f1), .int .i64 ((rd_T60 l1 x25_2).f2), .int .i64 ((rd_T60 l1 x25_2).f3.f0), .int .i64 ((rd_T60 l1 x25_2).f3.f1)] 60 (0, 0)) (zp BK1030)) (below_size bq)); have HO1041 := am (Kd.R_lower (Kd.R_newB (Kd.R_new' (Kd.R_new' ho2 (Kd.R_lt (by (with_reducible repeat (first | apply Kd.R_alloc | apply Kd.R_drewN | apply Kd.R_drew)); exact (Kd.R_mono (Kd.R_far (p := ⟨gb1030, 4, none⟩) (Kd.R_far (p := ⟨gb1030, 3, none⟩) (Kd.R_far (p := ⟨gb1030, 2, none⟩) (Kd.R_far (p := ⟨gb1030, 1, none⟩) (Kd.R_far (p := ⟨gb1030, 0, none⟩) (Kd.R_mono HO_1029003.out (fun k_ hk => (⟨hk, hk.2⟩ : _ ∧ k_ ≠ gb1030))) (fun _ hk => hk.2) (.int .i64 ((rd_T60 l1 x25_2).f0))) (fun _ hk => hk.2) (.int .i64 ((rd_T60 l1 x25_2).f1))) (fun _ hk => hk.2) (.int .i64 ((rd_T60 l1 x25_2).f2))) (fun _ hk => hk.2) (.int .i64 ((rd_T60 l1 x25_2).f3.f0))) (fun _ hk => hk.2) (.int .i64 ((rd_T60 l1 x25_2).f3.f1))) (fun _ h_ => h_.1))))) (Kd.R_lt (by (with_reducible repeat (first | apply Kd.R_alloc | apply Kd.R_drewN | apply Kd.R_drew)); exact (Kd.R_mono (Kd.R_far (p := ⟨gb1030, 4, none⟩) (Kd.R_far (p := ⟨gb1030, 3, none⟩) (Kd.R_far (p := ⟨gb1030, 2, none⟩) (Kd.R_far (p := ⟨gb1030, 1, none⟩) (Kd.R_far (p := ⟨gb1030, 0, none⟩) (Kd.R_mono HO_1029004.out (fun k_ hk => (⟨hk, hk.2⟩ : _ ∧ k_ ≠ gb1030))) (fun _ hk => hk.2) (.int .i64 ((rd_T60 l1 x25_2).f0))) (fun _ hk => hk.2) (.int .i64 ((rd_T60 l1 x25_2).f1))) (fun _ hk => hk.2) (.int .i64 ((rd_T60 l1 x25_2).f2))) (fun _ hk => hk.2) (.int .i64 ((rd_T60 l1 x25_2).f3.f0))) (fun _ hk => hk.2) (.int .i64 ((rd_T60 l1 x25_2).f3.f1))) (fun _ h_ => h_.1))))) (g := gb1030) (o := .cells #[.int .i64 ((rd_T60 l1 x25_2).f0), .int .i64 ((rd_T60 l1 x25_2).f1), .int .i64 ((rd_T60 l1 x25_2).f2), .int .i64 ((rd_T60 l1 x25_2).f3.f0), .int .i64 ((rd_T60 l1 x25_2).f3.f1)] 60 (0, 0)) (zp BK1030)) (below_size bq)); replace HO_1029003 := am (Kd.R_mono (Kd.R_told (Kd.R_told (Kd.R_old (by (with_reducible repeat (first | apply Kd.R_alloc | apply Kd.R_drewN | apply Kd.R_drew)); exact (Kd.R_mono (Kd.R_far (p := ⟨gb1030, 4, none⟩) (Kd.R_far (p := ⟨gb1030, 3, none⟩) (Kd.R_far (p := ⟨gb1030, 2, none⟩) (Kd.R_far (p := ⟨gb1030, 1, none⟩) (Kd.R_far (p := ⟨gb1030, 0, none⟩) (Kd.R_mono HO_1029003.out (fun k_ hk => (⟨hk, hk.2⟩ : _ ∧ k_ ≠ gb1030))) (fun _ hk => hk.2) (.int .i64 ((rd_T60 l1 x25_2).f0))) (fun _ hk => hk.2) (.int .i64 ((rd_T60 l1 x25_2).f1))) (fun _ hk => hk.2) (.int .i64 ((rd_T60 l1 x25_2).f2))) (fun _ hk => hk.2) (.int .i64 ((rd_T60 l1 x25_2).f3.f0))) (fun _ hk => hk.2) (.int .i64 ((rd_T60 l1 x25_2).f3.f1))) (fun _ h_ => h_.1))) hb) (Kd.R_base ho1)) (Kd.R_base ho2)) (fun _ h_ => h_.1)); replace HO_1029004 := am (Kd.R_mono (Kd.R_told (Kd.R_told (Kd.R_old (by (with_reducible repeat (first | apply Kd.R_alloc | apply Kd.R_drewN | apply Kd.R_drew)); exact (Kd.R_mono (Kd.R_far (p := ⟨gb1030, 4, none⟩) (Kd.R_far (p := ⟨gb1030, 3, none⟩) (Kd.R_far (p := ⟨gb1030, 2, none⟩) (Kd.R_far (p := ⟨gb1030, 1, none⟩) (Kd.R_far (p := ⟨gb1030, 0, none⟩) (Kd.R_mono HO_1029004.out (fun k_ hk => (⟨hk, hk.2⟩ : _ ∧ k_ ≠ gb1030))) (fun _ hk => hk.2) (.int .i64 ((rd_T60 l1 x25_2).f0))) (fun _ hk => hk.2) (.int .i64 ((rd_T60 l1 x25_2).f1))) (fun _ hk => hk.2) (.int .i64 ((rd_T60 l1 x25_2).f2))) (fun _ hk => hk.2) (.int .i64 ((rd_T60 l1 x25_2).f3.f0))) (fun _ hk => hk.2) (.int .i64 ((rd_T60 l1 x25_2).f3.f1))) (fun _ h_ => h_.1))) hb) (Kd.R_base ho1)) (Kd.R_base ho2)) (fun _ h_ => h_.1)); replace BK1014 := am (blk_below (g := gb1014) (o := .cells #[.int .i64 a0_0, .int .i64 a0_1, .slice A0_2 l0_2.length c0_2, .slice A0_3 l0_3.length c0_3, .slice A0_4 l0_4.length c0_4] 35 (0, 0)) (zp BK1014) hb); replace BK1015 := am (blk_below (g := gb1015) (o := .cells #[.int .i64 x1016000_2, .int .i64 x1016001_2, .slice none 0 0, .slice none 0 0, .slice none 0 0] 35 (0, 0)) (zp BK1015) hb); replace BK1028 := am (blk_below (g := gb1028) (o := .cells #[.int .i64 x1029000_2, .int .i64 x1029001_2, .slice Ao63 x1029002_2.length co63, .slice Ao64 x1029003_2.length co64, .slice Ao65 x1029004_2.length co65] 35 (0, 0)) (zp BK1028) hb); replace BK1030 := am (blk_below (g := gb1030) (o := .cells #[.int .i64 ((rd_T60 l1 x25_2).f0), .int .i64 ((rd_T60 l1 x25_2).f1), .int .i64 ((rd_T60 l1 x25_2).f2), .int .i64 ((rd_T60 l1 x25_2).f3.f0), .int .i64 ((rd_T60 l1 x25_2).f3.f1)] 60 (0, 0)) (zp BK1030) hb); replace HB := sb hb; (try clear hb hb2 hk hi ho0 ho1 ho2)) | ((with_reducible refine gate_dst (N := 10) rfl ?_); (try (refine gate_guard (by rfl) ?_; dsimp only)); refine box_event ?hg (N := 10) ?hd (cs := #[.int .i64 0, .int .i64 0, .slice none 0 0, .slice none 0 0, .slice none 0 0]) (t := 35) ?hr ?_; (case hd => rfl); (case hg => rfl); (case hr => first | (go_simp; done) | (go_simp; rfl)); intro gb1043 hg w67 hbox hb; replace HO_1029002 := rb HO_1029002 hb; replace HO_1029003 := rb HO_1029003 hb; replace HO_1029004 := rb HO_1029004 hb; replace HO1035 := rb HO1035 hb; replace HO1038 := rb HO1038 hb; replace HO1041 := rb HO1041 hb; have BK1043 := am (hbox); have GW1043 := am (gq hg); have GE1043 := am (gq hg); replace HB := sb hb; have NB1014_1043 := nl hg BK1014; have NB1043_1014 := ng hg BK1014; replace BK1014 := zb BK1014 hb; have NB1015_1043 := nl hg BK1015; have NB1043_1015 := ng hg BK1015; replace BK1015 := zb BK1015 hb; have NB1028_1043 := nl hg BK1028; have NB1043_1028 := ng hg BK1028; replace BK1028 := zb BK1028 hb; have NB1030_1043 := nl hg BK1030; have NB1043_1030 := ng hg BK1030; replace BK1030 := zb BK1030 hb; clear hb hbox hg; have hnb68 := NB1043_1014.out; have hnc68 := NB1014_1043.out; have hnb69 := NB1043_1015.out; have hnc69 := NB1015_1043.out; have hnb70 := NB1043_1028.out; have hnc70 := NB1028_1043.out; have hnb71 := NB1043_1030.out; have hnc71 := NB1030_1043.out; have ⟨hcz72_0, hcz72_1, hcz72_2, hcz72_3, hcz72_4, hfz72_0, hfz72_1, hfz72_2, hfz72_3, hfz72_4⟩ := bc5 BK1043; obtain ⟨Ao73, co73, eo73⟩ := Kd.R_slice HO1035.out; subst eo73; obtain ⟨Ao74, co74, eo74⟩ := Kd.R_slice HO1038.out; subst eo74; obtain ⟨Ao75, co75, eo75⟩ := Kd.R_slice HO1041.out; subst eo75; have ⟨hcz76_0, hcz76_1, hcz76_2, hcz76_3, hcz76_4, hfz76_0, hfz76_1, hfz76_2, hfz76_3, hfz76_4⟩ := bc5 BK1028; have hnb77 := NB1015_1014.out; have hnc77 := NB1014_1015.out; have ⟨hcz78_0, hcz78_1, hcz78_2, hcz78_3, hcz78_4, hfz78_0, hfz78_1, hfz78_2, hfz78_3, hfz78_4⟩ := bc5 BK1015))
          refine bodyPost_ret (results_ctt rfl _ _ gb1015 35 #[.int .i64 x1029000_2, .int .i64 x1029001_2, .slice Ao63 x1029002_2.length co63, .slice Ao64 x1029003_2.length co64, .slice Ao65 x1029004_2.length co65] (0, 0) _ rfl (zp BK1015) Try.underlying35 rfl (by kernel_rfl)) rfl ?_
          exact ⟨_, _, _, eq_, by (with_reducible repeat (first | apply Kd.R_alloc | apply Kd.R_drewN | apply Kd.R_drew)); exact Kd.R_mono (Kd.R_far (p := ⟨gb1015, 4, none⟩) (Kd.R_far (p := ⟨gb1015, 3, none⟩) (Kd.R_far (p := ⟨gb1015, 2, none⟩) (Kd.R_far (p := ⟨gb1015, 1, none⟩) (Kd.R_far (p := ⟨gb1015, 0, none⟩) (Kd.R_far (p := ⟨gb1043, 4, none⟩) (Kd.R_far (p := ⟨gb1043, 3, none⟩) (Kd.R_far (p := ⟨gb1043, 2, none⟩) (Kd.R_far (p := ⟨gb1043, 1, none⟩) (Kd.R_far (p := ⟨gb1043, 0, none⟩) (Kd.R_types (Kd.R_types HO_1029002.out BK1043.out (by decide)) BK1015.out (by decide)) (fun _ hk => hk.1.2) (.int .i64 t1031)) (fun _ hk => hk.1.2) (.int .i64 t1032)) (fun _ hk => hk.1.2) (.slice Ao73 t1033.length co73)) (fun _ hk => hk.1.2) (.slice Ao74 t1036.length co74)) (fun _ hk => hk.1.2) (.slice Ao75 t1039.length co75)) (fun _ hk => hk.2) (.int .i64 x1029000_2)) (fun _ hk => hk.2) (.int .i64 x1029001_2)) (fun _ hk => hk.2) (.slice Ao63 x1029002_2.length co63)) (fun _ hk => hk.2) (.slice Ao64 x1029003_2.length co64)) (fun _ hk => hk.2) (.slice Ao65 x1029004_2.length co65)) (fun _ hk => trivial), by (with_reducible repeat (first | apply Kd.R_alloc | apply Kd.R_drewN | apply Kd.R_drew)); exact Kd.R_mono (Kd.R_far (p := ⟨gb1015, 4, none⟩) (Kd.R_far (p := ⟨gb1015, 3, none⟩) (Kd.R_far (p := ⟨gb1015, 2, none⟩) (Kd.R_far (p := ⟨gb1015, 1, none⟩) (Kd.R_far (p := ⟨gb1015, 0, none⟩) (Kd.R_far (p := ⟨gb1043, 4, none⟩) (Kd.R_far (p := ⟨gb1043, 3, none⟩) (Kd.R_far (p := ⟨gb1043, 2, none⟩) (Kd.R_far (p := ⟨gb1043, 1, none⟩) (Kd.R_far (p := ⟨gb1043, 0, none⟩) (Kd.R_types (Kd.R_types HO_1029003.out BK1043.out (by decide)) BK1015.out (by decide)) (fun _ hk => hk.1.2) (.int .i64 t1031)) (fun _ hk => hk.1.2) (.int .i64 t1032)) (fun _ hk => hk.1.2) (.slice Ao73 t1033.length co73)) (fun _ hk => hk.1.2) (.slice Ao74 t1036.length co74)) (fun _ hk => hk.1.2) (.slice Ao75 t1039.length co75)) (fun _ hk => hk.2) (.int .i64 x1029000_2)) (fun _ hk => hk.2) (.int .i64 x1029001_2)) (fun _ hk => hk.2) (.slice Ao63 x1029002_2.length co63)) (fun _ hk => hk.2) (.slice Ao64 x1029003_2.length co64)) (fun _ hk => hk.2) (.slice Ao65 x1029004_2.length co65)) (fun _ hk => hk.1.1.1.1.1), by (with_reducible repeat (first | apply Kd.R_alloc | apply Kd.R_drewN | apply Kd.R_drew)); exact Kd.R_mono (Kd.R_far (p := ⟨gb1015, 4, none⟩) (Kd.R_far (p := ⟨gb1015, 3, none⟩) (Kd.R_far (p := ⟨gb1015, 2, none⟩) (Kd.R_far (p := ⟨gb1015, 1, none⟩) (Kd.R_far (p := ⟨gb1015, 0, none⟩) (Kd.R_far (p := ⟨gb1043, 4, none⟩) (Kd.R_far (p := ⟨gb1043, 3, none⟩) (Kd.R_far (p := ⟨gb1043, 2, none⟩) (Kd.R_far (p := ⟨gb1043, 1, none⟩) (Kd.R_far (p := ⟨gb1043, 0, none⟩) (Kd.R_types (Kd.R_types HO_1029004.out BK1043.out (by decide)) BK1015.out (by decide)) (fun _ hk => hk.1.2) (.int .i64 t1031)) (fun _ hk => hk.1.2) (.int .i64 t1032)) (fun _ hk => hk.1.2) (.slice Ao73 t1033.length co73)) (fun _ hk => hk.1.2) (.slice Ao74 t1036.length co74)) (fun _ hk => hk.1.2) (.slice Ao75 t1039.length co75)) (fun _ hk => hk.2) (.int .i64 x1029000_2)) (fun _ hk => hk.2) (.int .i64 x1029001_2)) (fun _ hk => hk.2) (.slice Ao63 x1029002_2.length co63)) (fun _ hk => hk.2) (.slice Ao64 x1029003_2.length co64)) (fun _ hk => hk.2) (.slice Ao65 x1029004_2.length co65)) (fun _ hk => hk.1.1.1.1.1), bq⟩
        ·rw [if_neg c30] at H
         exact absurd H (by simp)
       ·rw [if_neg c29] at H
        exact absurd H (by simp)
      ·rw [if_neg c28] at H
       have c28b0 : decide (x25_2 < (l1.length : Int)) = false := decide_eq_false c28
       clear c28
       simp only [Option.some.injEq, Prod.mk.injEq] at H
       obtain ⟨rfl, rfl, rfl, rfl, rfl, rfl, rfl⟩ := H
       have hnb79 := NB1028_1014.out
       have hnc79 := NB1014_1028.out
       have hnb80 := NB1028_1015.out
       have hnc80 := NB1015_1028.out
       have ⟨hcz81_0, hcz81_1, hcz81_2, hcz81_3, hcz81_4, hfz81_0, hfz81_1, hfz81_2, hfz81_3, hfz81_4⟩ := bc5 BK1028
       have hnb82 := NB1015_1014.out
       have hnc82 := NB1014_1015.out
       have ⟨hcz83_0, hcz83_1, hcz83_2, hcz83_3, hcz83_4, hfz83_0, hfz83_1, hfz83_2, hfz83_3, hfz83_4⟩ := bc5 BK1015
       obtain ⟨Ao84, co84, eo84⟩ := Kd.R_slice HO_1029002.out
       subst eo84
       obtain ⟨Ao85, co85, eo85⟩ := Kd.R_slice HO_1029003.out
       subst eo85
       obtain ⟨Ao86, co86, eo86⟩ := Kd.R_slice HO_1029004.out
       subst eo86
       go_wp2
       refine bodyPost_ret (results_ctt rfl _ _ gb1015 35 #[.int .i64 x1029000_2, .int .i64 x1029001_2, .slice Ao84 x1029002_2.length co84, .slice Ao85 x1029003_2.length co85, .slice Ao86 x1029004_2.length co86] (0, 0) _ rfl (zp BK1015) Try.underlying35 rfl (by kernel_rfl)) rfl ?_
       exact ⟨_, _, _, eq_, Kd.R_mono (ff HO_1029002 BK1015) (fun _ hk => trivial), Kd.R_mono (ff HO_1029003 BK1015) (fun _ hk => hk.1), Kd.R_mono (ff HO_1029004 BK1015) (fun _ hk => hk.1), bq⟩



/-! ### laws_FnExactRunSession: function 9 -/
mutual
def laws_FnExactRunSession.j0 : Nat → List (S56) → Int → Bool → List (S60) → Int → Bool → Bool → Int → Int → List (S54) → List (S56) → List (S56) → Int → Int → List (S58) → List (S60) → List (S60) → Int → Int → List (S58) → List (S60) → List (S60) → Int → Int → List (S58) → List (S60) → List (S60) → Option (Bool)
 | 0, _, _, _, _, _, _, _, _, _, _, _, _, _, _, _, _, _, _, _, _, _, _, _, _, _, _, _ => none
 | k + 1, x1, x7, x8, x10, x12, x13, x63, x1045000, x1045001, x1045002, x1045003, x1045004, x1075000, x1075001, x1075002, x1075003, x1075004, x1087000, x1087001, x1087002, x1087003, x1087004, x1104000, x1104001, x1104002, x1104003, x1104004 => if x63 = true then (some false) else ((laws_toSession.f k x1045000 x1045001 x1045002 x1045003 x1045004).bind fun bt1105 => ((laws_eqSession.f k x1087000 x1087001 x1087002 x1087003 x1087004 bt1105.1 bt1105.2.1 bt1105.2.2.1 bt1105.2.2.2.1 bt1105.2.2.2.2).bind fun t1116 => (if t1116 = true then ((laws_toSessionActS.f k x1).bind fun t1117 => ((laws_eqSessionActS.f k x10 t1117).bind fun t1120 => (if t1120 = true then ((laws_markSession.f k x1087000 x1087001 x1087002 x1087003 x1087004 1).bind fun bt1121 => ((laws_markSessionActS.f k x10 bt1121.1).bind fun bt1125 => (if bt1125.1 < 0 then (laws_FnExactRunSession.j1 k x1 x7 x8 true x1045000 x1045001 x1045002 x1045003 x1045004 x1075000 x1075001 x1075002 x1075003 x1075004 x1104000 x1104001 x1104002 x1104003 x1104004) else ((laws_eqSession.f k x1104000 x1104001 x1104002 x1104003 x1104004 x1075000 x1075001 x1075002 x1075003 x1075004).bind fun t1127 => (if t1127 = true then (if x12 = x7 then (laws_FnExactRunSession.j1 k x1 x7 x8 (x13 != x8) x1045000 x1045001 x1045002 x1045003 x1045004 x1075000 x1075001 x1075002 x1075003 x1075004 x1104000 x1104001 x1104002 x1104003 x1104004) else (laws_FnExactRunSession.j1 k x1 x7 x8 true x1045000 x1045001 x1045002 x1045003 x1045004 x1075000 x1075001 x1075002 x1075003 x1075004 x1104000 x1104001 x1104002 x1104003 x1104004)) else (laws_FnExactRunSession.j1 k x1 x7 x8 true x1045000 x1045001 x1045002 x1045003 x1045004 x1075000 x1075001 x1075002 x1075003 x1075004 x1104000 x1104001 x1104002 x1104003 x1104004)))))) else (some false)))) else (some false))))
def laws_FnExactRunSession.j1 : Nat → List (S56) → Int → Bool → Bool → Int → Int → List (S54) → List (S56) → List (S56) → Int → Int → List (S58) → List (S60) → List (S60) → Int → Int → List (S58) → List (S60) → List (S60) → Option (Bool)
 | 0, _, _, _, _, _, _, _, _, _, _, _, _, _, _, _, _, _, _, _ => none
 | k + 1, x1, x7, x8, x97, x1045000, x1045001, x1045002, x1045003, x1045004, x1075000, x1075001, x1075002, x1075003, x1075004, x1104000, x1104001, x1104002, x1104003, x1104004 => if x97 = true then (some false) else ((laws_markSession.f k x1104000 x1104001 x1104002 x1104003 x1104004 1).bind fun bt1128 => ((laws_heldSession.f k x1104000 x1104001 bt1128.2.1 bt1128.2.2.1 bt1128.2.2.2 1).bind fun t1132 => (if t1132 < 0 then (some false) else (if t1132 = bt1128.1 then ((laws_toSession.f k x1045000 x1045001 x1045002 x1045003 x1045004).bind fun bt1133 => ((laws_toSessionActS.f k x1).bind fun t1144 => ((impl_RunSession.f k bt1133.1 bt1133.2.1 bt1133.2.2.1 bt1133.2.2.2.1 bt1133.2.2.2.2 t1144).bind fun bt1147 => ((laws_eqSession.f k bt1147.1 bt1147.2.1 bt1147.2.2.1 bt1147.2.2.2.1 bt1147.2.2.2.2.1 x1075000 x1075001 x1075002 x1075003 x1075004).bind fun t1161 => (if t1161 = true then (if bt1147.2.2.2.2.2.1 = x7 then (laws_FnExactRunSession.j2 k bt1128.1 (bt1147.2.2.2.2.2.2 != x8) x1104000 x1104001 bt1128.2.1 bt1128.2.2.1 bt1128.2.2.2) else (laws_FnExactRunSession.j2 k bt1128.1 true x1104000 x1104001 bt1128.2.1 bt1128.2.2.1 bt1128.2.2.2)) else (laws_FnExactRunSession.j2 k bt1128.1 true x1104000 x1104001 bt1128.2.1 bt1128.2.2.1 bt1128.2.2.2)))))) else (some false)))))
def laws_FnExactRunSession.j2 : Nat → Int → Bool → Int → Int → List (S58) → List (S60) → List (S60) → Option (Bool)
 | 0, _, _, _, _, _, _, _ => none
 | k + 1, x15, x131, x1104000, x1104001, x1104002, x1104003, x1104004 => if x131 = true then (some false) else ((laws_heldSession.f k x1104000 x1104001 x1104002 x1104003 x1104004 1).bind fun t1162 => (if t1162 < 0 then (some false) else (if t1162 = x15 then (some true) else (some false))))
end
def laws_FnExactRunSession.f (k : Nat) (a0_0 : Int) (a0_1 : Int) (l0_2 : List (S54)) (l0_3 : List (S56)) (l0_4 : List (S56)) (l1 : List (S56)) : Option (Bool) := (laws_szSession.f a0_0 a0_1 l0_2 l0_3 l0_4 1048576).bind fun t1045 => (if t1045 < 0 then (some true) else ((laws_szSessionActS.f l1 t1045).bind fun t1046 => (if t1046 < 0 then (some true) else ((laws_toSession.f k a0_0 a0_1 l0_2 l0_3 l0_4).bind fun bt1047 => ((laws_toSessionActS.f k l1).bind fun t1058 => ((spec_RunSession.f k bt1047.1 bt1047.2.1 bt1047.2.2.1 bt1047.2.2.2.1 bt1047.2.2.2.2 t1058).bind fun bt1061 => ((laws_toSession.f k a0_0 a0_1 l0_2 l0_3 l0_4).bind fun bt1075 => ((laws_toSessionActS.f k l1).bind fun t1087 => ((impl_RunSession.f k bt1075.1 bt1075.2.1 bt1075.2.2.1 bt1075.2.2.2.1 bt1075.2.2.2.2 t1087).bind fun bt1090 => ((laws_eqSession.f k bt1090.1 bt1090.2.1 bt1090.2.2.1 bt1090.2.2.2.1 bt1090.2.2.2.2.1 bt1061.1 bt1061.2.1 bt1061.2.2.1 bt1061.2.2.2.1 bt1061.2.2.2.2.1).bind fun t1104 => (if t1104 = true then (if bt1090.2.2.2.2.2.1 = bt1061.2.2.2.2.2.1 then (laws_FnExactRunSession.j0 k l1 bt1061.2.2.2.2.2.1 bt1061.2.2.2.2.2.2 t1087 bt1090.2.2.2.2.2.1 bt1090.2.2.2.2.2.2 (bt1090.2.2.2.2.2.2 != bt1061.2.2.2.2.2.2) a0_0 a0_1 l0_2 l0_3 l0_4 bt1061.1 bt1061.2.1 bt1061.2.2.1 bt1061.2.2.2.1 bt1061.2.2.2.2.1 bt1075.1 bt1075.2.1 bt1075.2.2.1 bt1075.2.2.2.1 bt1075.2.2.2.2 bt1090.1 bt1090.2.1 bt1090.2.2.1 bt1090.2.2.2.1 bt1090.2.2.2.2.1) else (laws_FnExactRunSession.j0 k l1 bt1061.2.2.2.2.2.1 bt1061.2.2.2.2.2.2 t1087 bt1090.2.2.2.2.2.1 bt1090.2.2.2.2.2.2 true a0_0 a0_1 l0_2 l0_3 l0_4 bt1061.1 bt1061.2.1 bt1061.2.2.1 bt1061.2.2.2.1 bt1061.2.2.2.2.1 bt1075.1 bt1075.2.1 bt1075.2.2.1 bt1075.2.2.2.1 bt1075.2.2.2.2 bt1090.1 bt1090.2.1 bt1090.2.2.1 bt1090.2.2.2.1 bt1090.2.2.2.2.1)) else (laws_FnExactRunSession.j0 k l1 bt1061.2.2.2.2.2.1 bt1061.2.2.2.2.2.2 t1087 bt1090.2.2.2.2.2.1 bt1090.2.2.2.2.2.2 true a0_0 a0_1 l0_2 l0_3 l0_4 bt1061.1 bt1061.2.1 bt1061.2.2.1 bt1061.2.2.2.1 bt1061.2.2.2.2.1 bt1075.1 bt1075.2.1 bt1075.2.2.1 bt1075.2.2.2.1 bt1075.2.2.2.2 bt1090.1 bt1090.2.1 bt1090.2.2.1 bt1090.2.2.2.1 bt1090.2.2.2.2.1))))))))))))
theorem laws_FnExactRunSession.mono_l : ∀ k, (∀ y0 y1 y2 y3 y4 y5 y6 y7 y8 y9 y10 y11 y12 y13 y14 y15 y16 y17 y18 y19 y20 y21 y22 y23 y24 y25 y26, LeO (laws_FnExactRunSession.j0 k y0 y1 y2 y3 y4 y5 y6 y7 y8 y9 y10 y11 y12 y13 y14 y15 y16 y17 y18 y19 y20 y21 y22 y23 y24 y25 y26) (laws_FnExactRunSession.j0 (k + 1) y0 y1 y2 y3 y4 y5 y6 y7 y8 y9 y10 y11 y12 y13 y14 y15 y16 y17 y18 y19 y20 y21 y22 y23 y24 y25 y26)) ∧ (∀ y0 y1 y2 y3 y4 y5 y6 y7 y8 y9 y10 y11 y12 y13 y14 y15 y16 y17 y18, LeO (laws_FnExactRunSession.j1 k y0 y1 y2 y3 y4 y5 y6 y7 y8 y9 y10 y11 y12 y13 y14 y15 y16 y17 y18) (laws_FnExactRunSession.j1 (k + 1) y0 y1 y2 y3 y4 y5 y6 y7 y8 y9 y10 y11 y12 y13 y14 y15 y16 y17 y18)) ∧ (∀ y0 y1 y2 y3 y4 y5 y6, LeO (laws_FnExactRunSession.j2 k y0 y1 y2 y3 y4 y5 y6) (laws_FnExactRunSession.j2 (k + 1) y0 y1 y2 y3 y4 y5 y6))
 | 0 => ⟨fun _ _ _ _ _ _ _ _ _ _ _ _ _ _ _ _ _ _ _ _ _ _ _ _ _ _ _ r h => by simp [laws_FnExactRunSession.j0] at h, fun _ _ _ _ _ _ _ _ _ _ _ _ _ _ _ _ _ _ _ r h => by simp [laws_FnExactRunSession.j1] at h, fun _ _ _ _ _ _ _ r h => by simp [laws_FnExactRunSession.j2] at h⟩
 | k + 1 => by
  obtain ⟨ih0, ih1, ih2⟩ := laws_FnExactRunSession.mono_l k
  refine ⟨?_, ?_, ?_⟩
  ·intro y0 y1 y2 y3 y4 y5 y6 y7 y8 y9 y10 y11 y12 y13 y14 y15 y16 y17 y18 y19 y20 y21 y22 y23 y24 y25 y26
   unfold laws_FnExactRunSession.j0
   repeat' first
   | (with_reducible exact ih0 _ _ _ _ _ _ _ _ _ _ _ _ _ _ _ _ _ _ _ _ _ _ _ _ _ _ _)
   | (with_reducible exact ih1 _ _ _ _ _ _ _ _ _ _ _ _ _ _ _ _ _ _ _)
   | (with_reducible exact ih2 _ _ _ _ _ _ _)
   | (with_reducible exact impl_RunSession.mono _ _ _ _ _ _ _)
   | (with_reducible exact laws_eqSession.mono _ _ _ _ _ _ _ _ _ _ _)
   | (with_reducible exact laws_eqSessionActS.mono _ _ _)
   | (with_reducible exact laws_heldSession.mono _ _ _ _ _ _ _)
   | (with_reducible exact laws_markSession.mono _ _ _ _ _ _ _)
   | (with_reducible exact laws_markSessionActS.mono _ _ _)
   | (with_reducible exact laws_toSession.mono _ _ _ _ _ _)
   | (with_reducible exact laws_toSessionActS.mono _ _)
   | (with_reducible exact spec_RunSession.mono _ _ _ _ _ _ _)
   | (with_reducible exact LeO.refl _)
   | (with_reducible exact LeO.none _)
   | (with_reducible refine LeO.ite ?_ ?_)
   | (with_reducible refine LeO.bind ?_ (fun _ => ?_))
   | exact ih0 _ _ _ _ _ _ _ _ _ _ _ _ _ _ _ _ _ _ _ _ _ _ _ _ _ _ _
   | exact ih1 _ _ _ _ _ _ _ _ _ _ _ _ _ _ _ _ _ _ _
   | exact ih2 _ _ _ _ _ _ _
   | exact impl_RunSession.mono _ _ _ _ _ _ _
   | exact laws_eqSession.mono _ _ _ _ _ _ _ _ _ _ _
   | exact laws_eqSessionActS.mono _ _ _
   | exact laws_heldSession.mono _ _ _ _ _ _ _
   | exact laws_markSession.mono _ _ _ _ _ _ _
   | exact laws_markSessionActS.mono _ _ _
   | exact laws_toSession.mono _ _ _ _ _ _
   | exact laws_toSessionActS.mono _ _
   | exact spec_RunSession.mono _ _ _ _ _ _ _
   | exact LeO.none _
   | refine LeO.ite ?_ ?_
   | refine LeO.bind ?_ (fun _ => ?_)
  ·intro y0 y1 y2 y3 y4 y5 y6 y7 y8 y9 y10 y11 y12 y13 y14 y15 y16 y17 y18
   unfold laws_FnExactRunSession.j1
   repeat' first
   | (with_reducible exact ih0 _ _ _ _ _ _ _ _ _ _ _ _ _ _ _ _ _ _ _ _ _ _ _ _ _ _ _)
   | (with_reducible exact ih1 _ _ _ _ _ _ _ _ _ _ _ _ _ _ _ _ _ _ _)
   | (with_reducible exact ih2 _ _ _ _ _ _ _)
   | (with_reducible exact impl_RunSession.mono _ _ _ _ _ _ _)
   | (with_reducible exact laws_eqSession.mono _ _ _ _ _ _ _ _ _ _ _)
   | (with_reducible exact laws_eqSessionActS.mono _ _ _)
   | (with_reducible exact laws_heldSession.mono _ _ _ _ _ _ _)
   | (with_reducible exact laws_markSession.mono _ _ _ _ _ _ _)
   | (with_reducible exact laws_markSessionActS.mono _ _ _)
   | (with_reducible exact laws_toSession.mono _ _ _ _ _ _)
   | (with_reducible exact laws_toSessionActS.mono _ _)
   | (with_reducible exact spec_RunSession.mono _ _ _ _ _ _ _)
   | (with_reducible exact LeO.refl _)
   | (with_reducible exact LeO.none _)
   | (with_reducible refine LeO.ite ?_ ?_)
   | (with_reducible refine LeO.bind ?_ (fun _ => ?_))
   | exact ih0 _ _ _ _ _ _ _ _ _ _ _ _ _ _ _ _ _ _ _ _ _ _ _ _ _ _ _
   | exact ih1 _ _ _ _ _ _ _ _ _ _ _ _ _ _ _ _ _ _ _
   | exact ih2 _ _ _ _ _ _ _
   | exact impl_RunSession.mono _ _ _ _ _ _ _
   | exact laws_eqSession.mono _ _ _ _ _ _ _ _ _ _ _
   | exact laws_eqSessionActS.mono _ _ _
   | exact laws_heldSession.mono _ _ _ _ _ _ _
   | exact laws_markSession.mono _ _ _ _ _ _ _
   | exact laws_markSessionActS.mono _ _ _
   | exact laws_toSession.mono _ _ _ _ _ _
   | exact laws_toSessionActS.mono _ _
   | exact spec_RunSession.mono _ _ _ _ _ _ _
   | exact LeO.none _
   | refine LeO.ite ?_ ?_
   | refine LeO.bind ?_ (fun _ => ?_)
  ·intro y0 y1 y2 y3 y4 y5 y6
   unfold laws_FnExactRunSession.j2
   repeat' first
   | (with_reducible exact ih0 _ _ _ _ _ _ _ _ _ _ _ _ _ _ _ _ _ _ _ _ _ _ _ _ _ _ _)
   | (with_reducible exact ih1 _ _ _ _ _ _ _ _ _ _ _ _ _ _ _ _ _ _ _)
   | (with_reducible exact ih2 _ _ _ _ _ _ _)
   | (with_reducible exact impl_RunSession.mono _ _ _ _ _ _ _)
   | (with_reducible exact laws_eqSession.mono _ _ _ _ _ _ _ _ _ _ _)
   | (with_reducible exact laws_eqSessionActS.mono _ _ _)
   | (with_reducible exact laws_heldSession.mono _ _ _ _ _ _ _)
   | (with_reducible exact laws_markSession.mono _ _ _ _ _ _ _)
   | (with_reducible exact laws_markSessionActS.mono _ _ _)
   | (with_reducible exact laws_toSession.mono _ _ _ _ _ _)
   | (with_reducible exact laws_toSessionActS.mono _ _)
   | (with_reducible exact spec_RunSession.mono _ _ _ _ _ _ _)
   | (with_reducible exact LeO.refl _)
   | (with_reducible exact LeO.none _)
   | (with_reducible refine LeO.ite ?_ ?_)
   | (with_reducible refine LeO.bind ?_ (fun _ => ?_))
   | exact ih0 _ _ _ _ _ _ _ _ _ _ _ _ _ _ _ _ _ _ _ _ _ _ _ _ _ _ _
   | exact ih1 _ _ _ _ _ _ _ _ _ _ _ _ _ _ _ _ _ _ _
   | exact ih2 _ _ _ _ _ _ _
   | exact impl_RunSession.mono _ _ _ _ _ _ _
   | exact laws_eqSession.mono _ _ _ _ _ _ _ _ _ _ _
   | exact laws_eqSessionActS.mono _ _ _
   | exact laws_heldSession.mono _ _ _ _ _ _ _
   | exact laws_markSession.mono _ _ _ _ _ _ _
   | exact laws_markSessionActS.mono _ _ _
   | exact laws_toSession.mono _ _ _ _ _ _
   | exact laws_toSessionActS.mono _ _
   | exact spec_RunSession.mono _ _ _ _ _ _ _
   | exact LeO.none _
   | refine LeO.ite ?_ ?_
   | refine LeO.bind ?_ (fun _ => ?_)
theorem laws_FnExactRunSession.mono : ∀ a0 a1 a2 a3 a4 a5 k, LeO (laws_FnExactRunSession.f k a0 a1 a2 a3 a4 a5) (laws_FnExactRunSession.f (k + 1) a0 a1 a2 a3 a4 a5) := by
 intro a0 a1 a2 a3 a4 a5 k
 obtain ⟨ih0, ih1, ih2⟩ := laws_FnExactRunSession.mono_l k
 unfold laws_FnExactRunSession.f
 repeat' first
   | (with_reducible exact ih0 _ _ _ _ _ _ _ _ _ _ _ _ _ _ _ _ _ _ _ _ _ _ _ _ _ _ _)
   | (with_reducible exact ih1 _ _ _ _ _ _ _ _ _ _ _ _ _ _ _ _ _ _ _)
   | (with_reducible exact ih2 _ _ _ _ _ _ _)
   | (with_reducible exact impl_RunSession.mono _ _ _ _ _ _ _)
   | (with_reducible exact laws_eqSession.mono _ _ _ _ _ _ _ _ _ _ _)
   | (with_reducible exact laws_eqSessionActS.mono _ _ _)
   | (with_reducible exact laws_heldSession.mono _ _ _ _ _ _ _)
   | (with_reducible exact laws_markSession.mono _ _ _ _ _ _ _)
   | (with_reducible exact laws_markSessionActS.mono _ _ _)
   | (with_reducible exact laws_toSession.mono _ _ _ _ _ _)
   | (with_reducible exact laws_toSessionActS.mono _ _)
   | (with_reducible exact spec_RunSession.mono _ _ _ _ _ _ _)
   | (with_reducible exact LeO.refl _)
   | (with_reducible exact LeO.none _)
   | (with_reducible refine LeO.ite ?_ ?_)
   | (with_reducible refine LeO.bind ?_ (fun _ => ?_))
   | exact ih0 _ _ _ _ _ _ _ _ _ _ _ _ _ _ _ _ _ _ _ _ _ _ _ _ _ _ _
   | exact ih1 _ _ _ _ _ _ _ _ _ _ _ _ _ _ _ _ _ _ _
   | exact ih2 _ _ _ _ _ _ _
   | exact impl_RunSession.mono _ _ _ _ _ _ _
   | exact laws_eqSession.mono _ _ _ _ _ _ _ _ _ _ _
   | exact laws_eqSessionActS.mono _ _ _
   | exact laws_heldSession.mono _ _ _ _ _ _ _
   | exact laws_markSession.mono _ _ _ _ _ _ _
   | exact laws_markSessionActS.mono _ _ _
   | exact laws_toSession.mono _ _ _ _ _ _
   | exact laws_toSessionActS.mono _ _
   | exact spec_RunSession.mono _ _ _ _ _ _ _
   | exact LeO.none _
   | refine LeO.ite ?_ ?_
   | refine LeO.bind ?_ (fun _ => ?_)

end Go.Proofs.Ytkkgjljcgnegpaa.Pall
