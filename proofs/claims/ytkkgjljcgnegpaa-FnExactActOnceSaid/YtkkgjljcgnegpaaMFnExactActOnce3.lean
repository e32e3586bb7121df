-- written by the kit's print program, put together by a program
import Derived.Test.YtkkgjljcgnegpaaMFnExactActOnce2
namespace Go.Proofs.Ytkkgjljcgnegpaa.Pall
open Go.RowKit Go.Proofs.YtkkgjljcgnegpaaW.PrintWords Go.Proofs.YtkkgjljcgnegpaaW.PrintLast Go.Proofs.YtkkgjljcgnegpaaW.PrintMore
attribute [local go_sem] max2_int min2_int max_two min_two max_three min_three max_four min_four   -- for this text's walks alone
set_option linter.unusedVariables false
set_option linter.unusedSimpArgs false
set_option maxHeartbeats 8000000 in
set_option maxRecDepth 100000 in
theorem laws_FnExactActOnce.calls (k : Nat) (a0_0 : Int) (a0_1 : Int) (A0_2 : Option Addr) (c0_2 : Nat) (l0_2 : List (S54)) (A0_3 : Option Addr) (c0_3 : Nat) (l0_3 : List (S56)) (A0_4 : Option Addr) (c0_4 : Nat) (l0_4 : List (S56)) (a1_0 : Int) (a1_1 : Int) (a1_2 : Int) (a1_3 : Int) (a1_4 : Int) (r : Bool) (w : World) (hr0_2 : Kd.C k54 w A0_2 l0_2.length l0_2) (hc0_2 : l0_2.length ≤ c0_2) (hr0_3 : Kd.C k56 w A0_3 l0_3.length l0_3) (hc0_3 : l0_3.length ≤ c0_3) (hr0_4 : Kd.C k56 w A0_4 l0_4.length l0_4) (hc0_4 : l0_4.length ≤ c0_4) (h : laws_FnExactActOnce.f k a0_0 a0_1 l0_2 l0_3 l0_4 a1_0 a1_1 a1_2 a1_3 a1_4 = some r) :
  Calls Try.prog 8 #[.agg #[.int .i64 a0_0, .int .i64 a0_1, .slice A0_2 l0_2.length c0_2, .slice A0_3 l0_3.length c0_3, .slice A0_4 l0_4.length c0_4], .agg #[.int .i64 a1_0, .int .i64 a1_1, .int .i64 a1_2, .int .i64 a1_3, .int .i64 a1_4]] w fun e w' => e = .returned (.bool r) ∧ Below w.heap.size w w' := by
 have hu27 := Try.underlying27
 have hu56 := Try.underlying56
 have hu35 := Try.underlying35
 have HR0_2 := am hr0_2
 have HC0_2 := am hc0_2
 clear hr0_2 hc0_2
 have HR0_3 := am hr0_3
 have HC0_3 := am hc0_3
 clear hr0_3 hc0_3
 have HR0_4 := am hr0_4
 have HC0_4 := am hc0_4
 clear hr0_4 hc0_4
 have HB := am (Below.refl w.heap.size w)
 have H : ((laws_szSession.f a0_0 a0_1 l0_2 l0_3 l0_4 1048576).bind fun t870 => (if t870 < 0 then (some true) else ((laws_toSession.f k a0_0 a0_1 l0_2 l0_3 l0_4).bind fun bt871 => ((laws_toSessionAct.f a1_0 a1_1 a1_2 a1_3 a1_4).bind fun bt882 => ((spec_ActOnce.f k bt871.1 bt871.2.1 bt871.2.2.1 bt871.2.2.2.1 bt871.2.2.2.2 bt882.1 bt882.2.1 bt882.2.2.1 bt882.2.2.2.1 bt882.2.2.2.2).bind fun bt887 => ((laws_toSession.f k a0_0 a0_1 l0_2 l0_3 l0_4).bind fun bt900 => ((laws_toSessionAct.f a1_0 a1_1 a1_2 a1_3 a1_4).bind fun bt912 => ((impl_ActOnce.f k bt900.1 bt900.2.1 bt900.2.2.1 bt900.2.2.2.1 bt900.2.2.2.2 bt912.1 bt912.2.1 bt912.2.2.1 bt912.2.2.2.1 bt912.2.2.2.2).bind fun bt917 => ((laws_eqSession.f k bt917.1 bt917.2.1 bt917.2.2.1 bt917.2.2.2.1 bt917.2.2.2.2.1 bt887.1 bt887.2.1 bt887.2.2.1 bt887.2.2.2.1 bt887.2.2.2.2.1).bind fun t930 => (if t930 = true then (laws_FnExactActOnce.j0 k bt887.2.2.2.2.2 bt917.2.2.2.2.2 (bt917.2.2.2.2.2 != bt887.2.2.2.2.2) a0_0 a0_1 l0_2 l0_3 l0_4 a1_0 a1_1 a1_2 a1_3 a1_4 bt887.1 bt887.2.1 bt887.2.2.1 bt887.2.2.2.1 bt887.2.2.2.2.1 bt900.1 bt900.2.1 bt900.2.2.1 bt900.2.2.2.1 bt900.2.2.2.2 bt917.1 bt917.2.1 bt917.2.2.1 bt917.2.2.2.1 bt917.2.2.2.2.1) else (laws_FnExactActOnce.j0 k bt887.2.2.2.2.2 bt917.2.2.2.2.2 true a0_0 a0_1 l0_2 l0_3 l0_4 a1_0 a1_1 a1_2 a1_3 a1_4 bt887.1 bt887.2.1 bt887.2.2.1 bt887.2.2.2.1 bt887.2.2.2.2.1 bt900.1 bt900.2.1 bt900.2.2.1 bt900.2.2.2.1 bt900.2.2.2.2 bt917.1 bt917.2.1 bt917.2.2.1 bt917.2.2.2.1 bt917.2.2.2.2.1))))))))))) = some r := h
 clear h
 obtain ⟨t870, A3, H⟩ := bindq H
 try dsimp only at H
 by_cases c4 : t870 < 0
 ·rw [if_pos c4] at H
  have c4b0 : decide (t870 < 0) = true := decide_eq_true c4
  clear c4
  obtain rfl := Option.some.inj H
  go_enter Try.func8, Try.ntmps8
  go_wp2_with (first | ((with_reducible refine gate_dst (N := 2) rfl ?_); refine box_event ?hg (N := 2) ?hd (cs := #[.int .i64 a0_0, .int .i64 a0_1, .slice A0_2 l0_2.length c0_2, .slice A0_3 l0_3.length c0_3, .slice A0_4 l0_4.length c0_4]) (t := 27) ?hr ?_; (case hd => rfl); (case hg => rfl); (case hr => first | (go_simp; done) | (go_simp; rfl)); intro gb868 hg w5 hbox hb; have BK868 := am (hbox); have GW868 := am (gq hg); have GE868 := am (gq hg); replace HB := sb hb; clear hb hbox hg) | ((with_reducible refine gate_dst (N := 3) rfl ?_); refine box_event ?hg (N := 3) ?hd (cs := #[.int .i64 a1_0, .int .i64 a1_1, .int .i64 a1_2, .int .i64 a1_3, .int .i64 a1_4]) (t := 56) ?hr ?_; (case hd => rfl); (case hg => rfl); (case hr => first | (go_simp; done) | (go_simp; rfl)); intro gb869 hg w6 hbox hb; have BK869 := am (hbox); have GW869 := am (gq hg); have GE869 := am (gq hg); replace HB := sb hb; have NB868_869 := nl hg BK868; have NB869_868 := ng hg BK868; replace BK868 := zb BK868 hb; clear hb hbox hg; have hnb7 := NB868_869.out; have hnc7 := NB869_868.out; have ⟨hcz8_0, hcz8_1, hcz8_2, hcz8_3, hcz8_4, hfz8_0, hfz8_1, hfz8_2, hfz8_3, hfz8_4⟩ := bc5 BK868) | ((with_reducible refine gate_callee (f := 14) rfl ?_); refine goesQ (some 18) Try.func14 #[.agg #[.int .i64 a0_0, .int .i64 a0_1, .slice A0_2 l0_2.length c0_2, .slice A0_3 l0_3.length c0_3, .slice A0_4 l0_4.length c0_4], .int .i64 1048576] ?_; (with_reducible refine (laws_szSession.calls a0_0 a0_1 _ _ l0_2 _ _ l0_3 _ _ l0_4 1048576 t870 _ ?s1 ?s2 ?s3 ?s4 ?s5 ?s6 A3.out).mono ?_); (case s1 => exact cq (Kd.C_below HR0_2.out HB.out)); (case s2 => exact HC0_2.out); (case s3 => exact cq (Kd.C_below HR0_3.out HB.out)); (case s4 => exact HC0_3.out); (case s5 => exact cq (Kd.C_below HR0_4.out HB.out)); (case s6 => exact HC0_4.out); rintro e w9 ⟨rfl, hb⟩; refine ⟨_, rfl, ?_⟩; replace BK868 := zb BK868 hb; replace BK869 := zb BK869 hb; replace HB := sb hb; (try clear hb)))
  go_ret
  exact ⟨eq_, bq⟩
 ·rw [if_neg c4] at H
  have c4b0 : decide (t870 < 0) = false := decide_eq_false c4
  clear c4
  obtain ⟨⟨t871, t872, t873, t876, t879⟩, A10, H⟩ := bindq H
  try dsimp only at H
  obtain ⟨⟨t882, t883, t884, t885, t886⟩, A11, H⟩ := bindq H
  try dsimp only at H
  obtain ⟨⟨t887, t888, t889, t892, t895, t898⟩, A12, H⟩ := bindq H
  try dsimp only at H
  obtain ⟨⟨t900, t901, t902, t905, t908⟩, A13, H⟩ := bindq H
  try dsimp only at H
  obtain ⟨⟨t912, t913, t914, t915, t916⟩, A14, H⟩ := bindq H
  try dsimp only at H
  obtain ⟨⟨t917, t918, t919, t922, t925, t928⟩, A15, H⟩ := bindq H
  try dsimp only at H
  have HC16 := am H
  clear H
  go_enter Try.func8, Try.ntmps8
  try go_wp2_with (first | ((with_reducible refine gate_dst (N := 2) rfl ?_); refine box_event ?hg (N := 2) ?hd (cs := #[.int .i64 a0_0, .int .i64 a0_1, .slice A0_2 l0_2.length c0_2, .slice A0_3 l0_3.length c0_3, .slice A0_4 l0_4.length c0_4]) (t := 27) ?hr ?_; (case hd => rfl); (case hg => rfl); (case hr => first | (go_simp; done) | (go_simp; rfl)); intro gb868 hg w17 hbox hb; have BK868 := am (hbox); have GW868 := am (gq hg); have GE868 := am (gq hg); replace HB := sb hb; clear hb hbox hg) | ((with_reducible refine gate_dst (N := 3) rfl ?_); refine box_event ?hg (N := 3) ?hd (cs := #[.int .i64 a1_0, .int .i64 a1_1, .int .i64 a1_2, .int .i64 a1_3, .int .i64 a1_4]) (t := 56) ?hr ?_; (case hd => rfl); (case hg => rfl); (case hr => first | (go_simp; done) | (go_simp; rfl)); intro gb869 hg w18 hbox hb; have BK869 := am (hbox); have GW869 := am (gq hg); have GE869 := am (gq hg); replace HB := sb hb; have NB868_869 := nl hg BK868; have NB869_868 := ng hg BK868; replace BK868 := zb BK868 hb; clear hb hbox hg; have hnb19 := NB868_869.out; have hnc19 := NB869_868.out; have ⟨hcz20_0, hcz20_1, hcz20_2, hcz20_3, hcz20_4, hfz20_0, hfz20_1, hfz20_2, hfz20_3, hfz20_4⟩ := bc5 BK868) | ((with_reducible refine gate_callee (f := 14) rfl ?_); refine goesQ (some 18) Try.func14 #[.agg #[.int .i64 a0_0, .int .i64 a0_1, .slice A0_2 l0_2.length c0_2, .slice A0_3 l0_3.length c0_3, .slice A0_4 l0_4.length c0_4], .int .i64 1048576] ?_; (with_reducible refine (laws_szSession.calls a0_0 a0_1 _ _ l0_2 _ _ l0_3 _ _ l0_4 1048576 t870 _ ?s1 ?s2 ?s3 ?s4 ?s5 ?s6 A3.out).mono ?_); (case s1 => exact cq (Kd.C_below HR0_2.out HB.out)); (case s2 => exact HC0_2.out); (case s3 => exact cq (Kd.C_below HR0_3.out HB.out)); (case s4 => exact HC0_3.out); (case s5 => exact cq (Kd.C_below HR0_4.out HB.out)); (case s6 => exact HC0_4.out); rintro e w21 ⟨rfl, hb⟩; refine ⟨_, rfl, ?_⟩; replace BK868 := zb BK868 hb; replace BK869 := zb BK869 hb; replace HB := sb hb; (try clear hb)))
  replace BK868 := am (blk_drew BK868.out)
  replace BK869 := am (blk_drew BK869.out)
  replace HB := am (below_drew1 HB.out)
  refine start_ (n := 11) (S := fun w' => w'.cell? ⟨gb868, 0, none⟩ = some (.int .i64 a0_0) ∧ w'.cell? ⟨gb868, 1, none⟩ = some (.int .i64 a0_1) ∧ w'.cell? ⟨gb868, 2, none⟩ = some (.slice A0_2 l0_2.length c0_2) ∧ w'.cell? ⟨gb868, 3, none⟩ = some (.slice A0_3 l0_3.length c0_3) ∧ w'.cell? ⟨gb868, 4, none⟩ = some (.slice A0_4 l0_4.length c0_4) ∧ w'.cell? ⟨gb869, 0, none⟩ = some (.int .i64 a1_0) ∧ w'.cell? ⟨gb869, 1, none⟩ = some (.int .i64 a1_1) ∧ w'.cell? ⟨gb869, 2, none⟩ = some (.int .i64 a1_2) ∧ w'.cell? ⟨gb869, 3, none⟩ = some (.int .i64 a1_3) ∧ w'.cell? ⟨gb869, 4, none⟩ = some (.int .i64 a1_4)) (ds := []) #[false, false, false, false, false, false, false, false, false, false, false] (by kernel_rfl) rfl rfl cl (fun hHeld => ?_); refine with_tabW laws_FnExactActOnce.tab5 laws_FnExactActOnce.bits5 (fun HT_ HW_ => ?_)
  generalize w21.drew = w22 at BK868 BK869 HB hHeld ⊢
  refine take_ (i := 0) (N := some 22) (v := ?_) (a' := ?_) #[true, false, false, false, false, false, false, false, false, false, false] rfl rfl (take_ofW HT_.out HW_.out (by kernel_rfl)) (fun _ _ _ h => h) (Or.inl ⟨by rfl, ?_⟩) hHeld ?_ ?_
  rotate_left
  ·rintro w' ⟨s0, s1, s2, s3, s4, s5, s6, s7, s8, s9⟩
   go_simp
   with_reducible rfl
  rotate_left
  ·simp only [Act.put, List.setIfInBounds_toArray, List.set_cons_zero, List.set_cons_succ, i64_w, i32_w]
   rfl
  refine take_ (i := 2) (N := some 24) (v := ?_) (a' := ?_) #[true, false, true, false, false, false, false, false, false, false, false] rfl rfl (take_ofW HT_.out HW_.out (by kernel_rfl)) (fun _ _ _ h => h) (Or.inl ⟨by rfl, ?_⟩) hHeld ?_ ?_
  rotate_left
  ·rintro w' ⟨s0, s1, s2, s3, s4, s5, s6, s7, s8, s9⟩
   go_simp
   with_reducible rfl
  rotate_left
  ·simp only [Act.put, List.setIfInBounds_toArray, List.set_cons_zero, List.set_cons_succ, i64_w, i32_w]
   rfl
  refine join_ (σ := Value × Value × Value × Value × Value × Value × Nat) 2 #[true, true, true, true, true, true, true, true, true, false, false] (fun s_ => [(23, .agg #[.int .i64 t871, .int .i64 t872, s_.1, s_.2.1, s_.2.2.1]), (25, .agg #[.int .i64 t882, .int .i64 t883, .int .i64 t884, .int .i64 t885, .int .i64 t886]), (26, .tuple #[.agg #[.int .i64 t887, .int .i64 t888, s_.2.2.2.1, s_.2.2.2.2.1, s_.2.2.2.2.2.1], .bool t898]), (6, .pointer (some ⟨s_.2.2.2.2.2.2, 0, none⟩)), (21, .tuple #[.agg #[.int .i64 t887, .int .i64 t888, s_.2.2.2.1, s_.2.2.2.2.1, s_.2.2.2.2.2.1], .bool t898]), (27, .agg #[.int .i64 t887, .int .i64 t888, s_.2.2.2.1, s_.2.2.2.2.1, s_.2.2.2.2.2.1]), (28, .bool t898)]) (fun s_ w' => (w'.cell? ⟨gb868, 0, none⟩ = some (.int .i64 a0_0) ∧ w'.cell? ⟨gb868, 1, none⟩ = some (.int .i64 a0_1) ∧ w'.cell? ⟨gb868, 2, none⟩ = some (.slice A0_2 l0_2.length c0_2) ∧ w'.cell? ⟨gb868, 3, none⟩ = some (.slice A0_3 l0_3.length c0_3) ∧ w'.cell? ⟨gb868, 4, none⟩ = some (.slice A0_4 l0_4.length c0_4) ∧ w'.cell? ⟨gb869, 0, none⟩ = some (.int .i64 a1_0) ∧ w'.cell? ⟨gb869, 1, none⟩ = some (.int .i64 a1_1) ∧ w'.cell? ⟨gb869, 2, none⟩ = some (.int .i64 a1_2) ∧ w'.cell? ⟨gb869, 3, none⟩ = some (.int .i64 a1_3) ∧ w'.cell? ⟨gb869, 4, none⟩ = some (.int .i64 a1_4)) ∧ (Kd.R k58 58 w' w.heap.size (fun k_ => some k_ ≠ (s_.2.2.2.1 : Value).ownBlock) s_.1 t873) ∧ (Kd.R k60 60 w' w.heap.size (fun k_ => some k_ ≠ (s_.2.2.1 : Value).ownBlock ∧ some k_ ≠ (s_.2.2.2.2.1 : Value).ownBlock ∧ some k_ ≠ (s_.2.2.2.2.2.1 : Value).ownBlock) s_.2.1 t876) ∧ (Kd.R k60 60 w' w.heap.size (fun k_ => some k_ ≠ (s_.2.1 : Value).ownBlock ∧ some k_ ≠ (s_.2.2.2.2.1 : Value).ownBlock ∧ some k_ ≠ (s_.2.2.2.2.2.1 : Value).ownBlock) s_.2.2.1 t879) ∧ (Kd.R k58 58 w' w.heap.size (fun k_ => some k_ ≠ (s_.1 : Value).ownBlock) s_.2.2.2.1 t889) ∧ (Kd.R k60 60 w' w.heap.size (fun k_ => some k_ ≠ (s_.2.1 : Value).ownBlock ∧ some k_ ≠ (s_.2.2.1 : Value).ownBlock ∧ some k_ ≠ (s_.2.2.2.2.2.1 : Value).ownBlock) s_.2.2.2.2.1 t892) ∧ (Kd.R k60 60 w' w.heap.size (fun k_ => some k_ ≠ (s_.2.1 : Value).ownBlock ∧ some k_ ≠ (s_.2.2.1 : Value).ownBlock ∧ some k_ ≠ (s_.2.2.2.2.1 : Value).ownBlock) s_.2.2.2.2.2.1 t895) ∧ (w'.heap[gb868]? = some (.cells #[.int .i64 a0_0, .int .i64 a0_1, .slice A0_2 l0_2.length c0_2, .slice A0_3 l0_3.length c0_3, .slice A0_4 l0_4.length c0_4] 27 (0, 0))) ∧ (w'.heap[gb869]? = some (.cells #[.int .i64 a1_0, .int .i64 a1_1, .int .i64 a1_2, .int .i64 a1_3, .int .i64 a1_4] 56 (0, 0))) ∧ (w'.heap[s_.2.2.2.2.2.2]? = some (.cells #[.int .i64 0, .int .i64 0, .slice none 0 0, .slice none 0 0, .slice none 0 0] 35 (0, 0))) ∧ (w.heap.size ≤ s_.2.2.2.2.2.2) ∧ (w.heap.size ≤ s_.2.2.2.2.2.2) ∧ (gb868 ≠ s_.2.2.2.2.2.2) ∧ (s_.2.2.2.2.2.2 ≠ gb868) ∧ (gb869 ≠ s_.2.2.2.2.2.2) ∧ (s_.2.2.2.2.2.2 ≠ gb869) ∧ (Below w.heap.size w w')) ?_ ?_
  rotate_left
  ·intro hCont
   refine two_ (i := 1) (j := 8) (Ni := some 23) (Nj := some 6) #[true, true, true, false, false, false, false, false, false, false, false] #[true, false, true, false, false, false, false, false, true, false, false] rfl rfl rfl rfl (two_of HT_.out (by kernel_rfl)) (by decide) (by decide) (fun K hK => ?_) (fun K hK => ?_)
   ·skip
    refine goes_ Try.func16 (by kernel_rfl) rfl #[.agg #[.int .i64 a0_0, .int .i64 a0_1, .slice A0_2 l0_2.length c0_2, .slice A0_3 l0_3.length c0_3, .slice A0_4 l0_4.length c0_4]] (by rfl) rfl rfl mq ?_
    with_reducible refine (laws_toSession.calls k a0_0 a0_1 _ _ l0_2 _ _ l0_3 _ _ l0_4 t871 t872 t873 t876 t879 _ ?s1 ?s2 ?s3 ?s4 ?s5 ?s6 A10.out).mono ?_
    (case s1 => exact cq (Kd.C_below HR0_2.out HB.out))
    (case s2 => exact HC0_2.out)
    (case s3 => exact cq (Kd.C_below HR0_3.out HB.out))
    (case s4 => exact HC0_3.out)
    (case s5 => exact cq (Kd.C_below HR0_4.out HB.out))
    (case s6 => exact HC0_4.out)
    rintro e w23 ⟨v874, v877, v880, rfl, ho0, ho1, ho2, hb⟩
    refine ⟨_, rfl, ?_⟩
    have HO875 := rl ho0
    have HO878 := rl ho1
    have HO881 := rl ho2
    replace BK868 := zb BK868 hb
    replace BK869 := zb BK869 hb
    replace HB := sb hb
    (try clear hb ho0 ho1 ho2)
    refine hK.out _ _ cl (fun hHeld => ?_)
    clear hK K
    refine norm_ (a' := ?_) ?_ ?_
    rotate_left
    ·show Act.put _ (some 23) _ = _
     simp only [Act.put, List.setIfInBounds_toArray, List.set_cons_zero, List.set_cons_succ, i64_w, i32_w]
     rfl
    refine two_ (i := 3) (j := 8) (Ni := some 25) (Nj := some 6) #[true, true, true, true, false, false, false, false, false, false, false] #[true, true, true, false, false, false, false, false, true, false, false] rfl rfl rfl rfl (two_of HT_.out (by kernel_rfl)) (by decide) (by decide) (fun K hK => ?_) (fun K hK => ?_)
    ·skip
     refine goes_ Try.func37 (by kernel_rfl) rfl #[.agg #[.int .i64 a1_0, .int .i64 a1_1, .int .i64 a1_2, .int .i64 a1_3, .int .i64 a1_4]] (by rfl) rfl rfl mq ?_
     with_reducible refine (laws_toSessionAct.calls a1_0 a1_1 a1_2 a1_3 a1_4 t882 t883 t884 t885 t886 _ A11.out).mono ?_
     rintro e w24 ⟨rfl, hb⟩
     refine ⟨_, rfl, ?_⟩
     replace HO875 := rb HO875 hb
     replace HO878 := rb HO878 hb
     replace HO881 := rb HO881 hb
     replace BK868 := zb BK868 hb
     replace BK869 := zb BK869 hb
     replace HB := sb hb
     (try clear hb)
     obtain ⟨Ao25, co25, eo25⟩ := Kd.R_slice HO875.out
     (first | subst eo25 | (injection eo25 with f1_ f2_ f3_; have f4_ := f1_.symm; have f5_ := f3_.symm; clear f1_ f2_ f3_; subst f4_; subst f5_))
     obtain ⟨Ao26, co26, eo26⟩ := Kd.R_slice HO878.out
     (first | subst eo26 | (injection eo26 with f1_ f2_ f3_; have f4_ := f1_.symm; have f5_ := f3_.symm; clear f1_ f2_ f3_; subst f4_; subst f5_))
     obtain ⟨Ao27, co27, eo27⟩ := Kd.R_slice HO881.out
     (first | subst eo27 | (injection eo27 with f1_ f2_ f3_; have f4_ := f1_.symm; have f5_ := f3_.symm; clear f1_ f2_ f3_; subst f4_; subst f5_))
     refine hK.out _ _ cl (fun hHeld => ?_)
     clear hK K
     refine norm_ (a' := ?_) ?_ ?_
     rotate_left
     ·show Act.put _ (some 25) _ = _
      simp only [Act.put, List.setIfInBounds_toArray, List.set_cons_zero, List.set_cons_succ, i64_w, i32_w]
      rfl
     refine two_ (i := 4) (j := 8) (Ni := some 26) (Nj := some 6) #[true, true, true, true, true, false, false, false, false, false, false] #[true, true, true, true, false, false, false, false, true, false, false] rfl rfl rfl rfl (two_of HT_.out (by kernel_rfl)) (by decide) (by decide) (fun K hK => ?_) (fun K hK => ?_)
     ·skip
      refine goes_ Try.func36 (by kernel_rfl) rfl #[.agg #[.int .i64 t871, .int .i64 t872, .slice Ao25 t873.length co25, .slice Ao26 t876.length co26, .slice Ao27 t879.length co27], .agg #[.int .i64 t882, .int .i64 t883, .int .i64 t884, .int .i64 t885, .int .i64 t886]] (by rfl) rfl rfl mq ?_
      with_reducible refine (spec_ActOnce.calls k t871 t872 _ _ t873 _ _ t876 _ _ t879 t882 t883 t884 t885 t886 t887 t888 t889 t892 t895 t898 _ ?s1 ?s2 ?s3 ?s4 ?s5 ?s6 A12.out).mono ?_
      (case s1 => exact cr HO875)
      (case s2 => exact rq1 HO875)
      (case s3 => exact cr HO878)
      (case s4 => exact rq1 HO878)
      (case s5 => exact cr HO881)
      (case s6 => exact rq1 HO881)
      rintro e w28 ⟨v890, v893, v896, rfl, ho0, ho1, ho2, hb⟩
      refine ⟨_, rfl, ?_⟩
      have HO891 := rl (Kd.R_new' ho0 (lw HO875))
      replace HO875 := am (Kd.R_elder' (rq HO875) (Kd.R_base ho0) hb)
      have HO894 := rl (Kd.R_new' (Kd.R_new' ho1 (lw HO878)) (lw HO881))
      have HO897 := rl (Kd.R_new' (Kd.R_new' ho2 (lw HO878)) (lw HO881))
      replace HO878 := tq2 (rq HO878) hb ho1 ho2
      replace HO881 := tq2 (rq HO881) hb ho1 ho2
      replace BK868 := zb BK868 hb
      replace BK869 := zb BK869 hb
      replace HB := sb hb
      (try clear hb ho0 ho1 ho2)
      refine hK.out _ _ cl (fun hHeld => ?_)
      clear hK K
      refine norm_ (a' := ?_) ?_ ?_
      rotate_left
      ·show Act.put _ (some 26) _ = _
       simp only [Act.put, List.setIfInBounds_toArray, List.set_cons_zero, List.set_cons_succ, i64_w, i32_w]
       rfl
      refine pure_ (i := 5) (N := some 21) (v := ?_) (a' := ?_) #[true, true, true, true, true, true, false, false, false, false, false] rfl rfl (any_of HT_.out (by kernel_rfl)) (fun _ _ _ h => h) (Or.inl ⟨by rfl, ?_⟩) ?_ ?_
      rotate_left
      ·intro w'
       go_simp
       with_reducible rfl
      rotate_left
      ·simp only [Act.put, List.setIfInBounds_toArray, List.set_cons_zero, List.set_cons_succ, i64_w, i32_w]
       rfl
      refine pure_ (i := 6) (N := some 27) (v := ?_) (a' := ?_) #[true, true, true, true, true, true, true, false, false, false, false] rfl rfl (any_of HT_.out (by kernel_rfl)) (fun _ _ _ h => h) (Or.inl ⟨by rfl, ?_⟩) ?_ ?_
      rotate_left
      ·intro w'
       go_simp
       with_reducible rfl
      rotate_left
      ·simp only [Act.put, List.setIfInBounds_toArray, List.set_cons_zero, List.set_cons_succ, i64_w, i32_w]
       rfl
      refine pure_ (i := 7) (N := some 28) (v := ?_) (a' := ?_) #[true, true, true, true, true, true, true, true, false, false, false] rfl rfl (any_of HT_.out (by kernel_rfl)) (fun _ _ _ h => h) (Or.inl ⟨by rfl, ?_⟩) ?_ ?_
      rotate_left
      ·intro w'
       go_simp
       with_reducible rfl
      rotate_left
      ·simp only [Act.put, List.setIfInBounds_toArray, List.set_cons_zero, List.set_cons_succ, i64_w, i32_w]
       rfl
      refine one_ (i := 8) (N := some 6) #[true, true, true, true, true, true, true, true, true, false, false] rfl rfl (one_of HT_.out (by kernel_rfl)) (by decide) (fun K hK => ?_)
      refine box_step ?hg (N := 6) ?hd (cs := #[.int .i64 0, .int .i64 0, .slice none 0 0, .slice none 0 0, .slice none 0 0]) (t := 35) ?hr ?_; (case hd => rfl); (case hg => rfl); (case hr => first | (go_simp; done) | (go_simp; rfl))
      intro gb899 hg w29 hbox hb
      replace HO875 := rb HO875 hb
      replace HO878 := rb HO878 hb
      replace HO881 := rb HO881 hb
      replace HO891 := rb HO891 hb
      replace HO894 := rb HO894 hb
      replace HO897 := rb HO897 hb
      have BK899 := am (hbox)
      have GW899 := am (gq hg)
      have GE899 := am (gq hg)
      replace HB := sb hb
      have NB868_899 := nl hg BK868
      have NB899_868 := ng hg BK868
      replace BK868 := zb BK868 hb
      have NB869_899 := nl hg BK869
      have NB899_869 := ng hg BK869
      replace BK869 := zb BK869 hb
      clear hb hbox hg
      refine hK.out _ _ cl (fun hHeld => ?_)
      clear hK K
      refine norm_ (a' := ?_) ?_ ?_
      rotate_left
      ·show Act.put _ (some 6) _ = _
       simp only [Act.put, List.setIfInBounds_toArray, List.set_cons_zero, List.set_cons_succ, i64_w, i32_w]
       rfl
      exact norm_ (by simp only [putAll, Act.put, List.setIfInBounds_toArray, List.set_cons_zero, List.set_cons_succ]) (hCont (.slice Ao25 t873.length co25, .slice Ao26 t876.length co26, .slice Ao27 t879.length co27, v890, v893, v896, gb899) _ ⟨hHeld, (rm HO875), (rm HO878), (rm HO881), (rm HO891), (rm HO894), (rm HO897), (zq BK868), (zq BK869), (zq BK899), GW899.out, GE899.out, NB868_899.out, NB899_868.out, NB869_899.out, NB899_869.out, bq⟩)
     ·skip
      refine box_step ?hg (N := 6) ?hd (cs := #[.int .i64 0, .int .i64 0, .slice none 0 0, .slice none 0 0, .slice none 0 0]) (t := 35) ?hr ?_; (case hd => rfl); (case hg => rfl); (case hr => first | (go_simp; done) | (go_simp; rfl))
      intro gb899 hg w25 hbox hb
      replace HO875 := rb HO875 hb
      replace HO878 := rb HO878 hb
      replace HO881 := rb HO881 hb
      have BK899 := am (hbox)
      have GW899 := am (gq hg)
      have GE899 := am (gq hg)
      replace HB := sb hb
      have NB868_899 := nl hg BK868
      have NB899_868 := ng hg BK868
      replace BK868 := zb BK868 hb
      have NB869_899 := nl hg BK869
      have NB899_869 := ng hg BK869
      replace BK869 := zb BK869 hb
      clear hb hbox hg
      obtain ⟨Ao26, co26, eo26⟩ := Kd.R_slice HO875.out
      (first | subst eo26 | (injection eo26 with f1_ f2_ f3_; have f4_ := f1_.symm; have f5_ := f3_.symm; clear f1_ f2_ f3_; subst f4_; subst f5_))
      obtain ⟨Ao27, co27, eo27⟩ := Kd.R_slice HO878.out
      (first | subst eo27 | (injection eo27 with f1_ f2_ f3_; have f4_ := f1_.symm; have f5_ := f3_.symm; clear f1_ f2_ f3_; subst f4_; subst f5_))
      obtain ⟨Ao28, co28, eo28⟩ := Kd.R_slice HO881.out
      (first | subst eo28 | (injection eo28 with f1_ f2_ f3_; have f4_ := f1_.symm; have f5_ := f3_.symm; clear f1_ f2_ f3_; subst f4_; subst f5_))
      refine hK.out _ _ cl (fun hHeld => ?_)
      clear hK K
      refine norm_ (a' := ?_) ?_ ?_
      rotate_left
      ·show Act.put _ (some 6) _ = _
       simp only [Act.put, List.setIfInBounds_toArray, List.set_cons_zero, List.set_cons_succ, i64_w, i32_w]
       rfl
      refine one_ (i := 4) (N := some 26) #[true, true, true, true, true, false, false, false, true, false, false] rfl rfl (one_of HT_.out (by kernel_rfl)) (by decide) (fun K hK => ?_)
      refine goes_ Try.func36 (by kernel_rfl) rfl #[.agg #[.int .i64 t871, .int .i64 t872, .slice Ao26 t873.length co26, .slice Ao27 t876.length co27, .slice Ao28 t879.length co28], .agg #[.int .i64 t882, .int .i64 t883, .int .i64 t884, .int .i64 t885, .int .i64 t886]] (by rfl) rfl rfl mq ?_
      with_reducible refine (spec_ActOnce.calls k t871 t872 _ _ t873 _ _ t876 _ _ t879 t882 t883 t884 t885 t886 t887 t888 t889 t892 t895 t898 _ ?s1 ?s2 ?s3 ?s4 ?s5 ?s6 A12.out).mono ?_
      (case s1 => exact cr HO875)
      (case s2 => exact rq1 HO875)
      (case s3 => exact cr HO878)
      (case s4 => exact rq1 HO878)
      (case s5 => exact cr HO881)
      (case s6 => exact rq1 HO881)
      rintro e w29 ⟨v890, v893, v896, rfl, ho0, ho1, ho2, hb⟩
      refine ⟨_, rfl, ?_⟩
      have HO891 := rl (Kd.R_new' ho0 (lw HO875))
      replace HO875 := am (Kd.R_elder' (rq HO875) (Kd.R_base ho0) hb)
      have HO894 := rl (Kd.R_new' (Kd.R_new' ho1 (lw HO878)) (lw HO881))
      have HO897 := rl (Kd.R_new' (Kd.R_new' ho2 (lw HO878)) (lw HO881))
      replace HO878 := tq2 (rq HO878) hb ho1 ho2
      replace HO881 := tq2 (rq HO881) hb ho1 ho2
      replace BK868 := zb BK868 hb
      replace BK869 := zb BK869 hb
      replace BK899 := zb BK899 hb
      replace HB := sb hb
      (try clear hb ho0 ho1 ho2)
      refine hK.out _ _ cl (fun hHeld => ?_)
      clear hK K
      refine norm_ (a' := ?_) ?_ ?_
      rotate_left
      ·show Act.put _ (some 26) _ = _
       simp only [Act.put, List.setIfInBounds_toArray, List.set_cons_zero, List.set_cons_succ, i64_w, i32_w]
       rfl
      refine pure_ (i := 5) (N := some 21) (v := ?_) (a' := ?_) #[true, true, true, true, true, true, false, false, true, false, false] rfl rfl (any_of HT_.out (by kernel_rfl)) (fun _ _ _ h => h) (Or.inl ⟨by rfl, ?_⟩) ?_ ?_
      rotate_left
      ·intro w'
       go_simp
       with_reducible rfl
      rotate_left
      ·simp only [Act.put, List.setIfInBounds_toArray, List.set_cons_zero, List.set_cons_succ, i64_w, i32_w]
       rfl
      refine pure_ (i := 6) (N := some 27) (v := ?_) (a' := ?_) #[true, true, true, true, true, true, true, false, true, false, false] rfl rfl (any_of HT_.out (by kernel_rfl)) (fun _ _ _ h => h) (Or.inl ⟨by rfl, ?_⟩) ?_ ?_
      rotate_left
      ·intro w'
       go_simp
       with_reducible rfl
      rotate_left
      ·simp only [Act.put, List.setIfInBounds_toArray, List.set_cons_zero, List.set_cons_succ, i64_w, i32_w]
       rfl
      refine pure_ (i := 7) (N := some 28) (v := ?_) (a' := ?_) #[true, true, true, true, true, true, true, true, true, false, false] rfl rfl (any_of HT_.out (by kernel_rfl)) (fun _ _ _ h => h) (Or.inl ⟨by rfl, ?_⟩) ?_ ?_
      rotate_left
      ·intro w'
       go_simp
       with_reducible rfl
      rotate_left
      ·simp only [Act.put, List.setIfInBounds_toArray, List.set_cons_zero, List.set_cons_succ, i64_w, i32_w]
       rfl
      exact norm_ (by simp only [putAll, Act.put, List.setIfInBounds_toArray, List.set_cons_zero, List.set_cons_succ]) (hCont (.slice Ao26 t873.length co26, .slice Ao27 t876.length co27, .slice Ao28 t879.length co28, v890, v893, v896, gb899) _ ⟨hHeld, (rm HO875), (rm HO878), (rm HO881), (rm HO891), (rm HO894), (rm HO897), (zq BK868), (zq BK869), (zq BK899), GW899.out, GE899.out, NB868_899.out, NB899_868.out, NB869_899.out, NB899_869.out, bq⟩)
    ·skip
     refine box_step ?hg (N := 6) ?hd (cs := #[.int .i64 0, .int .i64 0, .slice none 0 0, .slice none 0 0, .slice none 0 0]) (t := 35) ?hr ?_; (case hd => rfl); (case hg => rfl); (case hr => first | (go_simp; done) | (go_simp; rfl))
     intro gb899 hg w24 hbox hb
     replace HO875 := rb HO875 hb
     replace HO878 := rb HO878 hb
     replace HO881 := rb HO881 hb
     have BK899 := am (hbox)
     have GW899 := am (gq hg)
     have GE899 := am (gq hg)
     replace HB := sb hb
     have NB868_899 := nl hg BK868
     have NB899_868 := ng hg BK868
     replace BK868 := zb BK868 hb
     have NB869_899 := nl hg BK869
     have NB899_869 := ng hg BK869
     replace BK869 := zb BK869 hb
     clear hb hbox hg
     refine hK.out _ _ cl (fun hHeld => ?_)
     clear hK K
     refine norm_ (a' := ?_) ?_ ?_
     rotate_left
     ·show Act.put _ (some 6) _ = _
      simp only [Act.put, List.setIfInBounds_toArray, List.set_cons_zero, List.set_cons_succ, i64_w, i32_w]
      rfl
     refine one_ (i := 3) (N := some 25) #[true, true, true, true, false, false, false, false, true, false, false] rfl rfl (one_of HT_.out (by kernel_rfl)) (by decide) (fun K hK => ?_)
     refine goes_ Try.func37 (by kernel_rfl) rfl #[.agg #[.int .i64 a1_0, .int .i64 a1_1, .int .i64 a1_2, .int .i64 a1_3, .int .i64 a1_4]] (by rfl) rfl rfl mq ?_
     with_reducible refine (laws_toSessionAct.calls a1_0 a1_1 a1_2 a1_3 a1_4 t882 t883 t884 t885 t886 _ A11.out).mono ?_
     rintro e w25 ⟨rfl, hb⟩
     refine ⟨_, rfl, ?_⟩
     replace HO875 := rb HO875 hb
     replace HO878 := rb HO878 hb
     replace HO881 := rb HO881 hb
     replace BK868 := zb BK868 hb
     replace BK869 := zb BK869 hb
     replace BK899 := zb BK899 hb
     replace HB := sb hb
     (try clear hb)
     obtain ⟨Ao26, co26, eo26⟩ := Kd.R_slice HO875.out
     (first | subst eo26 | (injection eo26 with f1_ f2_ f3_; have f4_ := f1_.symm; have f5_ := f3_.symm; clear f1_ f2_ f3_; subst f4_; subst f5_))
     obtain ⟨Ao27, co27, eo27⟩ := Kd.R_slice HO878.out
     (first | subst eo27 | (injection eo27 with f1_ f2_ f3_; have f4_ := f1_.symm; have f5_ := f3_.symm; clear f1_ f2_ f3_; subst f4_; subst f5_))
     obtain ⟨Ao28, co28, eo28⟩ := Kd.R_slice HO881.out
     (first | subst eo28 | (injection eo28 with f1_ f2_ f3_; have f4_ := f1_.symm; have f5_ := f3_.symm; clear f1_ f2_ f3_; subst f4_; subst f5_))
     refine hK.out _ _ cl (fun hHeld => ?_)
     clear hK K
     refine norm_ (a' := ?_) ?_ ?_
     rotate_left
     ·show Act.put _ (some 25) _ = _
      simp only [Act.put, List.setIfInBounds_toArray, List.set_cons_zero, List.set_cons_succ, i64_w, i32_w]
      rfl
     refine one_ (i := 4) (N := some 26) #[true, true, true, true, true, false, false, false, true, false, false] rfl rfl (one_of HT_.out (by kernel_rfl)) (by decide) (fun K hK => ?_)
     refine goes_ Try.func36 (by kernel_rfl) rfl #[.agg #[.int .i64 t871, .int .i64 t872, .slice Ao26 t873.length co26, .slice Ao27 t876.length co27, .slice Ao28 t879.length co28], .agg #[.int .i64 t882, .int .i64 t883, .int .i64 t884, .int .i64 t885, .int .i64 t886]] (by rfl) rfl rfl mq ?_
     with_reducible refine (spec_ActOnce.calls k t871 t872 _ _ t873 _ _ t876 _ _ t879 t882 t883 t884 t885 t886 t887 t888 t889 t892 t895 t898 _ ?s1 ?s2 ?s3 ?s4 ?s5 ?s6 A12.out).mono ?_
     (case s1 => exact cr HO875)
     (case s2 => exact rq1 HO875)
     (case s3 => exact cr HO878)
     (case s4 => exact rq1 HO878)
     (case s5 => exact cr HO881)
     (case s6 => exact rq1 HO881)
     rintro e w29 ⟨v890, v893, v896, rfl, ho0, ho1, ho2, hb⟩
     refine ⟨_, rfl, ?_⟩
     have HO891 := rl (Kd.R_new' ho0 (lw HO875))
     replace HO875 := am (Kd.R_elder' (rq HO875) (Kd.R_base ho0) hb)
     have HO894 := rl (Kd.R_new' (Kd.R_new' ho1 (lw HO878)) (lw HO881))
     have HO897 := rl (Kd.R_new' (Kd.R_new' ho2 (lw HO878)) (lw HO881))
     replace HO878 := tq2 (rq HO878) hb ho1 ho2
     replace HO881 := tq2 (rq HO881) hb ho1 ho2
     replace BK868 := zb BK868 hb
     replace BK869 := zb BK869 hb
     replace BK899 := zb BK899 hb
     replace HB := sb hb
     (try clear hb ho0 ho1 ho2)
     refine hK.out _ _ cl (fun hHeld => ?_)
     clear hK K
     refine norm_ (a' := ?_) ?_ ?_
     rotate_left
     ·show Act.put _ (some 26) _ = _
      simp only [Act.put, List.setIfInBounds_toArray, List.set_cons_zero, List.set_cons_succ, i64_w, i32_w]
      rfl
     refine pure_ (i := 5) (N := some 21) (v := ?_) (a' := ?_) #[true, true, true, true, true, true, false, false, true, false, false] rfl rfl (any_of HT_.out (by kernel_rfl)) (fun _ _ _ h => h) (Or.inl ⟨by rfl, ?_⟩) ?_ ?_
     rotate_left
     ·intro w'
      go_simp
      with_reducible rfl
     rotate_left
     ·simp only [Act.put, List.setIfInBounds_toArray, List.set_cons_zero, List.set_cons_succ, i64_w, i32_w]
      rfl
     refine pure_ (i := 6) (N := some 27) (v := ?_) (a' := ?_) #[true, true, true, true, true, true, true, false, true, false, false] rfl rfl (any_of HT_.out (by kernel_rfl)) (fun _ _ _ h => h) (Or.inl ⟨by rfl, ?_⟩) ?_ ?_
     rotate_left
     ·intro w'
      go_simp
      with_reducible rfl
     rotate_left
     ·simp only [Act.put, List.setIfInBounds_toArray, List.set_cons_zero, List.set_cons_succ, i64_w, i32_w]
      rfl
     refine pure_ (i := 7) (N := some 28) (v := ?_) (a' := ?_) #[true, true, true, true, true, true, true, true, true, false, false] rfl rfl (any_of HT_.out (by kernel_rfl)) (fun _ _ _ h => h) (Or.inl ⟨by rfl, ?_⟩) ?_ ?_
     rotate_left
     ·intro w'
      go_simp
      with_reducible rfl
     rotate_left
     ·simp only [Act.put, List.setIfInBounds_toArray, List.set_cons_zero, List.set_cons_succ, i64_w, i32_w]
      rfl
     exact norm_ (by simp only [putAll, Act.put, List.setIfInBounds_toArray, List.set_cons_zero, List.set_cons_succ]) (hCont (.slice Ao26 t873.length co26, .slice Ao27 t876.length co27, .slice Ao28 t879.length co28, v890, v893, v896, gb899) _ ⟨hHeld, (rm HO875), (rm HO878), (rm HO881), (rm HO891), (rm HO894), (rm HO897), (zq BK868), (zq BK869), (zq BK899), GW899.out, GE899.out, NB868_899.out, NB899_868.out, NB869_899.out, NB899_869.out, bq⟩)
   ·skip
    refine box_step ?hg (N := 6) ?hd (cs := #[.int .i64 0, .int .i64 0, .slice none 0 0, .slice none 0 0, .slice none 0 0]) (t := 35) ?hr ?_; (case hd => rfl); (case hg => rfl); (case hr => first | (go_simp; done) | (go_simp; rfl))
    intro gb899 hg w23 hbox hb
    have BK899 := am (hbox)
    have GW899 := am (gq hg)
    have GE899 := am (gq hg)
    replace HB := sb hb
    have NB868_899 := nl hg BK868
    have NB899_868 := ng hg BK868
    replace BK868 := zb BK868 hb
    have NB869_899 := nl hg BK869
    have NB899_869 := ng hg BK869
    replace BK869 := zb BK869 hb
    clear hb hbox hg
    refine hK.out _ _ cl (fun hHeld => ?_)
    clear hK K
    refine norm_ (a' := ?_) ?_ ?_
    rotate_left
    ·show Act.put _ (some 6) _ = _
     simp only [Act.put, List.setIfInBounds_toArray, List.set_cons_zero, List.set_cons_succ, i64_w, i32_w]
     rfl
    refine one_ (i := 1) (N := some 23) #[true, true, true, false, false, false, false, false, true, false, false] rfl rfl (one_of HT_.out (by kernel_rfl)) (by decide) (fun K hK => ?_)
    refine goes_ Try.func16 (by kernel_rfl) rfl #[.agg #[.int .i64 a0_0, .int .i64 a0_1, .slice A0_2 l0_2.length c0_2, .slice A0_3 l0_3.length c0_3, .slice A0_4 l0_4.length c0_4]] (by rfl) rfl rfl mq ?_
    with_reducible refine (laws_toSession.calls k a0_0 a0_1 _ _ l0_2 _ _ l0_3 _ _ l0_4 t871 t872 t873 t876 t879 _ ?s1 ?s2 ?s3 ?s4 ?s5 ?s6 A10.out).mono ?_
    (case s1 => exact cq (Kd.C_below HR0_2.out HB.out))
    (case s2 => exact HC0_2.out)
    (case s3 => exact cq (Kd.C_below HR0_3.out HB.out))
    (case s4 => exact HC0_3.out)
    (case s5 => exact cq (Kd.C_below HR0_4.out HB.out))
    (case s6 => exact HC0_4.out)
    rintro e w24 ⟨v874, v877, v880, rfl, ho0, ho1, ho2, hb⟩
    refine ⟨_, rfl, ?_⟩
    have HO875 := rl ho0
    have HO878 := rl ho1
    have HO881 := rl ho2
    replace BK868 := zb BK868 hb
    replace BK869 := zb BK869 hb
    replace BK899 := zb BK899 hb
    replace HB := sb hb
    (try clear hb ho0 ho1 ho2)
    refine hK.out _ _ cl (fun hHeld => ?_)
    clear hK K
    refine norm_ (a' := ?_) ?_ ?_
    rotate_left
    ·show Act.put _ (some 23) _ = _
     simp only [Act.put, List.setIfInBounds_toArray, List.set_cons_zero, List.set_cons_succ, i64_w, i32_w]
     rfl
    refine one_ (i := 3) (N := some 25) #[true, true, true, true, false, false, false, false, true, false, false] rfl rfl (one_of HT_.out (by kernel_rfl)) (by decide) (fun K hK => ?_)
    refine goes_ Try.func37 (by kernel_rfl) rfl #[.agg #[.int .i64 a1_0, .int .i64 a1_1, .int .i64 a1_2, .int .i64 a1_3, .int .i64 a1_4]] (by rfl) rfl rfl mq ?_
    with_reducible refine (laws_toSessionAct.calls a1_0 a1_1 a1_2 a1_3 a1_4 t882 t883 t884 t885 t886 _ A11.out).mono ?_
    rintro e w25 ⟨rfl, hb⟩
    refine ⟨_, rfl, ?_⟩
    replace HO875 := rb HO875 hb
    replace HO878 := rb HO878 hb
    replace HO881 := rb HO881 hb
    replace BK868 := zb BK868 hb
    replace BK869 := zb BK869 hb
    replace BK899 := zb BK899 hb
    replace HB := sb hb
    (try clear hb)
    obtain ⟨Ao26, co26, eo26⟩ := Kd.R_slice HO875.out
    (first | subst eo26 | (injection eo26 with f1_ f2_ f3_; have f4_ := f1_.symm; have f5_ := f3_.symm; clear f1_ f2_ f3_; subst f4_; subst f5_))
    obtain ⟨Ao27, co27, eo27⟩ := Kd.R_slice HO878.out
    (first | subst eo27 | (injection eo27 with f1_ f2_ f3_; have f4_ := f1_.symm; have f5_ := f3_.symm; clear f1_ f2_ f3_; subst f4_; subst f5_))
    obtain ⟨Ao28, co28, eo28⟩ := Kd.R_slice HO881.out
    (first | subst eo28 | (injection eo28 with f1_ f2_ f3_; have f4_ := f1_.symm; have f5_ := f3_.symm; clear f1_ f2_ f3_; subst f4_; subst f5_))
    refine hK.out _ _ cl (fun hHeld => ?_)
    clear hK K
    refine norm_ (a' := ?_) ?_ ?_
    rotate_left
    ·show Act.put _ (some 25) _ = _
     simp only [Act.put, List.setIfInBounds_toArray, List.set_cons_zero, List.set_cons_succ, i64_w, i32_w]
     rfl
    refine one_ (i := 4) (N := some 26) #[true, true, true, true, true, false, false, false, true, false, false] rfl rfl (one_of HT_.out (by kernel_rfl)) (by decide) (fun K hK => ?_)
    refine goes_ Try.func36 (by kernel_rfl) rfl #[.agg #[.int .i64 t871, .int .i64 t872, .slice Ao26 t873.length co26, .slice Ao27 t876.length co27, .slice Ao28 t879.length co28], .agg #[.int .i64 t882, .int .i64 t883, .int .i64 t884, .int .i64 t885, .int .i64 t886]] (by rfl) rfl rfl mq ?_
    with_reducible refine (spec_ActOnce.calls k t871 t872 _ _ t873 _ _ t876 _ _ t879 t882 t883 t884 t885 t886 t887 t888 t889 t892 t895 t898 _ ?s1 ?s2 ?s3 ?s4 ?s5 ?s6 A12.out).mono ?_
    (case s1 => exact cr HO875)
    (case s2 => exact rq1 HO875)
    (case s3 => exact cr HO878)
    (case s4 => exact rq1 HO878)
    (case s5 => exact cr HO881)
    (case s6 => exact rq1 HO881)
    rintro e w29 ⟨v890, v893, v896, rfl, ho0, ho1, ho2, hb⟩
    refine ⟨_, rfl, ?_⟩
    have HO891 := rl (Kd.R_new' ho0 (lw HO875))
    replace HO875 := am (Kd.R_elder' (rq HO875) (Kd.R_base ho0) hb)
    have HO894 := rl (Kd.R_new' (Kd.R_new' ho1 (lw HO878)) (lw HO881))
    have HO897 := rl (Kd.R_new' (Kd.R_new' ho2 (lw HO878)) (lw HO881))
    replace HO878 := tq2 (rq HO878) hb ho1 ho2
    replace HO881 := tq2 (rq HO881) hb ho1 ho2
    replace BK868 := zb BK868 hb
    replace BK869 := zb BK869 hb
    replace BK899 := zb BK899 hb
    replace HB := sb hb
    (try clear hb ho0 ho1 ho2)
    refine hK.out _ _ cl (fun hHeld => ?_)
    clear hK K
    refine norm_ (a' := ?_) ?_ ?_
    rotate_left
    ·show Act.put _ (some 26) _ = _
     simp only [Act.put, List.setIfInBounds_toArray, List.set_cons_zero, List.set_cons_succ, i64_w, i32_w]
     rfl
    refine pure_ (i := 5) (N := some 21) (v := ?_) (a' := ?_) #[true, true, true, true, true, true, false, false, true, false, false] rfl rfl (any_of HT_.out (by kernel_rfl)) (fun _ _ _ h => h) (Or.inl ⟨by rfl, ?_⟩) ?_ ?_
    rotate_left
    ·intro w'
     go_simp
     with_reducible rfl
    rotate_left
    ·simp only [Act.put, List.setIfInBounds_toArray, List.set_cons_zero, List.set_cons_succ, i64_w, i32_w]
     rfl
    refine pure_ (i := 6) (N := some 27) (v := ?_) (a' := ?_) #[true, true, true, true, true, true, true, false, true, false, false] rfl rfl (any_of HT_.out (by kernel_rfl)) (fun _ _ _ h => h) (Or.inl ⟨by rfl, ?_⟩) ?_ ?_
    rotate_left
    ·intro w'
     go_simp
     with_reducible rfl
    rotate_left
    ·simp only [Act.put, List.setIfInBounds_toArray, List.set_cons_zero, List.set_cons_succ, i64_w, i32_w]
     rfl
    refine pure_ (i := 7) (N := some 28) (v := ?_) (a' := ?_) #[true, true, true, true, true, true, true, true, true, false, false] rfl rfl (any_of HT_.out (by kernel_rfl)) (fun _ _ _ h => h) (Or.inl ⟨by rfl, ?_⟩) ?_ ?_
    rotate_left
    ·intro w'
     go_simp
     with_reducible rfl
    rotate_left
    ·simp only [Act.put, List.setIfInBounds_toArray, List.set_cons_zero, List.set_cons_succ, i64_w, i32_w]
     rfl
    exact norm_ (by simp only [putAll, Act.put, List.setIfInBounds_toArray, List.set_cons_zero, List.set_cons_succ]) (hCont (.slice Ao26 t873.length co26, .slice Ao27 t876.length co27, .slice Ao28 t879.length co28, v890, v893, v896, gb899) _ ⟨hHeld, (rm HO875), (rm HO878), (rm HO881), (rm HO891), (rm HO894), (rm HO897), (zq BK868), (zq BK869), (zq BK899), GW899.out, GE899.out, NB868_899.out, NB899_868.out, NB869_899.out, NB899_869.out, bq⟩)
  rintro ⟨v874, v877, v880, v890, v893, v896, gb899⟩ w30 ⟨hS_, h0_, h1_, h2_, h3_, h4_, h5_, h6_, h7_, h8_, h9_, h10_, h11_, h12_, h13_, h14_, h15_⟩
  have n0_ : Aside0 (Kd.R k58 58 w30 w.heap.size (fun k_ => some k_ ≠ (v890 : Value).ownBlock) v874 t873) := ⟨h0_⟩
  have n1_ : Aside0 (Kd.R k60 60 w30 w.heap.size (fun k_ => some k_ ≠ (v880 : Value).ownBlock ∧ some k_ ≠ (v893 : Value).ownBlock ∧ some k_ ≠ (v896 : Value).ownBlock) v877 t876) := ⟨h1_⟩
  have n2_ : Aside0 (Kd.R k60 60 w30 w.heap.size (fun k_ => some k_ ≠ (v877 : Value).ownBlock ∧ some k_ ≠ (v893 : Value).ownBlock ∧ some k_ ≠ (v896 : Value).ownBlock) v880 t879) := ⟨h2_⟩
  have n3_ : Aside0 (Kd.R k58 58 w30 w.heap.size (fun k_ => some k_ ≠ (v874 : Value).ownBlock) v890 t889) := ⟨h3_⟩
  have n4_ : Aside0 (Kd.R k60 60 w30 w.heap.size (fun k_ => some k_ ≠ (v877 : Value).ownBlock ∧ some k_ ≠ (v880 : Value).ownBlock ∧ some k_ ≠ (v896 : Value).ownBlock) v893 t892) := ⟨h4_⟩
  have n5_ : Aside0 (Kd.R k60 60 w30 w.heap.size (fun k_ => some k_ ≠ (v877 : Value).ownBlock ∧ some k_ ≠ (v880 : Value).ownBlock ∧ some k_ ≠ (v893 : Value).ownBlock) v896 t895) := ⟨h5_⟩
  have n6_ : Aside0 (w30.heap[gb868]? = some (.cells #[.int .i64 a0_0, .int .i64 a0_1, .slice A0_2 l0_2.length c0_2, .slice A0_3 l0_3.length c0_3, .slice A0_4 l0_4.length c0_4] 27 (0, 0))) := ⟨h6_⟩
  have n7_ : Aside0 (w30.heap[gb869]? = some (.cells #[.int .i64 a1_0, .int .i64 a1_1, .int .i64 a1_2, .int .i64 a1_3, .int .i64 a1_4] 56 (0, 0))) := ⟨h7_⟩
  have n8_ : Aside0 (w30.heap[gb899]? = some (.cells #[.int .i64 0, .int .i64 0, .slice none 0 0, .slice none 0 0, .slice none 0 0] 35 (0, 0))) := ⟨h8_⟩
  have n9_ : Aside0 (w.heap.size ≤ gb899) := ⟨h9_⟩
  have n10_ : Aside0 (w.heap.size ≤ gb899) := ⟨h10_⟩
  have n11_ : Aside0 (gb868 ≠ gb899) := ⟨h11_⟩
  have n12_ : Aside0 (gb899 ≠ gb868) := ⟨h12_⟩
  have n13_ : Aside0 (gb869 ≠ gb899) := ⟨h13_⟩
  have n14_ : Aside0 (gb899 ≠ gb869) := ⟨h14_⟩
  have n15_ : Aside0 (Below w.heap.size w w30) := ⟨h15_⟩
  clear BK868 BK869 HB h0_ h1_ h2_ h3_ h4_ h5_ h6_ h7_ h8_ h9_ h10_ h11_ h12_ h13_ h14_ h15_
  have HO875 := n0_
  have HO878 := n1_
  have HO881 := n2_
  have HO891 := n3_
  have HO894 := n4_
  have HO897 := n5_
  have BK868 := n6_
  have BK869 := n7_
  have BK899 := n8_
  have GW899 := n9_
  have GE899 := n10_
  have NB868_899 := n11_
  have NB899_868 := n12_
  have NB869_899 := n13_
  have NB899_869 := n14_
  have HB := n15_
  clear n0_ n1_ n2_ n3_ n4_ n5_ n6_ n7_ n8_ n9_ n10_ n11_ n12_ n13_ n14_ n15_
  have hHeld : w30.cell? ⟨gb868, 0, none⟩ = some (.int .i64 a0_0) ∧ w30.cell? ⟨gb868, 1, none⟩ = some (.int .i64 a0_1) ∧ w30.cell? ⟨gb868, 2, none⟩ = some (.slice A0_2 l0_2.length c0_2) ∧ w30.cell? ⟨gb868, 3, none⟩ = some (.slice A0_3 l0_3.length c0_3) ∧ w30.cell? ⟨gb868, 4, none⟩ = some (.slice A0_4 l0_4.length c0_4) ∧ w30.cell? ⟨gb869, 0, none⟩ = some (.int .i64 a1_0) ∧ w30.cell? ⟨gb869, 1, none⟩ = some (.int .i64 a1_1) ∧ w30.cell? ⟨gb869, 2, none⟩ = some (.int .i64 a1_2) ∧ w30.cell? ⟨gb869, 3, none⟩ = some (.int .i64 a1_3) ∧ w30.cell? ⟨gb869, 4, none⟩ = some (.int .i64 a1_4) := hS_
  obtain ⟨Ao33, co33, eo33⟩ := Kd.R_slice HO891.out
  (first | subst eo33 | (injection eo33 with f1_ f2_ f3_; have f4_ := f1_.symm; have f5_ := f3_.symm; clear f1_ f2_ f3_; subst f4_; subst f5_))
  obtain ⟨Ao35, co35, eo35⟩ := Kd.R_slice HO894.out
  (first | subst eo35 | (injection eo35 with f1_ f2_ f3_; have f4_ := f1_.symm; have f5_ := f3_.symm; clear f1_ f2_ f3_; subst f4_; subst f5_))
  obtain ⟨Ao37, co37, eo37⟩ := Kd.R_slice HO897.out
  (first | subst eo37 | (injection eo37 with f1_ f2_ f3_; have f4_ := f1_.symm; have f5_ := f3_.symm; clear f1_ f2_ f3_; subst f4_; subst f5_))
  refine norm_ (a' := ?_) ?_ ?_
  rotate_left
  ·simp only [putAll, Act.put, List.setIfInBounds_toArray, List.set_cons_zero, List.set_cons_succ]
   rfl
  refine one_ (i := 9) (N := none) #[true, true, true, true, true, true, true, true, true, true, false] rfl rfl (one_of HT_.out (by kernel_rfl)) (by decide) (fun K hK => ?_)
  have hs31 : w30.cell? ⟨gb899, 0, none⟩ = some (.int .i64 0) := (blk_cell BK899.out 0).trans rfl
  have hfs31 := blk_frozen BK899.out 0
  have hns31_0 := NB868_899.out
  have hns31_1 := NB869_899.out
  have hms31_0 := NB899_868.out
  have hms31_1 := NB899_869.out
  have hs32 : w30.cell? ⟨gb899, 1, none⟩ = some (.int .i64 0) := (blk_cell BK899.out 1).trans rfl
  have hfs32 := blk_frozen BK899.out 1
  have hns32_0 := NB868_899.out
  have hns32_1 := NB869_899.out
  have hms32_0 := NB899_868.out
  have hms32_1 := NB899_869.out
  have hs34 : w30.cell? ⟨gb899, 2, none⟩ = some (.slice none 0 0) := (blk_cell BK899.out 2).trans rfl
  have hfs34 := blk_frozen BK899.out 2
  have hns34_0 := NB868_899.out
  have hns34_1 := NB869_899.out
  have hms34_0 := NB899_868.out
  have hms34_1 := NB899_869.out
  have hs36 : w30.cell? ⟨gb899, 3, none⟩ = some (.slice none 0 0) := (blk_cell BK899.out 3).trans rfl
  have hfs36 := blk_frozen BK899.out 3
  have hns36_0 := NB868_899.out
  have hns36_1 := NB869_899.out
  have hms36_0 := NB899_868.out
  have hms36_1 := NB899_869.out
  have hs38 : w30.cell? ⟨gb899, 4, none⟩ = some (.slice none 0 0) := (blk_cell BK899.out 4).trans rfl
  have hfs38 := blk_frozen BK899.out 4
  have hns38_0 := NB868_899.out
  have hns38_1 := NB869_899.out
  have hms38_0 := NB899_868.out
  have hms38_1 := NB899_869.out
  refine skip_ (w1 := ?_) (by rfl) rfl ?_ ?_
  rotate_left
  ·go_simp
   rfl
  refine hK.out _ _ (chf hHeld) (fun hHeld => ?_)
  clear hK K
  refine pure_ (i := 10) (N := some 7) (v := ?_) (a' := ?_) #[true, true, true, true, true, true, true, true, true, true, true] rfl rfl (any_of HT_.out (by kernel_rfl)) (fun _ _ _ h => h) (Or.inl ⟨by rfl, ?_⟩) ?_ ?_
  rotate_left
  ·intro w'
   go_simp
   with_reducible rfl
  rotate_left
  ·simp only [Act.put, List.setIfInBounds_toArray, List.set_cons_zero, List.set_cons_succ, i64_w, i32_w]
   rfl
  refine done_ (done_of HT_.out (by kernel_rfl)) ?_
  have hnb39 := NB868_899.out
  have hnc39 := NB899_868.out
  have ⟨hcz40_0, hcz40_1, hcz40_2, hcz40_3, hcz40_4, hfz40_0, hfz40_1, hfz40_2, hfz40_3, hfz40_4⟩ := bc5 BK868
  try go_wp2_with (first | ((with_reducible refine gate_callee (f := 16) rfl ?_); refine goesQ (some 30) Try.func16 #[.agg #[.int .i64 a0_0, .int .i64 a0_1, .slice A0_2 l0_2.length c0_2, .slice A0_3 l0_3.length c0_3, .slice A0_4 l0_4.length c0_4]] ?_; (with_reducible refine (laws_toSession.calls k a0_0 a0_1 _ _ l0_2 _ _ l0_3 _ _ l0_4 t900 t901 t902 t905 t908 _ ?s1 ?s2 ?s3 ?s4 ?s5 ?s6 A13.out).mono ?_); (case s1 => exact Kd.C_below HR0_2.out bq); (case s2 => exact HC0_2.out); (case s3 => exact Kd.C_below HR0_3.out bq); (case s4 => exact HC0_3.out); (case s5 => exact Kd.C_below HR0_4.out bq); (case s6 => exact HC0_4.out); rintro e w41 ⟨v903, v906, v909, rfl, ho0, ho1, ho2, hb⟩; refine ⟨_, rfl, ?_⟩; have HO904 := rl (Kd.R_new' (Kd.R_new' ho0 (Kd.R_lt (fq HO875 BK899))) (Kd.R_lt (fq HO891 BK899))); replace HO875 := am (Kd.R_elder' (fq HO875 BK899) (Kd.R_base ho0) hb); replace HO891 := am (Kd.R_elder' (fq HO891 BK899) (Kd.R_base ho0) hb); have HO907 := rl (Kd.R_new' (Kd.R_new' (Kd.R_new' (Kd.R_new' ho1 (Kd.R_lt (fq HO878 BK899))) (Kd.R_lt (fq HO881 BK899))) (Kd.R_lt (fq HO894 BK899))) (Kd.R_lt (fq HO897 BK899))); have HO910 := rl (Kd.R_new' (Kd.R_new' (Kd.R_new' (Kd.R_new' ho2 (Kd.R_lt (fq HO878 BK899))) (Kd.R_lt (fq HO881 BK899))) (Kd.R_lt (fq HO894 BK899))) (Kd.R_lt (fq HO897 BK899))); replace HO878 := tq2 (fq HO878 BK899) hb ho1 ho2; replace HO881 := tq2 (fq HO881 BK899) hb ho1 ho2; replace HO894 := tq2 (fq HO894 BK899) hb ho1 ho2; replace HO897 := tq2 (fq HO897 BK899) hb ho1 ho2; replace BK868 := am (blk_below (g := gb868) (o := .cells #[.int .i64 a0_0, .int .i64 a0_1, .slice A0_2 l0_2.length c0_2, .slice A0_3 l0_3.length c0_3, .slice A0_4 l0_4.length c0_4] 27 (0, 0)) (zp BK868) hb); replace BK869 := am (blk_below (g := gb869) (o := .cells #[.int .i64 a1_0, .int .i64 a1_1, .int .i64 a1_2, .int .i64 a1_3, .int .i64 a1_4] 56 (0, 0)) (zp BK869) hb); replace BK899 := am (blk_below (g := gb899) (o := .cells #[.int .i64 t887, .int .i64 t888, .slice Ao33 t889.length co33, .slice Ao35 t892.length co35, .slice Ao37 t895.length co37] 35 (0, 0)) (zp BK899) hb); replace HB := sb hb; (try clear hb ho0 ho1 ho2)) | ((with_reducible refine gate_dst (N := 8) rfl ?_); refine box_event ?hg (N := 8) ?hd (cs := #[.int .i64 0, .int .i64 0, .slice none 0 0, .slice none 0 0, .slice none 0 0]) (t := 35) ?hr ?_; (case hd => rfl); (case hg => rfl); (case hr => first | (go_simp; done) | (go_simp; rfl)); intro gb911 hg w42 hbox hb; replace HO875 := rb HO875 hb; replace HO878 := rb HO878 hb; replace HO881 := rb HO881 hb; replace HO891 := rb HO891 hb; replace HO894 := rb HO894 hb; replace HO897 := rb HO897 hb; replace HO904 := rb HO904 hb; replace HO907 := rb HO907 hb; replace HO910 := rb HO910 hb; have BK911 := am (hbox); have GW911 := am (gq hg); have GE911 := am (gq hg); replace HB := sb hb; have NB868_911 := nl hg BK868; have NB911_868 := ng hg BK868; replace BK868 := zb BK868 hb; have NB869_911 := nl hg BK869; have NB911_869 := ng hg BK869; replace BK869 := zb BK869 hb; have NB899_911 := nl hg BK899; have NB911_899 := ng hg BK899; replace BK899 := zb BK899 hb; clear hb hbox hg; have hnb43 := NB911_868.out; have hnc43 := NB868_911.out; have hnb44 := NB911_869.out; have hnc44 := NB869_911.out; have hnb45 := NB911_899.out; have hnc45 := NB899_911.out; have ⟨hcz46_0, hcz46_1, hcz46_2, hcz46_3, hcz46_4, hfz46_0, hfz46_1, hfz46_2, hfz46_3, hfz46_4⟩ := bc5 BK911; obtain ⟨Ao47, co47, eo47⟩ := Kd.R_slice HO904.out; subst eo47; obtain ⟨Ao48, co48, eo48⟩ := Kd.R_slice HO907.out; subst eo48; obtain ⟨Ao49, co49, eo49⟩ := Kd.R_slice HO910.out; subst eo49))
  have n0_ : Aside0 (Kd.R k58 58 (((((w42.setCell ⟨gb911, 0, none⟩ (.int .i64 t900)).setCell ⟨gb911, 1, none⟩ (.int .i64 t901)).setCell ⟨gb911, 2, none⟩ (.slice Ao47 t902.length co47)).setCell ⟨gb911, 3, none⟩ (.slice Ao48 t905.length co48)).setCell ⟨gb911, 4, none⟩ (.slice Ao49 t908.length co49)) w.heap.size (fun k_ => some k_ ≠ (.slice Ao33 t889.length co33 : Value).ownBlock ∧ some k_ ≠ (.slice Ao47 t902.length co47 : Value).ownBlock) v874 t873) := ⟨Kd.R_mono (ff HO875 BK911) (fun _ hk => ⟨hk.1.1, hk.1.2⟩)⟩
  have n1_ : Aside0 (Kd.R k60 60 (((((w42.setCell ⟨gb911, 0, none⟩ (.int .i64 t900)).setCell ⟨gb911, 1, none⟩ (.int .i64 t901)).setCell ⟨gb911, 2, none⟩ (.slice Ao47 t902.length co47)).setCell ⟨gb911, 3, none⟩ (.slice Ao48 t905.length co48)).setCell ⟨gb911, 4, none⟩ (.slice Ao49 t908.length co49)) w.heap.size (fun k_ => some k_ ≠ (v880 : Value).ownBlock ∧ some k_ ≠ (.slice Ao35 t892.length co35 : Value).ownBlock ∧ some k_ ≠ (.slice Ao37 t895.length co37 : Value).ownBlock ∧ some k_ ≠ (.slice Ao48 t905.length co48 : Value).ownBlock ∧ some k_ ≠ (.slice Ao49 t908.length co49 : Value).ownBlock) v877 t876) := ⟨Kd.R_mono (ff HO878 BK911) (fun _ hk => ⟨hk.1.1.1.1, ⟨hk.1.1.1.2.1, ⟨hk.1.1.1.2.2, ⟨hk.1.1.2, hk.1.2⟩⟩⟩⟩)⟩
  have n2_ : Aside0 (Kd.R k60 60 (((((w42.setCell ⟨gb911, 0, none⟩ (.int .i64 t900)).setCell ⟨gb911, 1, none⟩ (.int .i64 t901)).setCell ⟨gb911, 2, none⟩ (.slice Ao47 t902.length co47)).setCell ⟨gb911, 3, none⟩ (.slice Ao48 t905.length co48)).setCell ⟨gb911, 4, none⟩ (.slice Ao49 t908.length co49)) w.heap.size (fun k_ => some k_ ≠ (v877 : Value).ownBlock ∧ some k_ ≠ (.slice Ao35 t892.length co35 : Value).ownBlock ∧ some k_ ≠ (.slice Ao37 t895.length co37 : Value).ownBlock ∧ some k_ ≠ (.slice Ao48 t905.length co48 : Value).ownBlock ∧ some k_ ≠ (.slice Ao49 t908.length co49 : Value).ownBlock) v880 t879) := ⟨Kd.R_mono (ff HO881 BK911) (fun _ hk => ⟨hk.1.1.1.1, ⟨hk.1.1.1.2.1, ⟨hk.1.1.1.2.2, ⟨hk.1.1.2, hk.1.2⟩⟩⟩⟩)⟩
  have n3_ : Aside0 (Kd.R k58 58 (((((w42.setCell ⟨gb911, 0, none⟩ (.int .i64 t900)).setCell ⟨gb911, 1, none⟩ (.int .i64 t901)).setCell ⟨gb911, 2, none⟩ (.slice Ao47 t902.length co47)).setCell ⟨gb911, 3, none⟩ (.slice Ao48 t905.length co48)).setCell ⟨gb911, 4, none⟩ (.slice Ao49 t908.length co49)) w.heap.size (fun k_ => some k_ ≠ (v874 : Value).ownBlock ∧ some k_ ≠ (.slice Ao47 t902.length co47 : Value).ownBlock) (.slice Ao33 t889.length co33) t889) := ⟨Kd.R_mono (ff HO891 BK911) (fun _ hk => ⟨hk.1.1, hk.1.2⟩)⟩
  have n4_ : Aside0 (Kd.R k60 60 (((((w42.setCell ⟨gb911, 0, none⟩ (.int .i64 t900)).setCell ⟨gb911, 1, none⟩ (.int .i64 t901)).setCell ⟨gb911, 2, none⟩ (.slice Ao47 t902.length co47)).setCell ⟨gb911, 3, none⟩ (.slice Ao48 t905.length co48)).setCell ⟨gb911, 4, none⟩ (.slice Ao49 t908.length co49)) w.heap.size (fun k_ => some k_ ≠ (v877 : Value).ownBlock ∧ some k_ ≠ (v880 : Value).ownBlock ∧ some k_ ≠ (.slice Ao37 t895.length co37 : Value).ownBlock ∧ some k_ ≠ (.slice Ao48 t905.length co48 : Value).ownBlock ∧ some k_ ≠ (.slice Ao49 t908.length co49 : Value).ownBlock) (.slice Ao35 t892.length co35) t892) := ⟨Kd.R_mono (ff HO894 BK911) (fun _ hk => ⟨hk.1.1.1.1, ⟨hk.1.1.1.2.1, ⟨hk.1.1.1.2.2, ⟨hk.1.1.2, hk.1.2⟩⟩⟩⟩)⟩
  have n5_ : Aside0 (Kd.R k60 60 (((((w42.setCell ⟨gb911, 0, none⟩ (.int .i64 t900)).setCell ⟨gb911, 1, none⟩ (.int .i64 t901)).setCell ⟨gb911, 2, none⟩ (.slice Ao47 t902.length co47)).setCell ⟨gb911, 3, none⟩ (.slice Ao48 t905.length co48)).setCell ⟨gb911, 4, none⟩ (.slice Ao49 t908.length co49)) w.heap.size (fun k_ => some k_ ≠ (v877 : Value).ownBlock ∧ some k_ ≠ (v880 : Value).ownBlock ∧ some k_ ≠ (.slice Ao35 t892.length co35 : Value).ownBlock ∧ some k_ ≠ (.slice Ao48 t905.length co48 : Value).ownBlock ∧ some k_ ≠ (.slice Ao49 t908.length co49 : Value).ownBlock) (.slice Ao37 t895.length co37) t895) := ⟨Kd.R_mono (ff HO897 BK911) (fun _ hk => ⟨hk.1.1.1.1, ⟨hk.1.1.1.2.1, ⟨hk.1.1.1.2.2, ⟨hk.1.1.2, hk.1.2⟩⟩⟩⟩)⟩
  have n6_ : Aside0 (Kd.R k58 58 (((((w42.setCell ⟨gb911, 0, none⟩ (.int .i64 t900)).setCell ⟨gb911, 1, none⟩ (.int .i64 t901)).setCell ⟨gb911, 2, none⟩ (.slice Ao47 t902.length co47)).setCell ⟨gb911, 3, none⟩ (.slice Ao48 t905.length co48)).setCell ⟨gb911, 4, none⟩ (.slice Ao49 t908.length co49)) w.heap.size (fun k_ => some k_ ≠ (v874 : Value).ownBlock ∧ some k_ ≠ (.slice Ao33 t889.length co33 : Value).ownBlock) (.slice Ao47 t902.length co47) t902) := ⟨Kd.R_mono (ff HO904 BK911) (fun _ hk => ⟨hk.1.1.2, hk.1.2⟩)⟩
  have n7_ : Aside0 (Kd.R k60 60 (((((w42.setCell ⟨gb911, 0, none⟩ (.int .i64 t900)).setCell ⟨gb911, 1, none⟩ (.int .i64 t901)).setCell ⟨gb911, 2, none⟩ (.slice Ao47 t902.length co47)).setCell ⟨gb911, 3, none⟩ (.slice Ao48 t905.length co48)).setCell ⟨gb911, 4, none⟩ (.slice Ao49 t908.length co49)) w.heap.size (fun k_ => some k_ ≠ (v877 : Value).ownBlock ∧ some k_ ≠ (v880 : Value).ownBlock ∧ some k_ ≠ (.slice Ao35 t892.length co35 : Value).ownBlock ∧ some k_ ≠ (.slice Ao37 t895.length co37 : Value).ownBlock ∧ some k_ ≠ (.slice Ao49 t908.length co49 : Value).ownBlock) (.slice Ao48 t905.length co48) t905) := ⟨Kd.R_mono (ff HO907 BK911) (fun _ hk => ⟨hk.1.1.1.1.2, ⟨hk.1.1.1.2, ⟨hk.1.1.2, ⟨hk.1.2, hk.1.1.1.1.1⟩⟩⟩⟩)⟩
  have n8_ : Aside0 (Kd.R k60 60 (((((w42.setCell ⟨gb911, 0, none⟩ (.int .i64 t900)).setCell ⟨gb911, 1, none⟩ (.int .i64 t901)).setCell ⟨gb911, 2, none⟩ (.slice Ao47 t902.length co47)).setCell ⟨gb911, 3, none⟩ (.slice Ao48 t905.length co48)).setCell ⟨gb911, 4, none⟩ (.slice Ao49 t908.length co49)) w.heap.size (fun k_ => some k_ ≠ (v877 : Value).ownBlock ∧ some k_ ≠ (v880 : Value).ownBlock ∧ some k_ ≠ (.slice Ao35 t892.length co35 : Value).ownBlock ∧ some k_ ≠ (.slice Ao37 t895.length co37 : Value).ownBlock ∧ some k_ ≠ (.slice Ao48 t905.length co48 : Value).ownBlock) (.slice Ao49 t908.length co49) t908) := ⟨Kd.R_mono (ff HO910 BK911) (fun _ hk => ⟨hk.1.1.1.1.2, ⟨hk.1.1.1.2, ⟨hk.1.1.2, ⟨hk.1.2, hk.1.1.1.1.1⟩⟩⟩⟩)⟩
  have n9_ : Aside0 ((((((w42.setCell ⟨gb911, 0, none⟩ (.int .i64 t900)).setCell ⟨gb911, 1, none⟩ (.int .i64 t901)).setCell ⟨gb911, 2, none⟩ (.slice Ao47 t902.length co47)).setCell ⟨gb911, 3, none⟩ (.slice Ao48 t905.length co48)).setCell ⟨gb911, 4, none⟩ (.slice Ao49 t908.length co49)).heap[gb868]? = some (.cells #[.int .i64 a0_0, .int .i64 a0_1, .slice A0_2 l0_2.length c0_2, .slice A0_3 l0_3.length c0_3, .slice A0_4 l0_4.length c0_4] 27 (0, 0))) := ⟨zp BK868⟩
  have n10_ : Aside0 ((((((w42.setCell ⟨gb911, 0, none⟩ (.int .i64 t900)).setCell ⟨gb911, 1, none⟩ (.int .i64 t901)).setCell ⟨gb911, 2, none⟩ (.slice Ao47 t902.length co47)).setCell ⟨gb911, 3, none⟩ (.slice Ao48 t905.length co48)).setCell ⟨gb911, 4, none⟩ (.slice Ao49 t908.length co49)).heap[gb869]? = some (.cells #[.int .i64 a1_0, .int .i64 a1_1, .int .i64 a1_2, .int .i64 a1_3, .int .i64 a1_4] 56 (0, 0))) := ⟨zp BK869⟩
  have n11_ : Aside0 ((((((w42.setCell ⟨gb911, 0, none⟩ (.int .i64 t900)).setCell ⟨gb911, 1, none⟩ (.int .i64 t901)).setCell ⟨gb911, 2, none⟩ (.slice Ao47 t902.length co47)).setCell ⟨gb911, 3, none⟩ (.slice Ao48 t905.length co48)).setCell ⟨gb911, 4, none⟩ (.slice Ao49 t908.length co49)).heap[gb899]? = some (.cells #[.int .i64 t887, .int .i64 t888, .slice Ao33 t889.length co33, .slice Ao35 t892.length co35, .slice Ao37 t895.length co37] 35 (0, 0))) := ⟨zp BK899⟩
  have n12_ : Aside0 ((((((w42.setCell ⟨gb911, 0, none⟩ (.int .i64 t900)).setCell ⟨gb911, 1, none⟩ (.int .i64 t901)).setCell ⟨gb911, 2, none⟩ (.slice Ao47 t902.length co47)).setCell ⟨gb911, 3, none⟩ (.slice Ao48 t905.length co48)).setCell ⟨gb911, 4, none⟩ (.slice Ao49 t908.length co49)).heap[gb911]? = some (.cells #[.int .i64 t900, .int .i64 t901, .slice Ao47 t902.length co47, .slice Ao48 t905.length co48, .slice Ao49 t908.length co49] 35 (0, 0))) := ⟨zp BK911⟩
  have n13_ : Aside0 (Below w.heap.size w (((((w42.setCell ⟨gb911, 0, none⟩ (.int .i64 t900)).setCell ⟨gb911, 1, none⟩ (.int .i64 t901)).setCell ⟨gb911, 2, none⟩ (.slice Ao47 t902.length co47)).setCell ⟨gb911, 3, none⟩ (.slice Ao48 t905.length co48)).setCell ⟨gb911, 4, none⟩ (.slice Ao49 t908.length co49))) := ⟨bq⟩
  (try clear HO875)
  (try clear HO878)
  (try clear HO881)
  (try clear HO891)
  (try clear HO894)
  (try clear HO897)
  (try clear HO904)
  (try clear HO907)
  (try clear HO910)
  (try clear BK868)
  (try clear BK869)
  (try clear BK899)
  (try clear BK911)
  (try clear HB)
  generalize (((((w42.setCell ⟨gb911, 0, none⟩ (.int .i64 t900)).setCell ⟨gb911, 1, none⟩ (.int .i64 t901)).setCell ⟨gb911, 2, none⟩ (.slice Ao47 t902.length co47)).setCell ⟨gb911, 3, none⟩ (.slice Ao48 t905.length co48)).setCell ⟨gb911, 4, none⟩ (.slice Ao49 t908.length co49)) = w50 at n0_ n1_ n2_ n3_ n4_ n5_ n6_ n7_ n8_ n9_ n10_ n11_ n12_ n13_ ⊢
  have HO875 := n0_
  have HO878 := n1_
  have HO881 := n2_
  have HO891 := n3_
  have HO894 := n4_
  have HO897 := n5_
  have HO904 := n6_
  have HO907 := n7_
  have HO910 := n8_
  have BK868 := n9_
  have BK869 := n10_
  have BK899 := n11_
  have BK911 := n12_
  have HB := n13_
  clear n0_ n1_ n2_ n3_ n4_ n5_ n6_ n7_ n8_ n9_ n10_ n11_ n12_ n13_
  replace HO875 := am (Kd.R_drew HO875.out)
  replace HO878 := am (Kd.R_drew HO878.out)
  replace HO881 := am (Kd.R_drew HO881.out)
  replace HO891 := am (Kd.R_drew HO891.out)
  replace HO894 := am (Kd.R_drew HO894.out)
  replace HO897 := am (Kd.R_drew HO897.out)
  replace HO904 := am (Kd.R_drew HO904.out)
  replace HO907 := am (Kd.R_drew HO907.out)
  replace HO910 := am (Kd.R_drew HO910.out)
  replace BK868 := am (blk_drew BK868.out)
  replace BK869 := am (blk_drew BK869.out)
  replace BK899 := am (blk_drew BK899.out)
  replace BK911 := am (blk_drew BK911.out)
  replace HB := am (below_drew1 HB.out)
  refine start_ (n := 10) (S := fun w' => w'.cell? ⟨gb911, 0, none⟩ = some (.int .i64 t900) ∧ w'.cell? ⟨gb911, 1, none⟩ = some (.int .i64 t901) ∧ w'.cell? ⟨gb911, 2, none⟩ = some (.slice Ao47 t902.length co47) ∧ w'.cell? ⟨gb911, 3, none⟩ = some (.slice Ao48 t905.length co48) ∧ w'.cell? ⟨gb911, 4, none⟩ = some (.slice Ao49 t908.length co49) ∧ w'.cell? ⟨gb869, 0, none⟩ = some (.int .i64 a1_0) ∧ w'.cell? ⟨gb869, 1, none⟩ = some (.int .i64 a1_1) ∧ w'.cell? ⟨gb869, 2, none⟩ = some (.int .i64 a1_2) ∧ w'.cell? ⟨gb869, 3, none⟩ = some (.int .i64 a1_3) ∧ w'.cell? ⟨gb869, 4, none⟩ = some (.int .i64 a1_4)) (ds := []) #[false, false, false, false, false, false, false, false, false, false] (by kernel_rfl) rfl rfl cl (fun hHeld => ?_); refine with_tabW laws_FnExactActOnce.tab7 laws_FnExactActOnce.bits7 (fun HT_ HW_ => ?_)
  generalize w50.drew = w51 at HO875 HO878 HO881 HO891 HO894 HO897 HO904 HO907 HO910 BK868 BK869 BK899 BK911 HB hHeld ⊢
  refine take_ (i := 0) (N := some 32) (v := ?_) (a' := ?_) #[true, false, false, false, false, false, false, false, false, false] rfl rfl (take_ofW HT_.out HW_.out (by kernel_rfl)) (fun _ _ _ h => h) (Or.inl ⟨by rfl, ?_⟩) hHeld ?_ ?_
  rotate_left
  ·rintro w' ⟨s0, s1, s2, s3, s4, s5, s6, s7, s8, s9⟩
   go_simp
   with_reducible rfl
  rotate_left
  ·simp only [Act.put, List.setIfInBounds_toArray, List.set_cons_zero, List.set_cons_succ, i64_w, i32_w]
   rfl
  refine take_ (i := 1) (N := some 33) (v := ?_) (a' := ?_) #[true, true, false, false, false, false, false, false, false, false] rfl rfl (take_ofW HT_.out HW_.out (by kernel_rfl)) (fun _ _ _ h => h) (Or.inl ⟨by rfl, ?_⟩) hHeld ?_ ?_
  rotate_left
  ·rintro w' ⟨s0, s1, s2, s3, s4, s5, s6, s7, s8, s9⟩
   go_simp
   with_reducible rfl
  rotate_left
  ·simp only [Act.put, List.setIfInBounds_toArray, List.set_cons_zero, List.set_cons_succ, i64_w, i32_w]
   rfl
  refine join_ (σ := Value × Value × Value × Nat) 2 #[true, true, true, true, true, true, true, true, false, false] (fun s_ => [(34, .agg #[.int .i64 t912, .int .i64 t913, .int .i64 t914, .int .i64 t915, .int .i64 t916]), (35, .tuple #[.agg #[.int .i64 t917, .int .i64 t918, s_.1, s_.2.1, s_.2.2.1], .bool t928]), (9, .pointer (some ⟨s_.2.2.2, 0, none⟩)), (31, .tuple #[.agg #[.int .i64 t917, .int .i64 t918, s_.1, s_.2.1, s_.2.2.1], .bool t928]), (36, .agg #[.int .i64 t917, .int .i64 t918, s_.1, s_.2.1, s_.2.2.1]), (37, .bool t928)]) (fun s_ w' => (w'.cell? ⟨gb911, 0, none⟩ = some (.int .i64 t900) ∧ w'.cell? ⟨gb911, 1, none⟩ = some (.int .i64 t901) ∧ w'.cell? ⟨gb911, 2, none⟩ = some (.slice Ao47 t902.length co47) ∧ w'.cell? ⟨gb911, 3, none⟩ = some (.slice Ao48 t905.length co48) ∧ w'.cell? ⟨gb911, 4, none⟩ = some (.slice Ao49 t908.length co49) ∧ w'.cell? ⟨gb869, 0, none⟩ = some (.int .i64 a1_0) ∧ w'.cell? ⟨gb869, 1, none⟩ = some (.int .i64 a1_1) ∧ w'.cell? ⟨gb869, 2, none⟩ = some (.int .i64 a1_2) ∧ w'.cell? ⟨gb869, 3, none⟩ = some (.int .i64 a1_3) ∧ w'.cell? ⟨gb869, 4, none⟩ = some (.int .i64 a1_4)) ∧ (Kd.R k58 58 w' w.heap.size (fun k_ => some k_ ≠ (.slice Ao33 t889.length co33 : Value).ownBlock ∧ some k_ ≠ (.slice Ao47 t902.length co47 : Value).ownBlock ∧ some k_ ≠ (s_.1 : Value).ownBlock) v874 t873) ∧ (Kd.R k60 60 w' w.heap.size (fun k_ => some k_ ≠ (v880 : Value).ownBlock ∧ some k_ ≠ (.slice Ao35 t892.length co35 : Value).ownBlock ∧ some k_ ≠ (.slice Ao37 t895.length co37 : Value).ownBlock ∧ some k_ ≠ (.slice Ao48 t905.length co48 : Value).ownBlock ∧ some k_ ≠ (.slice Ao49 t908.length co49 : Value).ownBlock ∧ some k_ ≠ (s_.2.1 : Value).ownBlock ∧ some k_ ≠ (s_.2.2.1 : Value).ownBlock) v877 t876) ∧ (Kd.R k60 60 w' w.heap.size (fun k_ => some k_ ≠ (v877 : Value).ownBlock ∧ some k_ ≠ (.slice Ao35 t892.length co35 : Value).ownBlock ∧ some k_ ≠ (.slice Ao37 t895.length co37 : Value).ownBlock ∧ some k_ ≠ (.slice Ao48 t905.length co48 : Value).ownBlock ∧ some k_ ≠ (.slice Ao49 t908.length co49 : Value).ownBlock ∧ some k_ ≠ (s_.2.1 : Value).ownBlock ∧ some k_ ≠ (s_.2.2.1 : Value).ownBlock) v880 t879) ∧ (Kd.R k58 58 w' w.heap.size (fun k_ => some k_ ≠ (v874 : Value).ownBlock ∧ some k_ ≠ (.slice Ao47 t902.length co47 : Value).ownBlock ∧ some k_ ≠ (s_.1 : Value).ownBlock) (.slice Ao33 t889.length co33) t889) ∧ (Kd.R k60 60 w' w.heap.size (fun k_ => some k_ ≠ (v877 : Value).ownBlock ∧ some k_ ≠ (v880 : Value).ownBlock ∧ some k_ ≠ (.slice Ao37 t895.length co37 : Value).ownBlock ∧ some k_ ≠ (.slice Ao48 t905.length co48 : Value).ownBlock ∧ some k_ ≠ (.slice Ao49 t908.length co49 : Value).ownBlock ∧ some k_ ≠ (s_.2.1 : Value).ownBlock ∧ some k_ ≠ (s_.2.2.1 : Value).ownBlock) (.slice Ao35 t892.length co35) t892) ∧ (Kd.R k60 60 w' w.heap.size (fun k_ => some k_ ≠ (v877 : Value).ownBlock ∧ some k_ ≠ (v880 : Value).ownBlock ∧ some k_ ≠ (.slice Ao35 t892.length co35 : Value).ownBlock ∧ some k_ ≠ (.slice Ao48 t905.length co48 : Value).ownBlock ∧ some k_ ≠ (.slice Ao49 t908.length co49 : Value).ownBlock ∧ some k_ ≠ (s_.2.1 : Value).ownBlock ∧ some k_ ≠ (s_.2.2.1 : Value).ownBlock) (.slice Ao37 t895.length co37) t895) ∧ (Kd.R k58 58 w' w.heap.size (fun k_ => some k_ ≠ (v874 : Value).ownBlock ∧ some k_ ≠ (.slice Ao33 t889.length co33 : Value).ownBlock ∧ some k_ ≠ (s_.1 : Value).ownBlock) (.slice Ao47 t902.length co47) t902) ∧ (Kd.R k60 60 w' w.heap.size (fun k_ => some k_ ≠ (v877 : Value).ownBlock ∧ some k_ ≠ (v880 : Value).ownBlock ∧ some k_ ≠ (.slice Ao35 t892.length co35 : Value).ownBlock ∧ some k_ ≠ (.slice Ao37 t895.length co37 : Value).ownBlock ∧ some k_ ≠ (.slice Ao49 t908.length co49 : Value).ownBlock ∧ some k_ ≠ (s_.2.1 : Value).ownBlock ∧ some k_ ≠ (s_.2.2.1 : Value).ownBlock) (.slice Ao48 t905.length co48) t905) ∧ (Kd.R k60 60 w' w.heap.size (fun k_ => some k_ ≠ (v877 : Value).ownBlock ∧ some k_ ≠ (v880 : Value).ownBlock ∧ some k_ ≠ (.slice Ao35 t892.length co35 : Value).ownBlock ∧ some k_ ≠ (.slice Ao37 t895.length co37 : Value).ownBlock ∧ some k_ ≠ (.slice Ao48 t905.length co48 : Value).ownBlock ∧ some k_ ≠ (s_.2.1 : Value).ownBlock ∧ some k_ ≠ (s_.2.2.1 : Value).ownBlock) (.slice Ao49 t908.length co49) t908) ∧ (Kd.R k58 58 w' w.heap.size (fun k_ => some k_ ≠ (v874 : Value).ownBlock ∧ some k_ ≠ (.slice Ao33 t889.length co33 : Value).ownBlock ∧ some k_ ≠ (.slice Ao47 t902.length co47 : Value).ownBlock) s_.1 t919) ∧ (Kd.R k60 60 w' w.heap.size (fun k_ => some k_ ≠ (v877 : Value).ownBlock ∧ some k_ ≠ (v880 : Value).ownBlock ∧ some k_ ≠ (.slice Ao35 t892.length co35 : Value).ownBlock ∧ some k_ ≠ (.slice Ao37 t895.length co37 : Value).ownBlock ∧ some k_ ≠ (.slice Ao48 t905.length co48 : Value).ownBlock ∧ some k_ ≠ (.slice Ao49 t908.length co49 : Value).ownBlock ∧ some k_ ≠ (s_.2.2.1 : Value).ownBlock) s_.2.1 t922) ∧ (Kd.R k60 60 w' w.heap.size (fun k_ => some k_ ≠ (v877 : Value).ownBlock ∧ some k_ ≠ (v880 : Value).ownBlock ∧ some k_ ≠ (.slice Ao35 t892.length co35 : Value).ownBlock ∧ some k_ ≠ (.slice Ao37 t895.length co37 : Value).ownBlock ∧ some k_ ≠ (.slice Ao48 t905.length co48 : Value).ownBlock ∧ some k_ ≠ (.slice Ao49 t908.length co49 : Value).ownBlock ∧ some k_ ≠ (s_.2.1 : Value).ownBlock) s_.2.2.1 t925) ∧ (w'.heap[gb868]? = some (.cells #[.int .i64 a0_0, .int .i64 a0_1, .slice A0_2 l0_2.length c0_2, .slice A0_3 l0_3.length c0_3, .slice A0_4 l0_4.length c0_4] 27 (0, 0))) ∧ (w'.heap[gb869]? = some (.cells #[.int .i64 a1_0, .int .i64 a1_1, .int .i64 a1_2, .int .i64 a1_3, .int .i64 a1_4] 56 (0, 0))) ∧ (w'.heap[gb899]? = some (.cells #[.int .i64 t887, .int .i64 t888, .slice Ao33 t889.length co33, .slice Ao35 t892.length co35, .slice Ao37 t895.length co37] 35 (0, 0))) ∧ (w'.heap[gb911]? = some (.cells #[.int .i64 t900, .int .i64 t901, .slice Ao47 t902.length co47, .slice Ao48 t905.length co48, .slice Ao49 t908.length co49] 35 (0, 0))) ∧ (w'.heap[s_.2.2.2]? = some (.cells #[.int .i64 0, .int .i64 0, .slice none 0 0, .slice none 0 0, .slice none 0 0] 35 (0, 0))) ∧ (w.heap.size ≤ s_.2.2.2) ∧ (w.heap.size ≤ s_.2.2.2) ∧ (gb868 ≠ s_.2.2.2) ∧ (s_.2.2.2 ≠ gb868) ∧ (gb869 ≠ s_.2.2.2) ∧ (s_.2.2.2 ≠ gb869) ∧ (gb899 ≠ s_.2.2.2) ∧ (s_.2.2.2 ≠ gb899) ∧ (gb911 ≠ s_.2.2.2) ∧ (s_.2.2.2 ≠ gb911) ∧ (Below w.heap.size w w')) ?_ ?_
  rotate_left
  ·intro hCont
   refine two_ (i := 2) (j := 7) (Ni := some 34) (Nj := some 9) #[true, true, true, false, false, false, false, false, false, false] #[true, true, false, false, false, false, false, true, false, false] rfl rfl rfl rfl (two_of HT_.out (by kernel_rfl)) (by decide) (by decide) (fun K hK => ?_) (fun K hK => ?_)
   ·skip
    refine goes_ Try.func37 (by kernel_rfl) rfl #[.agg #[.int .i64 a1_0, .int .i64 a1_1, .int .i64 a1_2, .int .i64 a1_3, .int .i64 a1_4]] (by rfl) rfl rfl mq ?_
    with_reducible refine (laws_toSessionAct.calls a1_0 a1_1 a1_2 a1_3 a1_4 t912 t913 t914 t915 t916 _ A14.out).mono ?_
    rintro e w52 ⟨rfl, hb⟩
    refine ⟨_, rfl, ?_⟩
    replace HO875 := rb HO875 hb
    replace HO878 := rb HO878 hb
    replace HO881 := rb HO881 hb
    replace HO891 := rb HO891 hb
    replace HO894 := rb HO894 hb
    replace HO897 := rb HO897 hb
    replace HO904 := rb HO904 hb
    replace HO907 := rb HO907 hb
    replace HO910 := rb HO910 hb
    replace BK868 := zb BK868 hb
    replace BK869 := zb BK869 hb
    replace BK899 := zb BK899 hb
    replace BK911 := zb BK911 hb
    replace HB := sb hb
    (try clear hb)
    refine hK.out _ _ cl (fun hHeld => ?_)
    clear hK K
    refine norm_ (a' := ?_) ?_ ?_
    rotate_left
    ·show Act.put _ (some 34) _ = _
     simp only [Act.put, List.setIfInBounds_toArray, List.set_cons_zero, List.set_cons_succ, i64_w, i32_w]
     rfl
    refine two_ (i := 3) (j := 7) (Ni := some 35) (Nj := some 9) #[true, true, true, true, false, false, false, false, false, false] #[true, true, true, false, false, false, false, true, false, false] rfl rfl rfl rfl (two_of HT_.out (by kernel_rfl)) (by decide) (by decide) (fun K hK => ?_) (fun K hK => ?_)
    ·skip
     refine goes_ Try.func38 (by kernel_rfl) rfl #[.agg #[.int .i64 t900, .int .i64 t901, .slice Ao47 t902.length co47, .slice Ao48 t905.length co48, .slice Ao49 t908.length co49], .agg #[.int .i64 t912, .int .i64 t913, .int .i64 t914, .int .i64 t915, .int .i64 t916]] (by rfl) rfl rfl mq ?_
     with_reducible refine (impl_ActOnce.calls k t900 t901 _ _ t902 _ _ t905 _ _ t908 t912 t913 t914 t915 t916 t917 t918 t919 t922 t925 t928 _ ?s1 ?s2 ?s3 ?s4 ?s5 ?s6 A15.out).mono ?_
     (case s1 => exact cr HO904)
     (case s2 => exact rq1 HO904)
     (case s3 => exact cr HO907)
     (case s4 => exact rq1 HO907)
     (case s5 => exact cr HO910)
     (case s6 => exact rq1 HO910)
     rintro e w53 ⟨v920, v923, v926, rfl, ho0, ho1, ho2, hb⟩
     refine ⟨_, rfl, ?_⟩
     have HO921 := rl (Kd.R_new' (Kd.R_new' (Kd.R_new' ho0 (lw HO875)) (lw HO891)) (lw HO904))
     replace HO875 := am (Kd.R_elder' (rq HO875) (Kd.R_base ho0) hb)
     replace HO891 := am (Kd.R_elder' (rq HO891) (Kd.R_base ho0) hb)
     replace HO904 := am (Kd.R_elder' (rq HO904) (Kd.R_base ho0) hb)
     have HO924 := rl (Kd.R_new' (Kd.R_new' (Kd.R_new' (Kd.R_new' (Kd.R_new' (Kd.R_new' ho1 (lw HO878)) (lw HO881)) (lw HO894)) (lw HO897)) (lw HO907)) (lw HO910))
     have HO927 := rl (Kd.R_new' (Kd.R_new' (Kd.R_new' (Kd.R_new' (Kd.R_new' (Kd.R_new' ho2 (lw HO878)) (lw HO881)) (lw HO894)) (lw HO897)) (lw HO907)) (lw HO910))
     replace HO878 := tq2 (rq HO878) hb ho1 ho2
     replace HO881 := tq2 (rq HO881) hb ho1 ho2
     replace HO894 := tq2 (rq HO894) hb ho1 ho2
     replace HO897 := tq2 (rq HO897) hb ho1 ho2
     replace HO907 := tq2 (rq HO907) hb ho1 ho2
     replace HO910 := tq2 (rq HO910) hb ho1 ho2
     replace BK868 := zb BK868 hb
     replace BK869 := zb BK869 hb
     replace BK899 := zb BK899 hb
     replace BK911 := zb BK911 hb
     replace HB := sb hb
     (try clear hb ho0 ho1 ho2)
     refine hK.out _ _ cl (fun hHeld => ?_)
     clear hK K
     refine norm_ (a' := ?_) ?_ ?_
     rotate_left
     ·show Act.put _ (some 35) _ = _
      simp only [Act.put, List.setIfInBounds_toArray, List.set_cons_zero, List.set_cons_succ, i64_w, i32_w]
      rfl
     refine pure_ (i := 4) (N := some 31) (v := ?_) (a' := ?_) #[true, true, true, true, true, false, false, false, false, false] rfl rfl (any_of HT_.out (by kernel_rfl)) (fun _ _ _ h => h) (Or.inl ⟨by rfl, ?_⟩) ?_ ?_
     rotate_left
     ·intro w'
      go_simp
      with_reducible rfl
     rotate_left
     ·simp only [Act.put, List.setIfInBounds_toArray, List.set_cons_zero, List.set_cons_succ, i64_w, i32_w]
      rfl
     refine pure_ (i := 5) (N := some 36) (v := ?_) (a' := ?_) #[true, true, true, true, true, true, false, false, false, false] rfl rfl (any_of HT_.out (by kernel_rfl)) (fun _ _ _ h => h) (Or.inl ⟨by rfl, ?_⟩) ?_ ?_
     rotate_left
     ·intro w'
      go_simp
      with_reducible rfl
     rotate_left
     ·simp only [Act.put, List.setIfInBounds_toArray, List.set_cons_zero, List.set_cons_succ, i64_w, i32_w]
      rfl
     refine pure_ (i := 6) (N := some 37) (v := ?_) (a' := ?_) #[true, true, true, true, true, true, true, false, false, false] rfl rfl (any_of HT_.out (by kernel_rfl)) (fun _ _ _ h => h) (Or.inl ⟨by rfl, ?_⟩) ?_ ?_
     rotate_left
     ·intro w'
      go_simp
      with_reducible rfl
     rotate_left
     ·simp only [Act.put, List.setIfInBounds_toArray, List.set_cons_zero, List.set_cons_succ, i64_w, i32_w]
      rfl
     refine one_ (i := 7) (N := some 9) #[true, true, true, true, true, true, true, true, false, false] rfl rfl (one_of HT_.out (by kernel_rfl)) (by decide) (fun K hK => ?_)
     refine box_step ?hg (N := 9) ?hd (cs := #[.int .i64 0, .int .i64 0, .slice none 0 0, .slice none 0 0, .slice none 0 0]) (t := 35) ?hr ?_; (case hd => rfl); (case hg => rfl); (case hr => first | (go_simp; done) | (go_simp; rfl))
     intro gb929 hg w54 hbox hb
     replace HO875 := rb HO875 hb
     replace HO878 := rb HO878 hb
     replace HO881 := rb HO881 hb
     replace HO891 := rb HO891 hb
     replace HO894 := rb HO894 hb
     replace HO897 := rb HO897 hb
     replace HO904 := rb HO904 hb
     replace HO907 := rb HO907 hb
     replace HO910 := rb HO910 hb
     replace HO921 := rb HO921 hb
     replace HO924 := rb HO924 hb
     replace HO927 := rb HO927 hb
     have BK929 := am (hbox)
     have GW929 := am (gq hg)
     have GE929 := am (gq hg)
     replace HB := sb hb
     have NB868_929 := nl hg BK868
     have NB929_868 := ng hg BK868
     replace BK868 := zb BK868 hb
     have NB869_929 := nl hg BK869
     have NB929_869 := ng hg BK869
     replace BK869 := zb BK869 hb
     have NB899_929 := nl hg BK899
     have NB929_899 := ng hg BK899
     replace BK899 := zb BK899 hb
     have NB911_929 := nl hg BK911
     have NB929_911 := ng hg BK911
     replace BK911 := zb BK911 hb
     clear hb hbox hg
     refine hK.out _ _ cl (fun hHeld => ?_)
     clear hK K
     refine norm_ (a' := ?_) ?_ ?_
     rotate_left
     ·show Act.put _ (some 9) _ = _
      simp only [Act.put, List.setIfInBounds_toArray, List.set_cons_zero, List.set_cons_succ, i64_w, i32_w]
      rfl
     exact norm_ (by simp only [putAll, Act.put, List.setIfInBounds_toArray, List.set_cons_zero, List.set_cons_succ]) (hCont (v920, v923, v926, gb929) _ ⟨hHeld, (rm HO875), (rm HO878), (rm HO881), (rm HO891), (rm HO894), (rm HO897), (rm HO904), (rm HO907), (rm HO910), (rm HO921), (rm HO924), (rm HO927), (zq BK868), (zq BK869), (zq BK899), (zq BK911), (zq BK929), GW929.out, GE929.out, NB868_929.out, NB929_868.out, NB869_929.out, NB929_869.out, NB899_929.out, NB929_899.out, NB911_929.out, NB929_911.out, bq⟩)
    ·skip
     refine box_step ?hg (N := 9) ?hd (cs := #[.int .i64 0, .int .i64 0, .slice none 0 0, .slice none 0 0, .slice none 0 0]) (t := 35) ?hr ?_; (case hd => rfl); (case hg => rfl); (case hr => first | (go_simp; done) | (go_simp; rfl))
     intro gb929 hg w53 hbox hb
     replace HO875 := rb HO875 hb
     replace HO878 := rb HO878 hb
     replace HO881 := rb HO881 hb
     replace HO891 := rb HO891 hb
     replace HO894 := rb HO894 hb
     replace HO897 := rb HO897 hb
     replace HO904 := rb HO904 hb
     replace HO907 := rb HO907 hb
     replace HO910 := rb HO910 hb
     have BK929 := am (hbox)
     have GW929 := am (gq hg)
     have GE929 := am (gq hg)
     replace HB := sb hb
     have NB868_929 := nl hg BK868
     have NB929_868 := ng hg BK868
     replace BK868 := zb BK868 hb
     have NB869_929 := nl hg BK869
     have NB929_869 := ng hg BK869
     replace BK869 := zb BK869 hb
     have NB899_929 := nl hg BK899
     have NB929_899 := ng hg BK899
     replace BK899 := zb BK899 hb
     have NB911_929 := nl hg BK911
     have NB929_911 := ng hg BK911
     replace BK911 := zb BK911 hb
     clear hb hbox hg
     refine hK.out _ _ cl (fun hHeld => ?_)
     clear hK K
     refine norm_ (a' := ?_) ?_ ?_
     rotate_left
     ·show Act.put _ (some 9) _ = _
      simp only [Act.put, List.setIfInBounds_toArray, List.set_cons_zero, List.set_cons_succ, i64_w, i32_w]
      rfl
     refine one_ (i := 3) (N := some 35) #[true, true, true, true, false, false, false, true, false, false] rfl rfl (one_of HT_.out (by kernel_rfl)) (by decide) (fun K hK => ?_)
     refine goes_ Try.func38 (by kernel_rfl) rfl #[.agg #[.int .i64 t900, .int .i64 t901, .slice Ao47 t902.length co47, .slice Ao48 t905.length co48, .slice Ao49 t908.length co49], .agg #[.int .i64 t912, .int .i64 t913, .int .i64 t914, .int .i64 t915, .int .i64 t916]] (by rfl) rfl rfl mq ?_
     with_reducible refine (impl_ActOnce.calls k t900 t901 _ _ t902 _ _ t905 _ _ t908 t912 t913 t914 t915 t916 t917 t918 t919 t922 t925 t928 _ ?s1 ?s2 ?s3 ?s4 ?s5 ?s6 A15.out).mono ?_
     (case s1 => exact cr HO904)
     (case s2 => exact rq1 HO904)
     (case s3 => exact cr HO907)
     (case s4 => exact rq1 HO907)
     (case s5 => exact cr HO910)
     (case s6 => exact rq1 HO910)
     rintro e w54 ⟨v920, v923, v926, rfl, ho0, ho1, ho2, hb⟩
     refine ⟨_, rfl, ?_⟩
     have HO921 := rl (Kd.R_new' (Kd.R_new' (Kd.R_new' ho0 (lw HO875)) (lw HO891)) (lw HO904))
     replace HO875 := am (Kd.R_elder' (rq HO875) (Kd.R_base ho0) hb)
     replace HO891 := am (Kd.R_elder' (rq HO891) (Kd.R_base ho0) hb)
     replace HO904 := am (Kd.R_elder' (rq HO904) (Kd.R_base ho0) hb)
     have HO924 := rl (Kd.R_new' (Kd.R_new' (Kd.R_new' (Kd.R_new' (Kd.R_new' (Kd.R_new' ho1 (lw HO878)) (lw HO881)) (lw HO894)) (lw HO897)) (lw HO907)) (lw HO910))
     have HO927 := rl (Kd.R_new' (Kd.R_new' (Kd.R_new' (Kd.R_new' (Kd.R_new' (Kd.R_new' ho2 (lw HO878)) (lw HO881)) (lw HO894)) (lw HO897)) (lw HO907)) (lw HO910))
     replace HO878 := tq2 (rq HO878) hb ho1 ho2
     replace HO881 := tq2 (rq HO881) hb ho1 ho2
     replace HO894 := tq2 (rq HO894) hb ho1 ho2
     replace HO897 := tq2 (rq HO897) hb ho1 ho2
     replace HO907 := tq2 (rq HO907) hb ho1 ho2
     replace HO910 := tq2 (rq HO910) hb ho1 ho2
     replace BK868 := zb BK868 hb
     replace BK869 := zb BK869 hb
     replace BK899 := zb BK899 hb
     replace BK911 := zb BK911 hb
     replace BK929 := zb BK929 hb
     replace HB := sb hb
     (try clear hb ho0 ho1 ho2)
     refine hK.out _ _ cl (fun hHeld => ?_)
     clear hK K
     refine norm_ (a' := ?_) ?_ ?_
     rotate_left
     ·show Act.put _ (some 35) _ = _
      simp only [Act.put, List.setIfInBounds_toArray, List.set_cons_zero, List.set_cons_succ, i64_w, i32_w]
      rfl
     refine pure_ (i := 4) (N := some 31) (v := ?_) (a' := ?_) #[true, true, true, true, true, false, false, true, false, false] rfl rfl (any_of HT_.out (by kernel_rfl)) (fun _ _ _ h => h) (Or.inl ⟨by rfl, ?_⟩) ?_ ?_
     rotate_left
     ·intro w'
      go_simp
      with_reducible rfl
     rotate_left
     ·simp only [Act.put, List.setIfInBounds_toArray, List.set_cons_zero, List.set_cons_succ, i64_w, i32_w]
      rfl
     refine pure_ (i := 5) (N := some 36) (v := ?_) (a' := ?_) #[true, true, true, true, true, true, false, true, false, false] rfl rfl (any_of HT_.out (by kernel_rfl)) (fun _ _ _ h => h) (Or.inl ⟨by rfl, ?_⟩) ?_ ?_
     rotate_left
     ·intro w'
      go_simp
      with_reducible rfl
     rotate_left
     ·simp only [Act.put, List.setIfInBounds_toArray, List.set_cons_zero, List.set_cons_succ, i64_w, i32_w]
      rfl
     refine pure_ (i := 6) (N := some 37) (v := ?_) (a' := ?_) #[true, true, true, true, true, true, true, true, false, false] rfl rfl (any_of HT_.out (by kernel_rfl)) (fun _ _ _ h => h) (Or.inl ⟨by rfl, ?_⟩) ?_ ?_
     rotate_left
     ·intro w'
      go_simp
      with_reducible rfl
     rotate_left
     ·simp only [Act.put, List.setIfInBounds_toArray, List.set_cons_zero, List.set_cons_succ, i64_w, i32_w]
      rfl
     exact norm_ (by simp only [putAll, Act.put, List.setIfInBounds_toArray, List.set_cons_zero, List.set_cons_succ]) (hCont (v920, v923, v926, gb929) _ ⟨hHeld, (rm HO875), (rm HO878), (rm HO881), (rm HO891), (rm HO894), (rm HO897), (rm HO904), (rm HO907), (rm HO910), (rm HO921), (rm HO924), (rm HO927), (zq BK868), (zq BK869), (zq BK899), (zq BK911), (zq BK929), GW929.out, GE929.out, NB868_929.out, NB929_868.out, NB869_929.out, NB929_869.out, NB899_929.out, NB929_899.out, NB911_929.out, NB929_911.out, bq⟩)
   ·skip
    refine box_step ?hg (N := 9) ?hd (cs := #[.int .i64 0, .int .i64 0, .slice none 0 0, .slice none 0 0, .slice none 0 0]) (t := 35) ?hr ?_; (case hd => rfl); (case hg => rfl); (case hr => first | (go_simp; done) | (go_simp; rfl))
    intro gb929 hg w52 hbox hb
    replace HO875 := rb HO875 hb
    replace HO878 := rb HO878 hb
    replace HO881 := rb HO881 hb
    replace HO891 := rb HO891 hb
    replace HO894 := rb HO894 hb
    replace HO897 := rb HO897 hb
    replace HO904 := rb HO904 hb
    replace HO907 := rb HO907 hb
    replace HO910 := rb HO910 hb
    have BK929 := am (hbox)
    have GW929 := am (gq hg)
    have GE929 := am (gq hg)
    replace HB := sb hb
    have NB868_929 := nl hg BK868
    have NB929_868 := ng hg BK868
    replace BK868 := zb BK868 hb
    have NB869_929 := nl hg BK869
    have NB929_869 := ng hg BK869
    replace BK869 := zb BK869 hb
    have NB899_929 := nl hg BK899
    have NB929_899 := ng hg BK899
    replace BK899 := zb BK899 hb
    have NB911_929 := nl hg BK911
    have NB929_911 := ng hg BK911
    replace BK911 := zb BK911 hb
    clear hb hbox hg
    refine hK.out _ _ cl (fun hHeld => ?_)
    clear hK K
    refine norm_ (a' := ?_) ?_ ?_
    rotate_left
    ·show Act.put _ (some 9) _ = _
     simp only [Act.put, List.setIfInBounds_toArray, List.set_cons_zero, List.set_cons_succ, i64_w, i32_w]
     rfl
    refine one_ (i := 2) (N := some 34) #[true, true, true, false, false, false, false, true, false, false] rfl rfl (one_of HT_.out (by kernel_rfl)) (by decide) (fun K hK => ?_)
    refine goes_ Try.func37 (by kernel_rfl) rfl #[.agg #[.int .i64 a1_0, .int .i64 a1_1, .int .i64 a1_2, .int .i64 a1_3, .int .i64 a1_4]] (by rfl) rfl rfl mq ?_
    with_reducible refine (laws_toSessionAct.calls a1_0 a1_1 a1_2 a1_3 a1_4 t912 t913 t914 t915 t916 _ A14.out).mono ?_
    rintro e w53 ⟨rfl, hb⟩
    refine ⟨_, rfl, ?_⟩
    replace HO875 := rb HO875 hb
    replace HO878 := rb HO878 hb
    replace HO881 := rb HO881 hb
    replace HO891 := rb HO891 hb
    replace HO894 := rb HO894 hb
    replace HO897 := rb HO897 hb
    replace HO904 := rb HO904 hb
    replace HO907 := rb HO907 hb
    replace HO910 := rb HO910 hb
    replace BK868 := zb BK868 hb
    replace BK869 := zb BK869 hb
    replace BK899 := zb BK899 hb
    replace BK911 := zb BK911 hb
    replace BK929 := zb BK929 hb
    replace HB := sb hb
    (try clear hb)
    refine hK.out _ _ cl (fun hHeld => ?_)
    clear hK K
    refine norm_ (a' := ?_) ?_ ?_
    rotate_left
    ·show Act.put _ (some 34) _ = _
     simp only [Act.put, List.setIfInBounds_toArray, List.set_cons_zero, List.set_cons_succ, i64_w, i32_w]
     rfl
    refine one_ (i := 3) (N := some 35) #[true, true, true, true, false, false, false, true, false, false] rfl rfl (one_of HT_.out (by kernel_rfl)) (by decide) (fun K hK => ?_)
    refine goes_ Try.func38 (by kernel_rfl) rfl #[.agg #[.int .i64 t900, .int .i64 t901, .slice Ao47 t902.length co47, .slice Ao48 t905.length co48, .slice Ao49 t908.length co49], .agg #[.int .i64 t912, .int .i64 t913, .int .i64 t914, .int .i64 t915, .int .i64 t916]] (by rfl) rfl rfl mq ?_
    with_reducible refine (impl_ActOnce.calls k t900 t901 _ _ t902 _ _ t905 _ _ t908 t912 t913 t914 t915 t916 t917 t918 t919 t922 t925 t928 _ ?s1 ?s2 ?s3 ?s4 ?s5 ?s6 A15.out).mono ?_
    (case s1 => exact cr HO904)
    (case s2 => exact rq1 HO904)
    (case s3 => exact cr HO907)
    (case s4 => exact rq1 HO907)
    (case s5 => exact cr HO910)
    (case s6 => exact rq1 HO910)
    rintro e w54 ⟨v920, v923, v926, rfl, ho0, ho1, ho2, hb⟩
    refine ⟨_, rfl, ?_⟩
    have HO921 := rl (Kd.R_new' (Kd.R_new' (Kd.R_new' ho0 (lw HO875)) (lw HO891)) (lw HO904))
    replace HO875 := am (Kd.R_elder' (rq HO875) (Kd.R_base ho0) hb)
    replace HO891 := am (Kd.R_elder' (rq HO891) (Kd.R_base ho0) hb)
    replace HO904 := am (Kd.R_elder' (rq HO904) (Kd.R_base ho0) hb)
    have HO924 := rl (Kd.R_new' (Kd.R_new' (Kd.R_new' (Kd.R_new' (Kd.R_new' (Kd.R_new' ho1 (lw HO878)) (lw HO881)) (lw HO894)) (lw HO897)) (lw HO907)) (lw HO910))
    have HO927 := rl (Kd.R_new' (Kd.R_new' (Kd.R_new' (Kd.R_new' (Kd.R_new' (Kd.R_new' ho2 (lw HO878)) (lw HO881)) (lw HO894)) (lw HO897)) (lw HO907)) (lw HO910))
    replace HO878 := tq2 (rq HO878) hb ho1 ho2
    replace HO881 := tq2 (rq HO881) hb ho1 ho2
    replace HO894 := tq2 (rq HO894) hb ho1 ho2
    replace HO897 := tq2 (rq HO897) hb ho1 ho2
    replace HO907 := tq2 (rq HO907) hb ho1 ho2
    replace HO910 := tq2 (rq HO910) hb ho1 ho2
    replace BK868 := zb BK868 hb
    replace BK869 := zb BK869 hb
    replace BK899 := zb BK899 hb
    replace BK911 := zb BK911 hb
    replace BK929 := zb BK929 hb
    replace HB := sb hb
    (try clear hb ho0 ho1 ho2)
    refine hK.out _ _ cl (fun hHeld => ?_)
    clear hK K
    refine norm_ (a' := ?_) ?_ ?_
    rotate_left
    ·show Act.put _ (some 35) _ = _
     simp only [Act.put, List.setIfInBounds_toArray, List.set_cons_zero, List.set_cons_succ, i64_w, i32_w]
     rfl
    refine pure_ (i := 4) (N := some 31) (v := ?_) (a' := ?_) #[true, true, true, true, true, false, false, true, false, false] rfl rfl (any_of HT_.out (by kernel_rfl)) (fun _ _ _ h => h) (Or.inl ⟨by rfl, ?_⟩) ?_ ?_
    rotate_left
    ·intro w'
     go_simp
     with_reducible rfl
    rotate_left
    ·simp only [Act.put, List.setIfInBounds_toArray, List.set_cons_zero, List.set_cons_succ, i64_w, i32_w]
     rfl
    refine pure_ (i := 5) (N := some 36) (v := ?_) (a' := ?_) #[true, true, true, true, true, true, false, true, false, false] rfl rfl (any_of HT_.out (by kernel_rfl)) (fun _ _ _ h => h) (Or.inl ⟨by rfl, ?_⟩) ?_ ?_
    rotate_left
    ·intro w'
     go_simp
     with_reducible rfl
    rotate_left
    ·simp only [Act.put, List.setIfInBounds_toArray, List.set_cons_zero, List.set_cons_succ, i64_w, i32_w]
     rfl
    refine pure_ (i := 6) (N := some 37) (v := ?_) (a' := ?_) #[true, true, true, true, true, true, true, true, false, false] rfl rfl (any_of HT_.out (by kernel_rfl)) (fun _ _ _ h => h) (Or.inl ⟨by rfl, ?_⟩) ?_ ?_
    rotate_left
    ·intro w'
     go_simp
     with_reducible rfl
    rotate_left
    ·simp only [Act.put, List.setIfInBounds_toArray, List.set_cons_zero, List.set_cons_succ, i64_w, i32_w]
     rfl
    exact norm_ (by simp only [putAll, Act.put, List.setIfInBounds_toArray, List.set_cons_zero, List.set_cons_succ]) (hCont (v920, v923, v926, gb929) _ ⟨hHeld, (rm HO875), (rm HO878), (rm HO881), (rm HO891), (rm HO894), (rm HO897), (rm HO904), (rm HO907), (rm HO910), (rm HO921), (rm HO924), (rm HO927), (zq BK868), (zq BK869), (zq BK899), (zq BK911), (zq BK929), GW929.out, GE929.out, NB868_929.out, NB929_868.out, NB869_929.out, NB929_869.out, NB899_929.out, NB929_899.out, NB911_929.out, NB929_911.out, bq⟩)
  rintro ⟨v920, v923, v926, gb929⟩ w55 ⟨hS_, h0_, h1_, h2_, h3_, h4_, h5_, h6_, h7_, h8_, h9_, h10_, h11_, h12_, h13_, h14_, h15_, h16_, h17_, h18_, h19_, h20_, h21_, h22_, h23_, h24_, h25_, h26_, h27_⟩
  have n0_ : Aside0 (Kd.R k58 58 w55 w.heap.size (fun k_ => some k_ ≠ (.slice Ao33 t889.length co33 : Value).ownBlock ∧ some k_ ≠ (.slice Ao47 t902.length co47 : Value).ownBlock ∧ some k_ ≠ (v920 : Value).ownBlock) v874 t873) := ⟨h0_⟩
  have n1_ : Aside0 (Kd.R k60 60 w55 w.heap.size (fun k_ => some k_ ≠ (v880 : Value).ownBlock ∧ some k_ ≠ (.slice Ao35 t892.length co35 : Value).ownBlock ∧ some k_ ≠ (.slice Ao37 t895.length co37 : Value).ownBlock ∧ some k_ ≠ (.slice Ao48 t905.length co48 : Value).ownBlock ∧ some k_ ≠ (.slice Ao49 t908.length co49 : Value).ownBlock ∧ some k_ ≠ (v923 : Value).ownBlock ∧ some k_ ≠ (v926 : Value).ownBlock) v877 t876) := ⟨h1_⟩
  have n2_ : Aside0 (Kd.R k60 60 w55 w.heap.size (fun k_ => some k_ ≠ (v877 : Value).ownBlock ∧ some k_ ≠ (.slice Ao35 t892.length co35 : Value).ownBlock ∧ some k_ ≠ (.slice Ao37 t895.length co37 : Value).ownBlock ∧ some k_ ≠ (.slice Ao48 t905.length co48 : Value).ownBlock ∧ some k_ ≠ (.slice Ao49 t908.length co49 : Value).ownBlock ∧ some k_ ≠ (v923 : Value).ownBlock ∧ some k_ ≠ (v926 : Value).ownBlock) v880 t879) := ⟨h2_⟩
  have n3_ : Aside0 (Kd.R k58 58 w55 w.heap.size (fun k_ => some k_ ≠ (v874 : Value).ownBlock ∧ some k_ ≠ (.slice Ao47 t902.length co47 : Value).ownBlock ∧ some k_ ≠ (v920 : Value).ownBlock) (.slice Ao33 t889.length co33) t889) := ⟨h3_⟩
  have n4_ : Aside0 (Kd.R k60 60 w55 w.heap.size (fun k_ => some k_ ≠ (v877 : Value).ownBlock ∧ some k_ ≠ (v880 : Value).ownBlock ∧ some k_ ≠ (.slice Ao37 t895.length co37 : Value).ownBlock ∧ some k_ ≠ (.slice Ao48 t905.length co48 : Value).ownBlock ∧ some k_ ≠ (.slice Ao49 t908.length co49 : Value).ownBlock ∧ some k_ ≠ (v923 : Value).ownBlock ∧ some k_ ≠ (v926 : Value).ownBlock) (.slice Ao35 t892.length co35) t892) := ⟨h4_⟩
  have n5_ : Aside0 (Kd.R k60 60 w55 w.heap.size (fun k_ => some k_ ≠ (v877 : Value).ownBlock ∧ some k_ ≠ (v880 : Value).ownBlock ∧ some k_ ≠ (.slice Ao35 t892.length co35 : Value).ownBlock ∧ some k_ ≠ (.slice Ao48 t905.length co48 : Value).ownBlock ∧ some k_ ≠ (.slice Ao49 t908.length co49 : Value).ownBlock ∧ some k_ ≠ (v923 : Value).ownBlock ∧ some k_ ≠ (v926 : Value).ownBlock) (.slice Ao37 t895.length co37) t895) := ⟨h5_⟩
  have n6_ : Aside0 (Kd.R k58 58 w55 w.heap.size (fun k_ => some k_ ≠ (v874 : Value).ownBlock ∧ some k_ ≠ (.slice Ao33 t889.length co33 : Value).ownBlock ∧ some k_ ≠ (v920 : Value).ownBlock) (.slice Ao47 t902.length co47) t902) := ⟨h6_⟩
  have n7_ : Aside0 (Kd.R k60 60 w55 w.heap.size (fun k_ => some k_ ≠ (v877 : Value).ownBlock ∧ some k_ ≠ (v880 : Value).ownBlock ∧ some k_ ≠ (.slice Ao35 t892.length co35 : Value).ownBlock ∧ some k_ ≠ (.slice Ao37 t895.length co37 : Value).ownBlock ∧ some k_ ≠ (.slice Ao49 t908.length co49 : Value).ownBlock ∧ some k_ ≠ (v923 : Value).ownBlock ∧ some k_ ≠ (v926 : Value).ownBlock) (.slice Ao48 t905.length co48) t905) := ⟨h7_⟩
  have n8_ : Aside0 (Kd.R k60 60 w55 w.heap.size (fun k_ => some k_ ≠ (v877 : Value).ownBlock ∧ some k_ ≠ (v880 : Value).ownBlock ∧ some k_ ≠ (.slice Ao35 t892.length co35 : Value).ownBlock ∧ some k_ ≠ (.slice Ao37 t895.length co37 : Value).ownBlock ∧ some k_ ≠ (.slice Ao48 t905.length co48 : Value).ownBlock ∧ some k_ ≠ (v923 : Value).ownBlock ∧ some k_ ≠ (v926 : Value).ownBlock) (.slice Ao49 t908.length co49) t908) := ⟨h8_⟩
  have n9_ : Aside0 (Kd.R k58 58 w55 w.heap.size (fun k_ => some k_ ≠ (v874 : Value).ownBlock ∧ some k_ ≠ (.slice Ao33 t889.length co33 : Value).ownBlock ∧ some k_ ≠ (.slice Ao47 t902.length co47 : Value).ownBlock) v920 t919) := ⟨h9_⟩
  have n10_ : Aside0 (Kd.R k60 60 w55 w.heap.size (fun k_ => some k_ ≠ (v877 : Value).ownBlock ∧ some k_ ≠ (v880 : Value).ownBlock ∧ some k_ ≠ (.slice Ao35 t892.length co35 : Value).ownBlock ∧ some k_ ≠ (.slice Ao37 t895.length co37 : Value).ownBlock ∧ some k_ ≠ (.slice Ao48 t905.length co48 : Value).ownBlock ∧ some k_ ≠ (.slice Ao49 t908.length co49 : Value).ownBlock ∧ some k_ ≠ (v926 : Value).ownBlock) v923 t922) := ⟨h10_⟩
  have n11_ : Aside0 (Kd.R k60 60 w55 w.heap.size (fun k_ => some k_ ≠ (v877 : Value).ownBlock ∧ some k_ ≠ (v880 : Value).ownBlock ∧ some k_ ≠ (.slice Ao35 t892.length co35 : Value).ownBlock ∧ some k_ ≠ (.slice Ao37 t895.length co37 : Value).ownBlock ∧ some k_ ≠ (.slice Ao48 t905.length co48 : Value).ownBlock ∧ some k_ ≠ (.slice Ao49 t908.length co49 : Value).ownBlock ∧ some k_ ≠ (v923 : Value).ownBlock) v926 t925) := ⟨h11_⟩
  have n12_ : Aside0 (w55.heap[gb868]? = some (.cells #[.int .i64 a0_0, .int .i64 a0_1, .slice A0_2 l0_2.length c0_2, .slice A0_3 l0_3.length c0_3, .slice A0_4 l0_4.length c0_4] 27 (0, 0))) := ⟨h12_⟩
  have n13_ : Aside0 (w55.heap[gb869]? = some (.cells #[.int .i64 a1_0, .int .i64 a1_1, .int .i64 a1_2, .int .i64 a1_3, .int .i64 a1_4] 56 (0, 0))) := ⟨h13_⟩
  have n14_ : Aside0 (w55.heap[gb899]? = some (.cells #[.int .i64 t887, .int .i64 t888, .slice Ao33 t889.length co33, .slice Ao35 t892.length co35, .slice Ao37 t895.length co37] 35 (0, 0))) := ⟨h14_⟩
  have n15_ : Aside0 (w55.heap[gb911]? = some (.cells #[.int .i64 t900, .int .i64 t901, .slice Ao47 t902.length co47, .slice Ao48 t905.length co48, .slice Ao49 t908.length co49] 35 (0, 0))) := ⟨h15_⟩
  have n16_ : Aside0 (w55.heap[gb929]? = some (.cells #[.int .i64 0, .int .i64 0, .slice none 0 0, .slice none 0 0, .slice none 0 0] 35 (0, 0))) := ⟨h16_⟩
  have n17_ : Aside0 (w.heap.size ≤ gb929) := ⟨h17_⟩
  have n18_ : Aside0 (w.heap.size ≤ gb929) := ⟨h18_⟩
  have n19_ : Aside0 (gb868 ≠ gb929) := ⟨h19_⟩
  have n20_ : Aside0 (gb929 ≠ gb868) := ⟨h20_⟩
  have n21_ : Aside0 (gb869 ≠ gb929) := ⟨h21_⟩
  have n22_ : Aside0 (gb929 ≠ gb869) := ⟨h22_⟩
  have n23_ : Aside0 (gb899 ≠ gb929) := ⟨h23_⟩
  have n24_ : Aside0 (gb929 ≠ gb899) := ⟨h24_⟩
  have n25_ : Aside0 (gb911 ≠ gb929) := ⟨h25_⟩
  have n26_ : Aside0 (gb929 ≠ gb911) := ⟨h26_⟩
  have n27_ : Aside0 (Below w.heap.size w w55) := ⟨h27_⟩
  clear HO875 HO878 HO881 HO891 HO894 HO897 HO904 HO907 HO910 BK868 BK869 BK899 BK911 HB h0_ h1_ h2_ h3_ h4_ h5_ h6_ h7_ h8_ h9_ h10_ h11_ h12_ h13_ h14_ h15_ h16_ h17_ h18_ h19_ h20_ h21_ h22_ h23_ h24_ h25_ h26_ h27_
  have HO891 := n3_
  have HO894 := n4_
  have HO897 := n5_
  have HO904 := n6_
  have HO907 := n7_
  have HO910 := n8_
  have HO921 := n9_
  have HO924 := n10_
  have HO927 := n11_
  have BK868 := n12_
  have BK869 := n13_
  have BK899 := n14_
  have BK911 := n15_
  have BK929 := n16_
  have GW929 := n17_
  have GE929 := n18_
  have NB868_929 := n19_
  have NB929_868 := n20_
  have NB869_929 := n21_
  have NB929_869 := n22_
  have NB899_929 := n23_
  have NB929_899 := n24_
  have NB911_929 := n25_
  have NB929_911 := n26_
  have HB := n27_
  clear n0_ n1_ n2_ n3_ n4_ n5_ n6_ n7_ n8_ n9_ n10_ n11_ n12_ n13_ n14_ n15_ n16_ n17_ n18_ n19_ n20_ n21_ n22_ n23_ n24_ n25_ n26_ n27_
  have hHeld : w55.cell? ⟨gb911, 0, none⟩ = some (.int .i64 t900) ∧ w55.cell? ⟨gb911, 1, none⟩ = some (.int .i64 t901) ∧ w55.cell? ⟨gb911, 2, none⟩ = some (.slice Ao47 t902.length co47) ∧ w55.cell? ⟨gb911, 3, none⟩ = some (.slice Ao48 t905.length co48) ∧ w55.cell? ⟨gb911, 4, none⟩ = some (.slice Ao49 t908.length co49) ∧ w55.cell? ⟨gb869, 0, none⟩ = some (.int .i64 a1_0) ∧ w55.cell? ⟨gb869, 1, none⟩ = some (.int .i64 a1_1) ∧ w55.cell? ⟨gb869, 2, none⟩ = some (.int .i64 a1_2) ∧ w55.cell? ⟨gb869, 3, none⟩ = some (.int .i64 a1_3) ∧ w55.cell? ⟨gb869, 4, none⟩ = some (.int .i64 a1_4) := hS_
  obtain ⟨Ao58, co58, eo58⟩ := Kd.R_slice HO921.out
  (first | subst eo58 | (injection eo58 with f1_ f2_ f3_; have f4_ := f1_.symm; have f5_ := f3_.symm; clear f1_ f2_ f3_; subst f4_; subst f5_))
  obtain ⟨Ao60, co60, eo60⟩ := Kd.R_slice HO924.out
  (first | subst eo60 | (injection eo60 with f1_ f2_ f3_; have f4_ := f1_.symm; have f5_ := f3_.symm; clear f1_ f2_ f3_; subst f4_; subst f5_))
  obtain ⟨Ao62, co62, eo62⟩ := Kd.R_slice HO927.out
  (first | subst eo62 | (injection eo62 with f1_ f2_ f3_; have f4_ := f1_.symm; have f5_ := f3_.symm; clear f1_ f2_ f3_; subst f4_; subst f5_))
  refine norm_ (a' := ?_) ?_ ?_
  rotate_left
  ·simp only [putAll, Act.put, List.setIfInBounds_toArray, List.set_cons_zero, List.set_cons_succ]
   rfl
  refine one_ (i := 8) (N := none) #[true, true, true, true, true, true, true, true, true, false] rfl rfl (one_of HT_.out (by kernel_rfl)) (by decide) (fun K hK => ?_)
  have hs56 : w55.cell? ⟨gb929, 0, none⟩ = some (.int .i64 0) := (blk_cell BK929.out 0).trans rfl
  have hfs56 := blk_frozen BK929.out 0
  have hns56_0 := NB868_929.out
  have hns56_1 := NB869_929.out
  have hns56_2 := NB899_929.out
  have hns56_3 := NB911_929.out
  have hms56_0 := NB929_868.out
  have hms56_1 := NB929_869.out
  have hms56_2 := NB929_899.out
  have hms56_3 := NB929_911.out
  have hs57 : w55.cell? ⟨gb929, 1, none⟩ = some (.int .i64 0) := (blk_cell BK929.out 1).trans rfl
  have hfs57 := blk_frozen BK929.out 1
  have hns57_0 := NB868_929.out
  have hns57_1 := NB869_929.out
  have hns57_2 := NB899_929.out
  have hns57_3 := NB911_929.out
  have hms57_0 := NB929_868.out
  have hms57_1 := NB929_869.out
  have hms57_2 := NB929_899.out
  have hms57_3 := NB929_911.out
  have hs59 : w55.cell? ⟨gb929, 2, none⟩ = some (.slice none 0 0) := (blk_cell BK929.out 2).trans rfl
  have hfs59 := blk_frozen BK929.out 2
  have hns59_0 := NB868_929.out
  have hns59_1 := NB869_929.out
  have hns59_2 := NB899_929.out
  have hns59_3 := NB911_929.out
  have hms59_0 := NB929_868.out
  have hms59_1 := NB929_869.out
  have hms59_2 := NB929_899.out
  have hms59_3 := NB929_911.out
  have hs61 : w55.cell? ⟨gb929, 3, none⟩ = some (.slice none 0 0) := (blk_cell BK929.out 3).trans rfl
  have hfs61 := blk_frozen BK929.out 3
  have hns61_0 := NB868_929.out
  have hns61_1 := NB869_929.out
  have hns61_2 := NB899_929.out
  have hns61_3 := NB911_929.out
  have hms61_0 := NB929_868.out
  have hms61_1 := NB929_869.out
  have hms61_2 := NB929_899.out
  have hms61_3 := NB929_911.out
  have hs63 : w55.cell? ⟨gb929, 4, none⟩ = some (.slice none 0 0) := (blk_cell BK929.out 4).trans rfl
  have hfs63 := blk_frozen BK929.out 4
  have hns63_0 := NB868_929.out
  have hns63_1 := NB869_929.out
  have hns63_2 := NB899_929.out
  have hns63_3 := NB911_929.out
  have hms63_0 := NB929_868.out
  have hms63_1 := NB929_869.out
  have hms63_2 := NB929_899.out
  have hms63_3 := NB929_911.out
  refine skip_ (w1 := ?_) (by rfl) rfl ?_ ?_
  rotate_left
  ·go_simp
   rfl
  refine hK.out _ _ (chf hHeld) (fun hHeld => ?_)
  clear hK K
  refine pure_ (i := 9) (N := some 10) (v := ?_) (a' := ?_) #[true, true, true, true, true, true, true, true, true, true] rfl rfl (any_of HT_.out (by kernel_rfl)) (fun _ _ _ h => h) (Or.inl ⟨by rfl, ?_⟩) ?_ ?_
  rotate_left
  ·intro w'
   go_simp
   with_reducible rfl
  rotate_left
  ·simp only [Act.put, List.setIfInBounds_toArray, List.set_cons_zero, List.set_cons_succ, i64_w, i32_w]
   rfl
  refine done_ (done_of HT_.out (by kernel_rfl)) ?_
  go_upto_region 8 with (fail)
  go_cut [46] (fun v46 wc => ∃ (kq : Nat) (x46_15 : Bool), v46 = .bool x46_15 ∧ Aside0 (laws_FnExactActOnce.j0 kq t898 t928 x46_15 a0_0 a0_1 l0_2 l0_3 l0_4 a1_0 a1_1 a1_2 a1_3 a1_4 t887 t888 t889 t892 t895 t900 t901 t902 t905 t908 t917 t918 t919 t922 t925 = some r) ∧ Aside0 (kq ≤ k) ∧ Aside0 (Kd.R k58 58 wc w.heap.size (fun k_ => some k_ ≠ ((.slice Ao47 t902.length co47) : Value).ownBlock ∧ some k_ ≠ ((.slice Ao58 t919.length co58) : Value).ownBlock) (.slice Ao33 t889.length co33) t889) ∧ Aside0 (Kd.R k60 60 wc w.heap.size (fun k_ => some k_ ≠ ((.slice Ao37 t895.length co37) : Value).ownBlock ∧ some k_ ≠ ((.slice Ao48 t905.length co48) : Value).ownBlock ∧ some k_ ≠ ((.slice Ao49 t908.length co49) : Value).ownBlock ∧ some k_ ≠ ((.slice Ao60 t922.length co60) : Value).ownBlock ∧ some k_ ≠ ((.slice Ao62 t925.length co62) : Value).ownBlock) (.slice Ao35 t892.length co35) t892) ∧ Aside0 (Kd.R k60 60 wc w.heap.size (fun k_ => some k_ ≠ ((.slice Ao35 t892.length co35) : Value).ownBlock ∧ some k_ ≠ ((.slice Ao48 t905.length co48) : Value).ownBlock ∧ some k_ ≠ ((.slice Ao49 t908.length co49) : Value).ownBlock ∧ some k_ ≠ ((.slice Ao60 t922.length co60) : Value).ownBlock ∧ some k_ ≠ ((.slice Ao62 t925.length co62) : Value).ownBlock) (.slice Ao37 t895.length co37) t895) ∧ Aside0 (Kd.R k58 58 wc w.heap.size (fun k_ => some k_ ≠ ((.slice Ao33 t889.length co33) : Value).ownBlock ∧ some k_ ≠ ((.slice Ao58 t919.length co58) : Value).ownBlock) (.slice Ao47 t902.length co47) t902) ∧ Aside0 (Kd.R k60 60 wc w.heap.size (fun k_ => some k_ ≠ ((.slice Ao35 t892.length co35) : Value).ownBlock ∧ some k_ ≠ ((.slice Ao37 t895.length co37) : Value).ownBlock ∧ some k_ ≠ ((.slice Ao49 t908.length co49) : Value).ownBlock ∧ some k_ ≠ ((.slice Ao60 t922.length co60) : Value).ownBlock ∧ some k_ ≠ ((.slice Ao62 t925.length co62) : Value).ownBlock) (.slice Ao48 t905.length co48) t905) ∧ Aside0 (Kd.R k60 60 wc w.heap.size (fun k_ => some k_ ≠ ((.slice Ao35 t892.length co35) : Value).ownBlock ∧ some k_ ≠ ((.slice Ao37 t895.length co37) : Value).ownBlock ∧ some k_ ≠ ((.slice Ao48 t905.length co48) : Value).ownBlock ∧ some k_ ≠ ((.slice Ao60 t922.length co60) : Value).ownBlock ∧ some k_ ≠ ((.slice Ao62 t925.length co62) : Value).ownBlock) (.slice Ao49 t908.length co49) t908) ∧ Aside0 (Kd.R k58 58 wc w.heap.size (fun k_ => some k_ ≠ ((.slice Ao33 t889.length co33) : Value).ownBlock ∧ some k_ ≠ ((.slice Ao47 t902.length co47) : Value).ownBlock) (.slice Ao58 t919.length co58) t919) ∧ Aside0 (Kd.R k60 60 wc w.heap.size (fun k_ => some k_ ≠ ((.slice Ao35 t892.length co35) : Value).ownBlock ∧ some k_ ≠ ((.slice Ao37 t895.length co37) : Value).ownBlock ∧ some k_ ≠ ((.slice Ao48 t905.length co48) : Value).ownBlock ∧ some k_ ≠ ((.slice Ao49 t908.length co49) : Value).ownBlock ∧ some k_ ≠ ((.slice Ao62 t925.length co62) : Value).ownBlock) (.slice Ao60 t922.length co60) t922) ∧ Aside0 (Kd.R k60 60 wc w.heap.size (fun k_ => some k_ ≠ ((.slice Ao35 t892.length co35) : Value).ownBlock ∧ some k_ ≠ ((.slice Ao37 t895.length co37) : Value).ownBlock ∧ some k_ ≠ ((.slice Ao48 t905.length co48) : Value).ownBlock ∧ some k_ ≠ ((.slice Ao49 t908.length co49) : Value).ownBlock ∧ some k_ ≠ ((.slice Ao60 t922.length co60) : Value).ownBlock) (.slice Ao62 t925.length co62) t925) ∧ Aside0 (wc.heap[gb868]? = some (.cells #[.int .i64 a0_0, .int .i64 a0_1, (.slice A0_2 l0_2.length c0_2), (.slice A0_3 l0_3.length c0_3), (.slice A0_4 l0_4.length c0_4)] 27 (0, 0))) ∧ Aside0 (wc.heap[gb869]? = some (.cells #[.int .i64 a1_0, .int .i64 a1_1, .int .i64 a1_2, .int .i64 a1_3, .int .i64 a1_4] 56 (0, 0))) ∧ Aside0 (wc.heap[gb899]? = some (.cells #[.int .i64 t887, .int .i64 t888, (.slice Ao33 t889.length co33), (.slice Ao35 t892.length co35), (.slice Ao37 t895.length co37)] 35 (0, 0))) ∧ Aside0 (wc.heap[gb911]? = some (.cells #[.int .i64 t900, .int .i64 t901, (.slice Ao47 t902.length co47), (.slice Ao48 t905.length co48), (.slice Ao49 t908.length co49)] 35 (0, 0))) ∧ Aside0 (wc.heap[gb929]? = some (.cells #[.int .i64 t917, .int .i64 t918, (.slice Ao58 t919.length co58), (.slice Ao60 t922.length co60), (.slice Ao62 t925.length co62)] 35 (0, 0))) ∧ Aside0 (Below w.heap.size w wc))
  case first =>
   have H := HC16.out
   clear HC16
   obtain ⟨t930, A64, H⟩ := bindq H
   try dsimp only at H
   by_cases c65 : t930 = true
   ·subst c65
    rw [if_pos rfl] at H
    try dsimp only at H
    have H' := am H
    clear H
    have hnb66 := NB929_868.out
    have hnc66 := NB868_929.out
    have hnb67 := NB929_869.out
    have hnc67 := NB869_929.out
    have hnb68 := NB929_899.out
    have hnc68 := NB899_929.out
    have hnb69 := NB929_911.out
    have hnc69 := NB911_929.out
    have ⟨hcz70_0, hcz70_1, hcz70_2, hcz70_3, hcz70_4, hfz70_0, hfz70_1, hfz70_2, hfz70_3, hfz70_4⟩ := bc5 BK929
    have hnb71 := NB899_868.out
    have hnc71 := NB868_899.out
    have hnb72 := NB899_869.out
    have hnc72 := NB869_899.out
    have hnb73 := NB899_911.out
    have hnc73 := NB911_899.out
    have ⟨hcz74_0, hcz74_1, hcz74_2, hcz74_3, hcz74_4, hfz74_0, hfz74_1, hfz74_2, hfz74_3, hfz74_4⟩ := bc5 BK899
    go_wp2_with (first | ((with_reducible refine gate_callee (f := 18) rfl ?_); refine goesQ (some 40) Try.func18 #[.agg #[.int .i64 t917, .int .i64 t918, .slice Ao58 t919.length co58, .slice Ao60 t922.length co60, .slice Ao62 t925.length co62], .agg #[.int .i64 t887, .int .i64 t888, .slice Ao33 t889.length co33, .slice Ao35 t892.length co35, .slice Ao37 t895.length co37]] ?_; (with_reducible refine (laws_eqSession.calls k t917 t918 _ _ t919 _ _ t922 _ _ t925 t887 t888 _ _ t889 _ _ t892 _ _ t895 true _ ?s1 ?s2 ?s3 ?s4 ?s5 ?s6 ?s7 ?s8 ?s9 ?s10 ?s11 ?s12 A64.out).mono ?_); (case s1 => exact cf HO921 BK929); (case s2 => exact rq1 HO921); (case s3 => exact cf HO924 BK929); (case s4 => exact rq1 HO924); (case s5 => exact cf HO927 BK929); (case s6 => exact rq1 HO927); (case s7 => exact cf HO891 BK929); (case s8 => exact rq1 HO891); (case s9 => exact cf HO894 BK929); (case s10 => exact rq1 HO894); (case s11 => exact cf HO897 BK929); (case s12 => exact rq1 HO897); rintro e w75 ⟨rfl, hb⟩; refine ⟨_, rfl, ?_⟩; replace HO891 := am (Kd.R_below (fq HO891 BK929) hb); replace HO894 := am (Kd.R_below (fq HO894 BK929) hb); replace HO897 := am (Kd.R_below (fq HO897 BK929) hb); replace HO904 := am (Kd.R_below (fq HO904 BK929) hb); replace HO907 := am (Kd.R_below (fq HO907 BK929) hb); replace HO910 := am (Kd.R_below (fq HO910 BK929) hb); replace HO921 := am (Kd.R_below (fq HO921 BK929) hb); replace HO924 := am (Kd.R_below (fq HO924 BK929) hb); replace HO927 := am (Kd.R_below (fq HO927 BK929) hb); replace BK868 := am (blk_below (g := gb868) (o := .cells #[.int .i64 a0_0, .int .i64 a0_1, .slice A0_2 l0_2.length c0_2, .slice A0_3 l0_3.length c0_3, .slice A0_4 l0_4.length c0_4] 27 (0, 0)) (zp BK868) hb); replace BK869 := am (blk_below (g := gb869) (o := .cells #[.int .i64 a1_0, .int .i64 a1_1, .int .i64 a1_2, .int .i64 a1_3, .int .i64 a1_4] 56 (0, 0)) (zp BK869) hb); replace BK899 := am (blk_below (g := gb899) (o := .cells #[.int .i64 t887, .int .i64 t888, .slice Ao33 t889.length co33, .slice Ao35 t892.length co35, .slice Ao37 t895.length co37] 35 (0, 0)) (zp BK899) hb); replace BK911 := am (blk_below (g := gb911) (o := .cells #[.int .i64 t900, .int .i64 t901, .slice Ao47 t902.length co47, .slice Ao48 t905.length co48, .slice Ao49 t908.length co49] 35 (0, 0)) (zp BK911) hb); replace BK929 := am (blk_below (g := gb929) (o := .cells #[.int .i64 t917, .int .i64 t918, .slice Ao58 t919.length co58, .slice Ao60 t922.length co60, .slice Ao62 t925.length co62] 35 (0, 0)) (zp BK929) hb); replace HB := sb hb; (try clear hb)))
    go_meet
    case rel => exact ⟨_, ((t928 != t898)), sq, H', ⟨by first | omega | exact Nat.le_refl _⟩, ⟨rm HO891⟩, ⟨rm HO894⟩, ⟨rm HO897⟩, ⟨rm HO904⟩, ⟨rm HO907⟩, ⟨rm HO910⟩, ⟨rm HO921⟩, ⟨rm HO924⟩, ⟨rm HO927⟩, ⟨zq BK868⟩, ⟨zq BK869⟩, ⟨zq BK899⟩, ⟨zq BK911⟩, ⟨zq BK929⟩, ⟨bq⟩⟩
   ·replace c65 := Bool.eq_false_iff.mpr c65
    subst c65
    rw [if_neg (show ¬ (false = true) by decide)] at H
    try dsimp only at H
    have H' := am H
    clear H
    have hnb76 := NB929_868.out
    have hnc76 := NB868_929.out
    have hnb77 := NB929_869.out
    have hnc77 := NB869_929.out
    have hnb78 := NB929_899.out
    have hnc78 := NB899_929.out
    have hnb79 := NB929_911.out
    have hnc79 := NB911_929.out
    have ⟨hcz80_0, hcz80_1, hcz80_2, hcz80_3, hcz80_4, hfz80_0, hfz80_1, hfz80_2, hfz80_3, hfz80_4⟩ := bc5 BK929
    have hnb81 := NB899_868.out
    have hnc81 := NB868_899.out
    have hnb82 := NB899_869.out
    have hnc82 := NB869_899.out
    have hnb83 := NB899_911.out
    have hnc83 := NB911_899.out
    have ⟨hcz84_0, hcz84_1, hcz84_2, hcz84_3, hcz84_4, hfz84_0, hfz84_1, hfz84_2, hfz84_3, hfz84_4⟩ := bc5 BK899
    go_wp2_with (first | ((with_reducible refine gate_callee (f := 18) rfl ?_); refine goesQ (some 40) Try.func18 #[.agg #[.int .i64 t917, .int .i64 t918, .slice Ao58 t919.length co58, .slice Ao60 t922.length co60, .slice Ao62 t925.length co62], .agg #[.int .i64 t887, .int .i64 t888, .slice Ao33 t889.length co33, .slice Ao35 t892.length co35, .slice Ao37 t895.length co37]] ?_; (with_reducible refine (laws_eqSession.calls k t917 t918 _ _ t919 _ _ t922 _ _ t925 t887 t888 _ _ t889 _ _ t892 _ _ t895 false _ ?s1 ?s2 ?s3 ?s4 ?s5 ?s6 ?s7 ?s8 ?s9 ?s10 ?s11 ?s12 A64.out).mono ?_); (case s1 => exact cf HO921 BK929); (case s2 => exact rq1 HO921); (case s3 => exact cf HO924 BK929); (case s4 => exact rq1 HO924); (case s5 => exact cf HO927 BK929); (case s6 => exact rq1 HO927); (case s7 => exact cf HO891 BK929); (case s8 => exact rq1 HO891); (case s9 => exact cf HO894 BK929); (case s10 => exact rq1 HO894); (case s11 => exact cf HO897 BK929); (case s12 => exact rq1 HO897); rintro e w85 ⟨rfl, hb⟩; refine ⟨_, rfl, ?_⟩; replace HO891 := am (Kd.R_below (fq HO891 BK929) hb); replace HO894 := am (Kd.R_below (fq HO894 BK929) hb); replace HO897 := am (Kd.R_below (fq HO897 BK929) hb); replace HO904 := am (Kd.R_below (fq HO904 BK929) hb); replace HO907 := am (Kd.R_below (fq HO907 BK929) hb); replace HO910 := am (Kd.R_below (fq HO910 BK929) hb); replace HO921 := am (Kd.R_below (fq HO921 BK929) hb); replace HO924 := am (Kd.R_below (fq HO924 BK929) hb); replace HO927 := am (Kd.R_below (fq HO927 BK929) hb); replace BK868 := am (blk_below (g := gb868) (o := .cells #[.int .i64 a0_0, .int .i64 a0_1, .slice A0_2 l0_2.length c0_2, .slice A0_3 l0_3.length c0_3, .slice A0_4 l0_4.length c0_4] 27 (0, 0)) (zp BK868) hb); replace BK869 := am (blk_below (g := gb869) (o := .cells #[.int .i64 a1_0, .int .i64 a1_1, .int .i64 a1_2, .int .i64 a1_3, .int .i64 a1_4] 56 (0, 0)) (zp BK869) hb); replace BK899 := am (blk_below (g := gb899) (o := .cells #[.int .i64 t887, .int .i64 t888, .slice Ao33 t889.length co33, .slice Ao35 t892.length co35, .slice Ao37 t895.length co37] 35 (0, 0)) (zp BK899) hb); replace BK911 := am (blk_below (g := gb911) (o := .cells #[.int .i64 t900, .int .i64 t901, .slice Ao47 t902.length co47, .slice Ao48 t905.length co48, .slice Ao49 t908.length co49] 35 (0, 0)) (zp BK911) hb); replace BK929 := am (blk_below (g := gb929) (o := .cells #[.int .i64 t917, .int .i64 t918, .slice Ao58 t919.length co58, .slice Ao60 t922.length co60, .slice Ao62 t925.length co62] 35 (0, 0)) (zp BK929) hb); replace HB := sb hb; (try clear hb)))
    go_meet
    case rel => exact ⟨_, (true), sq, H', ⟨by first | omega | exact Nat.le_refl _⟩, ⟨rm HO891⟩, ⟨rm HO894⟩, ⟨rm HO897⟩, ⟨rm HO904⟩, ⟨rm HO907⟩, ⟨rm HO910⟩, ⟨rm HO921⟩, ⟨rm HO924⟩, ⟨rm HO927⟩, ⟨zq BK868⟩, ⟨zq BK869⟩, ⟨zq BK899⟩, ⟨zq BK911⟩, ⟨zq BK929⟩, ⟨bq⟩⟩
  case rest =>
   clear HC16
   try clear c65
   try clear hcz70_0 hcz70_1 hcz70_2 hcz70_3 hcz70_4 hfz70_0 hfz70_1 hfz70_2 hfz70_3 hfz70_4
   try clear hcz74_0 hcz74_1 hcz74_2 hcz74_3 hcz74_4 hfz74_0 hfz74_1 hfz74_2 hfz74_3 hfz74_4
   try clear hcz80_0 hcz80_1 hcz80_2 hcz80_3 hcz80_4 hfz80_0 hfz80_1 hfz80_2 hfz80_3 hfz80_4
   try clear hcz84_0 hcz84_1 hcz84_2 hcz84_3 hcz84_4 hfz84_0 hfz84_1 hfz84_2 hfz84_3 hfz84_4
   obtain ⟨kq, x46_15, rfl, HA, HJ15, HO_900002, HO_900003, HO_900004, HO_912002, HO_912003, HO_912004, HO_930002, HO_930003, HO_930004, BK868, BK869, BK899, BK911, BK929, HB⟩ := hcut
   cases kq with
   | zero => exact absurd HA.out (by simp [laws_FnExactActOnce.j0])
   | succ kj15 =>
    have H := HA.out
    clear HA
    simp only [laws_FnExactActOnce.j0] at H
    by_cases c86 : x46_15 = true
    ·subst c86
     rw [if_pos rfl] at H
     try dsimp only at H
     obtain rfl := Option.some.inj H
     go_wp2
     go_ret
     exact ⟨eq_, bq⟩
    ·replace c86 := Bool.eq_false_iff.mpr c86
     subst c86
     rw [if_neg (show ¬ (false = true) by decide)] at H
     try dsimp only at H
     obtain ⟨⟨t931, t932, t933, t936, t939⟩, A87, H⟩ := bindq H
     try dsimp only at H
     obtain ⟨t942, A88, H⟩ := bindq H
     try dsimp only at H
     by_cases c89 : t942 = true
     ·subst c89
      rw [if_pos rfl] at H
      try dsimp only at H
      obtain ⟨⟨t943, t944, t945, t946⟩, A90, H⟩ := bindq H
      try dsimp only at H
      have HC91 := am H
      clear H
      try go_wp2
      replace HO_900002 := am (Kd.R_drew HO_900002.out)
      replace HO_900003 := am (Kd.R_drew HO_900003.out)
      replace HO_900004 := am (Kd.R_drew HO_900004.out)
      replace HO_912002 := am (Kd.R_drew HO_912002.out)
      replace HO_912003 := am (Kd.R_drew HO_912003.out)
      replace HO_912004 := am (Kd.R_drew HO_912004.out)
      replace HO_930002 := am (Kd.R_drew HO_930002.out)
      replace HO_930003 := am (Kd.R_drew HO_930003.out)
      replace HO_930004 := am (Kd.R_drew HO_930004.out)
      replace BK868 := am (blk_drew BK868.out)
      replace BK869 := am (blk_drew BK869.out)
      replace BK899 := am (blk_drew BK899.out)
      replace BK911 := am (blk_drew BK911.out)
      replace BK929 := am (blk_drew BK929.out)
      replace HB := am (below_drew1 HB.out)
      refine start_ (n := 5) (S := fun w' => w'.cell? ⟨gb911, 0, none⟩ = some (.int .i64 t900) ∧ w'.cell? ⟨gb911, 1, none⟩ = some (.int .i64 t901) ∧ w'.cell? ⟨gb911, 2, none⟩ = some (.slice Ao47 t902.length co47) ∧ w'.cell? ⟨gb911, 3, none⟩ = some (.slice Ao48 t905.length co48) ∧ w'.cell? ⟨gb911, 4, none⟩ = some (.slice Ao49 t908.length co49) ∧ w'.cell? ⟨gb868, 0, none⟩ = some (.int .i64 a0_0) ∧ w'.cell? ⟨gb868, 1, none⟩ = some (.int .i64 a0_1) ∧ w'.cell? ⟨gb868, 2, none⟩ = some (.slice A0_2 l0_2.length c0_2) ∧ w'.cell? ⟨gb868, 3, none⟩ = some (.slice A0_3 l0_3.length c0_3) ∧ w'.cell? ⟨gb868, 4, none⟩ = some (.slice A0_4 l0_4.length c0_4)) (ds := []) #[false, false, false, false, false] (by kernel_rfl) rfl rfl cl (fun hHeld => ?_)
      generalize wc.drew = w92 at HO_900002 HO_900003 HO_900004 HO_912002 HO_912003 HO_912004 HO_930002 HO_930003 HO_930004 BK868 BK869 BK899 BK911 BK929 HB hHeld ⊢
      refine take_ (i := 0) (N := some 47) (v := ?_) (a' := ?_) #[true, false, false, false, false] rfl rfl (by kernel_rfl) (fun _ _ _ h => h) (Or.inl ⟨by rfl, ?_⟩) hHeld ?_ ?_
      rotate_left
      ·rintro w' ⟨s0, s1, s2, s3, s4, s5, s6, s7, s8, s9⟩
       go_simp
       with_reducible rfl
      rotate_left
      ·simp only [Act.put, List.setIfInBounds_toArray, List.set_cons_zero, List.set_cons_succ, i64_w, i32_w]
       rfl
      refine take_ (i := 1) (N := some 48) (v := ?_) (a' := ?_) #[true, true, false, false, false] rfl rfl (by kernel_rfl) (fun _ _ _ h => h) (Or.inl ⟨by rfl, ?_⟩) hHeld ?_ ?_
      rotate_left
      ·rintro w' ⟨s0, s1, s2, s3, s4, s5, s6, s7, s8, s9⟩
       go_simp
       with_reducible rfl
      rotate_left
      ·simp only [Act.put, List.setIfInBounds_toArray, List.set_cons_zero, List.set_cons_succ, i64_w, i32_w]
       rfl
      refine one_ (i := 2) (N := some 49) #[true, true, true, false, false] rfl rfl (by kernel_rfl) (by decide) (fun K hK => ?_)
      refine goes_ Try.func16 (by kernel_rfl) rfl #[.agg #[.int .i64 a0_0, .int .i64 a0_1, .slice A0_2 l0_2.length c0_2, .slice A0_3 l0_3.length c0_3, .slice A0_4 l0_4.length c0_4]] (by rfl) rfl rfl mq ?_
      with_reducible refine (laws_toSession.calls kj15 a0_0 a0_1 _ _ l0_2 _ _ l0_3 _ _ l0_4 t931 t932 t933 t936 t939 _ ?s1 ?s2 ?s3 ?s4 ?s5 ?s6 A87.out).mono ?_
      (case s1 => exact cq (Kd.C_below HR0_2.out HB.out))
      (case s2 => exact HC0_2.out)
      (case s3 => exact cq (Kd.C_below HR0_3.out HB.out))
      (case s4 => exact HC0_3.out)
      (case s5 => exact cq (Kd.C_below HR0_4.out HB.out))
      (case s6 => exact HC0_4.out)
      rintro e w93 ⟨v934, v937, v940, rfl, ho0, ho1, ho2, hb⟩
      refine ⟨_, rfl, ?_⟩
      have HO935 := rl (Kd.R_new' (Kd.R_new' (Kd.R_new' ho0 (lw HO_900002)) (lw HO_912002)) (lw HO_930002))
      replace HO_900002 := am (Kd.R_elder' (rq HO_900002) (Kd.R_base ho0) hb)
      replace HO_912002 := am (Kd.R_elder' (rq HO_912002) (Kd.R_base ho0) hb)
      replace HO_930002 := am (Kd.R_elder' (rq HO_930002) (Kd.R_base ho0) hb)
      have HO938 := rl (Kd.R_new' (Kd.R_new' (Kd.R_new' (Kd.R_new' (Kd.R_new' (Kd.R_new' ho1 (lw HO_900003)) (lw HO_900004)) (lw HO_912003)) (lw HO_912004)) (lw HO_930003)) (lw HO_930004))
      have HO941 := rl (Kd.R_new' (Kd.R_new' (Kd.R_new' (Kd.R_new' (Kd.R_new' (Kd.R_new' ho2 (lw HO_900003)) (lw HO_900004)) (lw HO_912003)) (lw HO_912004)) (lw HO_930003)) (lw HO_930004))
      replace HO_900003 := tq2 (rq HO_900003) hb ho1 ho2
      replace HO_900004 := tq2 (rq HO_900004) hb ho1 ho2
      replace HO_912003 := tq2 (rq HO_912003) hb ho1 ho2
      replace HO_912004 := tq2 (rq HO_912004) hb ho1 ho2
      replace HO_930003 := tq2 (rq HO_930003) hb ho1 ho2
      replace HO_930004 := tq2 (rq HO_930004) hb ho1 ho2
      replace BK868 := zb BK868 hb
      replace BK869 := zb BK869 hb
      replace BK899 := zb BK899 hb
      replace BK911 := zb BK911 hb
      replace BK929 := zb BK929 hb
      replace HB := sb hb
      (try clear hb ho0 ho1 ho2)
      obtain ⟨Ao94, co94, eo94⟩ := Kd.R_slice HO935.out
      (first | subst eo94 | (injection eo94 with f1_ f2_ f3_; have f4_ := f1_.symm; have f5_ := f3_.symm; clear f1_ f2_ f3_; subst f4_; subst f5_))
      obtain ⟨Ao95, co95, eo95⟩ := Kd.R_slice HO938.out
      (first | subst eo95 | (injection eo95 with f1_ f2_ f3_; have f4_ := f1_.symm; have f5_ := f3_.symm; clear f1_ f2_ f3_; subst f4_; subst f5_))
      obtain ⟨Ao96, co96, eo96⟩ := Kd.R_slice HO941.out
      (first | subst eo96 | (injection eo96 with f1_ f2_ f3_; have f4_ := f1_.symm; have f5_ := f3_.symm; clear f1_ f2_ f3_; subst f4_; subst f5_))
      refine hK.out _ _ cl (fun hHeld => ?_)
      clear hK K
      refine norm_ (a' := ?_) ?_ ?_
      rotate_left
      ·show Act.put _ (some 49) _ = _
       simp only [Act.put, List.setIfInBounds_toArray, List.set_cons_zero, List.set_cons_succ, i64_w, i32_w]
       rfl
      refine one_ (i := 3) (N := some 50) #[true, true, true, true, false] rfl rfl (by kernel_rfl) (by decide) (fun K hK => ?_)
      refine goes_ Try.func18 (by kernel_rfl) rfl #[.agg #[.int .i64 t900, .int .i64 t901, .slice Ao47 t902.length co47, .slice Ao48 t905.length co48, .slice Ao49 t908.length co49], .agg #[.int .i64 t931, .int .i64 t932, .slice Ao94 t933.length co94, .slice Ao95 t936.length co95, .slice Ao96 t939.length co96]] (by rfl) rfl rfl mq ?_
      with_reducible refine (laws_eqSession.calls kj15 t900 t901 _ _ t902 _ _ t905 _ _ t908 t931 t932 _ _ t933 _ _ t936 _ _ t939 true _ ?s1 ?s2 ?s3 ?s4 ?s5 ?s6 ?s7 ?s8 ?s9 ?s10 ?s11 ?s12 A88.out).mono ?_
      (case s1 => exact cr HO_912002)
      (case s2 => exact rq1 HO_912002)
      (case s3 => exact cr HO_912003)
      (case s4 => exact rq1 HO_912003)
      (case s5 => exact cr HO_912004)
      (case s6 => exact rq1 HO_912004)
      (case s7 => exact cr HO935)
      (case s8 => exact rq1 HO935)
      (case s9 => exact cr HO938)
      (case s10 => exact rq1 HO938)
      (case s11 => exact cr HO941)
      (case s12 => exact rq1 HO941)
      rintro e w97 ⟨rfl, hb⟩
      refine ⟨_, rfl, ?_⟩
      replace HO_900002 := rb HO_900002 hb
      replace HO_900003 := rb HO_900003 hb
      replace HO_900004 := rb HO_900004 hb
      replace HO_912002 := rb HO_912002 hb
      replace HO_912003 := rb HO_912003 hb
      replace HO_912004 := rb HO_912004 hb
      replace HO_930002 := rb HO_930002 hb
      replace HO_930003 := rb HO_930003 hb
      replace HO_930004 := rb HO_930004 hb
      replace HO935 := rb HO935 hb
      replace HO938 := rb HO938 hb
      replace HO941 := rb HO941 hb
      replace BK868 := zb BK868 hb
      replace BK869 := zb BK869 hb
      replace BK899 := zb BK899 hb
      replace BK911 := zb BK911 hb
      replace BK929 := zb BK929 hb
      replace HB := sb hb
      (try clear hb)
      refine hK.out _ _ cl (fun hHeld => ?_)
      clear hK K
      refine norm_ (a' := ?_) ?_ ?_
      rotate_left
      ·show Act.put _ (some 50) _ = _
       simp only [Act.put, List.setIfInBounds_toArray, List.set_cons_zero, List.set_cons_succ, i64_w, i32_w]
       rfl
      refine pure_ (i := 4) (N := some 51) (v := ?_) (a' := ?_) #[true, true, true, true, true] rfl rfl (by kernel_rfl) (fun _ _ _ h => h) (Or.inl ⟨by rfl, ?_⟩) ?_ ?_
      rotate_left
      ·intro w'
       go_simp
       with_reducible rfl
      rotate_left
      ·simp only [Act.put, List.setIfInBounds_toArray, List.set_cons_zero, List.set_cons_succ, i64_w, i32_w]
       rfl
      refine done_ (by kernel_rfl) ?_
      have hnb98 := NB911_868.out
      have hnc98 := NB868_911.out
      have hnb99 := NB911_869.out
      have hnc99 := NB869_911.out
      have hnb100 := NB911_899.out
      have hnc100 := NB899_911.out
      have hnb101 := NB911_929.out
      have hnc101 := NB929_911.out
      have ⟨hcz102_0, hcz102_1, hcz102_2, hcz102_3, hcz102_4, hfz102_0, hfz102_1, hfz102_2, hfz102_3, hfz102_4⟩ := bc5 BK911
      go_upto_region 14 with (first | ((with_reducible refine gate_callee (f := 25) rfl ?_); refine goesQ (some 54) Try.func25 #[.agg #[.int .i64 t900, .int .i64 t901, .slice Ao47 t902.length co47, .slice Ao48 t905.length co48, .slice Ao49 t908.length co49], .int .i64 1] ?_; (with_reducible refine (laws_markSession.calls kj15 t900 t901 (fun k_ => some k_ = (.slice Ao47 t902.length co47 : Value).ownBlock) (.slice Ao47 t902.length co47) t902 (fun k_ => some k_ = (.slice Ao48 t905.length co48 : Value).ownBlock) (.slice Ao48 t905.length co48) t905 (fun k_ => some k_ = (.slice Ao49 t908.length co49 : Value).ownBlock) (.slice Ao49 t908.length co49) t908 1 t943 t944 t945 t946 w _ ?s1 ?s2 ?s3 ?s4 ?s5 ?s6 A90.out).mono ?_); (case s1 => repeat (first | (with_reducible first | exact HB.out | apply below_alloc | apply pw_below_drewN | apply below_drew1 | refine below_set ?_ GE868.out | refine below_set ?_ GE869.out | refine below_set ?_ GE899.out | refine below_set ?_ GE911.out | refine below_set ?_ GE929.out) | exact HB.out)); (case s2 => exact Kd.R_tight rfl HO_912002.out); (case s3 => exact Kd.R_tight rfl HO_912003.out); (case s4 => exact fun k_ e_ => (HO_912003.out.1 k_ e_.symm).1.1.2.2.1); (case s5 => exact Kd.R_tight rfl HO_912004.out); (case s6 => exact fun k_ e_ => (HO_912004.out.1 k_ e_.symm).1.1.2.2.1); rintro e w103 ⟨rfl, hy0, hy1, hy2, hb, hkp⟩; refine ⟨_, rfl, ?_⟩; replace HO_900002 := am (Kd.R_mono (ok' := fun k_ => some k_ ≠ (.slice Ao47 t902.length co47 : Value).ownBlock ∧ some k_ ≠ (.slice Ao58 t919.length co58 : Value).ownBlock ∧ some k_ ≠ (.slice Ao94 t933.length co94 : Value).ownBlock) (Kd.R_keptB ((Kd.R_apart' (Kd.R_apart' HO_900002.out (Kd.R_typed HO_912003.out) (by decide)) (Kd.R_typed HO_912004.out) (by decide))) hkp (fun k_ hk_ hs_ => Or.elim hs_ (fun e_ => (hk_.1.1.1.1) e_) (fun e_ => Or.elim e_ (fun e_ => (hk_.1.2) e_) (fun e_ => (hk_.2) e_)))) (fun k_ hk_ => ⟨hk_.1.1.1.1.1, hk_.1.1.1.1.2, hk_.1.1.1.2⟩)); replace HO_900003 := am (Kd.R_mono (ok' := fun k_ => some k_ ≠ (.slice Ao37 t895.length co37 : Value).ownBlock ∧ some k_ ≠ (.slice Ao48 t905.length co48 : Value).ownBlock ∧ some k_ ≠ (.slice Ao49 t908.length co49 : Value).ownBlock ∧ some k_ ≠ (.slice Ao60 t922.length co60 : Value).ownBlock ∧ some k_ ≠ (.slice Ao62 t925.length co62 : Value).ownBlock ∧ some k_ ≠ (.slice Ao95 t936.length co95 : Value).ownBlock ∧ some k_ ≠ (.slice Ao96 t939.length co96 : Value).ownBlock) (Kd.R_keptB ((Kd.R_apart' HO_900003.out (Kd.R_typed HO_912002.out) (by decide))) hkp (fun k_ hk_ hs_ => Or.elim hs_ (fun e_ => (hk_.2) e_) (fun e_ => Or.elim e_ (fun e_ => (hk_.1.1.1.2.1) e_) (fun e_ => (hk_.1.1.1.2.2.1) e_)))) (fun k_ hk_ => ⟨hk_.1.1.1.1.1, hk_.1.1.1.1.2.1, hk_.1.1.1.1.2.2.1, hk_.1.1.1.1.2.2.2.1, hk_.1.1.1.1.2.2.2.2, hk_.1.1.1.2, hk_.1.1.2⟩)); replace HO_900004 := am (Kd.R_mono (ok' := fun k_ => some k_ ≠ (.slice Ao35 t892.length co35 : Value).ownBlock ∧ some k_ ≠ (.slice Ao48 t905.length co48 : Value).ownBlock ∧ some k_ ≠ (.slice Ao49 t908.length co49 : Value).ownBlock ∧ some k_ ≠ (.slice Ao60 t922.length co60 : Value).ownBlock ∧ some k_ ≠ (.slice Ao62 t925.length co62 : Value).ownBlock ∧ some k_ ≠ (.slice Ao95 t936.length co95 : Value).ownBlock ∧ some k_ ≠ (.slice Ao96 t939.length co96 : Value).ownBlock) (Kd.R_keptB ((Kd.R_apart' HO_900004.out (Kd.R_typed HO_912002.out) (by decide))) hkp (fun k_ hk_ hs_ => Or.elim hs_ (fun e_ => (hk_.2) e_) (fun e_ => Or.elim e_ (fun e_ => (hk_.1.1.1.2.1) e_) (fun e_ => (hk_.1.1.1.2.2.1) e_)))) (fun k_ hk_ => ⟨hk_.1.1.1.1.1, hk_.1.1.1.1.2.1, hk_.1.1.1.1.2.2.1, hk_.1.1.1.1.2.2.2.1, hk_.1.1.1.1.2.2.2.2, hk_.1.1.1.2, hk_.1.1.2⟩)); replace HO_930002 := am (Kd.R_mono (ok' := fun k_ => some k_ ≠ (.slice Ao33 t889.length co33 : Value).ownBlock ∧ some k_ ≠ (.slice Ao47 t902.length co47 : Value).ownBlock ∧ some k_ ≠ (.slice Ao94 t933.length co94 : Value).ownBlock) (Kd.R_keptB ((Kd.R_apart' (Kd.R_apart' HO_930002.out (Kd.R_typed HO_912003.out) (by decide)) (Kd.R_typed HO_912004.out) (by decide))) hkp (fun k_ hk_ hs_ => Or.elim hs_ (fun e_ => (hk_.1.1.1.2) e_) (fun e_ => Or.elim e_ (fun e_ => (hk_.1.2) e_) (fun e_ => (hk_.2) e_)))) (fun k_ hk_ => ⟨hk_.1.1.1.1.1, hk_.1.1.1.1.2, hk_.1.1.1.2⟩)); replace HO_930003 := am (Kd.R_mono (ok' := fun k_ => some k_ ≠ (.slice Ao35 t892.length co35 : Value).ownBlock ∧ some k_ ≠ (.slice Ao37 t895.length co37 : Value).ownBlock ∧ some k_ ≠ (.slice Ao48 t905.length co48 : Value).ownBlock ∧ some k_ ≠ (.slice Ao49 t908.length co49 : Value).ownBlock ∧ some k_ ≠ (.slice Ao62 t925.length co62 : Value).ownBlock ∧ some k_ ≠ (.slice Ao95 t936.length co95 : Value).ownBlock ∧ some k_ ≠ (.slice Ao96 t939.length co96 : Value).ownBlock) (Kd.R_keptB ((Kd.R_apart' HO_930003.out (Kd.R_typed HO_912002.out) (by decide))) hkp (fun k_ hk_ hs_ => Or.elim hs_ (fun e_ => (hk_.2) e_) (fun e_ => Or.elim e_ (fun e_ => (hk_.1.1.1.2.2.1) e_) (fun e_ => (hk_.1.1.1.2.2.2.1) e_)))) (fun k_ hk_ => ⟨hk_.1.1.1.1.1, hk_.1.1.1.1.2.1, hk_.1.1.1.1.2.2.1, hk_.1.1.1.1.2.2.2.1, hk_.1.1.1.1.2.2.2.2, hk_.1.1.1.2, hk_.1.1.2⟩)); replace HO_930004 := am (Kd.R_mono (ok' := fun k_ => some k_ ≠ (.slice Ao35 t892.length co35 : Value).ownBlock ∧ some k_ ≠ (.slice Ao37 t895.length co37 : Value).ownBlock ∧ some k_ ≠ (.slice Ao48 t905.length co48 : Value).ownBlock ∧ some k_ ≠ (.slice Ao49 t908.length co49 : Value).ownBlock ∧ some k_ ≠ (.slice Ao60 t922.length co60 : Value).ownBlock ∧ some k_ ≠ (.slice Ao95 t936.length co95 : Value).ownBlock ∧ some k_ ≠ (.slice Ao96 t939.length co96 : Value).ownBlock) (Kd.R_keptB ((Kd.R_apart' HO_930004.out (Kd.R_typed HO_912002.out) (by decide))) hkp (fun k_ hk_ hs_ => Or.elim hs_ (fun e_ => (hk_.2) e_) (fun e_ => Or.elim e_ (fun e_ => (hk_.1.1.1.2.2.1) e_) (fun e_ => (hk_.1.1.1.2.2.2.1) e_)))) (fun k_ hk_ => ⟨hk_.1.1.1.1.1, hk_.1.1.1.1.2.1, hk_.1.1.1.1.2.2.1, hk_.1.1.1.1.2.2.2.1, hk_.1.1.1.1.2.2.2.2, hk_.1.1.1.2, hk_.1.1.2⟩)); replace BK868 := am (blk_kept (zq BK868) hkp (fun hs_ => Or.elim hs_ (fun e_ => (fun e_ => (Kd.R_ne HO_912002.out BK868.out (by decide)) e_) e_) (fun e_ => Or.elim e_ (fun e_ => (fun e_ => (Kd.R_ne HO_912003.out BK868.out (by decide)) e_) e_) (fun e_ => (fun e_ => (Kd.R_ne HO_912004.out BK868.out (by decide)) e_) e_)))); replace BK869 := am (blk_kept (zq BK869) hkp (fun hs_ => Or.elim hs_ (fun e_ => (fun e_ => (Kd.R_ne HO_912002.out BK869.out (by decide)) e_) e_) (fun e_ => Or.elim e_ (fun e_ => (fun e_ => (Kd.R_ne HO_912003.out BK869.out (by decide)) e_) e_) (fun e_ => (fun e_ => (Kd.R_ne HO_912004.out BK869.out (by decide)) e_) e_)))); replace BK899 := am (blk_kept (zq BK899) hkp (fun hs_ => Or.elim hs_ (fun e_ => (fun e_ => (Kd.R_ne HO_912002.out BK899.out (by decide)) e_) e_) (fun e_ => Or.elim e_ (fun e_ => (fun e_ => (Kd.R_ne HO_912003.out BK899.out (by decide)) e_) e_) (fun e_ => (fun e_ => (Kd.R_ne HO_912004.out BK899.out (by decide)) e_) e_)))); replace BK911 := am (blk_kept (zq BK911) hkp (fun hs_ => Or.elim hs_ (fun e_ => (fun e_ => (Kd.R_ne HO_912002.out BK911.out (by decide)) e_) e_) (fun e_ => Or.elim e_ (fun e_ => (fun e_ => (Kd.R_ne HO_912003.out BK911.out (by decide)) e_) e_) (fun e_ => (fun e_ => (Kd.R_ne HO_912004.out BK911.out (by decide)) e_) e_)))); replace BK929 := am (blk_kept (zq BK929) hkp (fun hs_ => Or.elim hs_ (fun e_ => (fun e_ => (Kd.R_ne HO_912002.out BK929.out (by decide)) e_) e_) (fun e_ => Or.elim e_ (fun e_ => (fun e_ => (Kd.R_ne HO_912003.out BK929.out (by decide)) e_) e_) (fun e_ => (fun e_ => (Kd.R_ne HO_912004.out BK929.out (by decide)) e_) e_)))); replace HO935 := am (Kd.R_mono (ok' := fun k_ => some k_ ≠ (.slice Ao33 t889.length co33 : Value).ownBlock ∧ some k_ ≠ (.slice Ao47 t902.length co47 : Value).ownBlock ∧ some k_ ≠ (.slice Ao58 t919.length co58 : Value).ownBlock) (Kd.R_keptB ((Kd.R_apart' (Kd.R_apart' HO935.out (Kd.R_typed HO_912003.out) (by decide)) (Kd.R_typed HO_912004.out) (by decide))) hkp (fun k_ hk_ hs_ => Or.elim hs_ (fun e_ => (hk_.1.1.1.2) e_) (fun e_ => Or.elim e_ (fun e_ => (hk_.1.2) e_) (fun e_ => (hk_.2) e_)))) (fun k_ hk_ => ⟨hk_.1.1.1.1.1.2, hk_.1.1.1.1.2, hk_.1.1.1.2⟩)); replace HO_912003 := am (Kd.R_reok rfl hy1 (fun k_ e_ => HO_912003.out.1 k_ e_)); replace HO_912004 := am (Kd.R_reok rfl hy2 (fun k_ e_ => HO_912004.out.1 k_ e_)); replace HO938 := am (Kd.R_mono (ok' := fun k_ => some k_ ≠ (.slice Ao35 t892.length co35 : Value).ownBlock ∧ some k_ ≠ (.slice Ao37 t895.length co37 : Value).ownBlock ∧ some k_ ≠ (.slice Ao48 t905.length co48 : Value).ownBlock ∧ some k_ ≠ (.slice Ao49 t908.length co49 : Value).ownBlock ∧ some k_ ≠ (.slice Ao60 t922.length co60 : Value).ownBlock ∧ some k_ ≠ (.slice Ao62 t925.length co62 : Value).ownBlock ∧ some k_ ≠ (.slice Ao96 t939.length co96 : Value).ownBlock) (Kd.R_keptB ((Kd.R_apart' HO938.out (Kd.R_typed HO_912002.out) (by decide))) hkp (fun k_ hk_ hs_ => Or.elim hs_ (fun e_ => (hk_.2) e_) (fun e_ => Or.elim e_ (fun e_ => (hk_.1.1.1.1.2) e_) (fun e_ => (hk_.1.1.1.2) e_)))) (fun k_ hk_ => ⟨hk_.1.1.1.1.1.1.1.2, hk_.1.1.1.1.1.1.2, hk_.1.1.1.1.1.2, hk_.1.1.1.1.2, hk_.1.1.1.2, hk_.1.1.2, hk_.1.1.1.1.1.1.1.1⟩)); replace HO941 := am (Kd.R_mono (ok' := fun k_ => some k_ ≠ (.slice Ao35 t892.length co35 : Value).ownBlock ∧ some k_ ≠ (.slice Ao37 t895.length co37 : Value).ownBlock ∧ some k_ ≠ (.slice Ao48 t905.length co48 : Value).ownBlock ∧ some k_ ≠ (.slice Ao49 t908.length co49 : Value).ownBlock ∧ some k_ ≠ (.slice Ao60 t922.length co60 : Value).ownBlock ∧ some k_ ≠ (.slice Ao62 t925.length co62 : Value).ownBlock ∧ some k_ ≠ (.slice Ao95 t936.length co95 : Value).ownBlock) (Kd.R_keptB ((Kd.R_apart' HO941.out (Kd.R_typed HO_912002.out) (by decide))) hkp (fun k_ hk_ hs_ => Or.elim hs_ (fun e_ => (hk_.2) e_) (fun e_ => Or.elim e_ (fun e_ => (hk_.1.1.1.1.2) e_) (fun e_ => (hk_.1.1.1.2) e_)))) (fun k_ hk_ => ⟨hk_.1.1.1.1.1.1.1.2, hk_.1.1.1.1.1.1.2, hk_.1.1.1.1.1.2, hk_.1.1.1.1.2, hk_.1.1.1.2, hk_.1.1.2, hk_.1.1.1.1.1.1.1.1⟩)); replace HO_912002 := am (Kd.R_reok rfl hy0 (fun k_ e_ => HO_912002.out.1 k_ e_)); replace HB := am (hb); (try clear hb hkp hy0 hy1 hy2)))
      (try simp only [Act.put, List.setIfInBounds_toArray, List.set_cons_zero, List.set_cons_succ])
      go_cut [67] (fun v67 wc => ∃ (kq : Nat) (x67_90 : Bool), v67 = .bool x67_90 ∧ Aside0 (laws_FnExactActOnce.j1 kq t898 x67_90 a0_0 a0_1 l0_2 l0_3 l0_4 a1_0 a1_1 a1_2 a1_3 a1_4 t887 t888 t889 t892 t895 t917 t918 t919 t922 t925 = some r) ∧ Aside0 (kq ≤ kj15) ∧ Aside0 (Kd.R k58 58 wc w.heap.size (fun k_ => some k_ ≠ ((.slice Ao47 t902.length co47) : Value).ownBlock ∧ some k_ ≠ ((.slice Ao58 t919.length co58) : Value).ownBlock) (.slice Ao33 t889.length co33) t889) ∧ Aside0 (Kd.R k60 60 wc w.heap.size (fun k_ => some k_ ≠ ((.slice Ao37 t895.length co37) : Value).ownBlock ∧ some k_ ≠ ((.slice Ao48 t905.length co48) : Value).ownBlock ∧ some k_ ≠ ((.slice Ao49 t908.length co49) : Value).ownBlock ∧ some k_ ≠ ((.slice Ao60 t922.length co60) : Value).ownBlock ∧ some k_ ≠ ((.slice Ao62 t925.length co62) : Value).ownBlock) (.slice Ao35 t892.length co35) t892) ∧ Aside0 (Kd.R k60 60 wc w.heap.size (fun k_ => some k_ ≠ ((.slice Ao35 t892.length co35) : Value).ownBlock ∧ some k_ ≠ ((.slice Ao48 t905.length co48) : Value).ownBlock ∧ some k_ ≠ ((.slice Ao49 t908.length co49) : Value).ownBlock ∧ some k_ ≠ ((.slice Ao60 t922.length co60) : Value).ownBlock ∧ some k_ ≠ ((.slice Ao62 t925.length co62) : Value).ownBlock) (.slice Ao37 t895.length co37) t895) ∧ Aside0 (Kd.R k58 58 wc w.heap.size (fun k_ => some k_ ≠ ((.slice Ao33 t889.length co33) : Value).ownBlock ∧ some k_ ≠ ((.slice Ao58 t919.length co58) : Value).ownBlock) (.slice Ao47 t902.length co47) t944) ∧ Aside0 (Kd.R k60 60 wc w.heap.size (fun k_ => some k_ ≠ ((.slice Ao35 t892.length co35) : Value).ownBlock ∧ some k_ ≠ ((.slice Ao37 t895.length co37) : Value).ownBlock ∧ some k_ ≠ ((.slice Ao49 t908.length co49) : Value).ownBlock ∧ some k_ ≠ ((.slice Ao60 t922.length co60) : Value).ownBlock ∧ some k_ ≠ ((.slice Ao62 t925.length co62) : Value).ownBlock) (.slice Ao48 t905.length co48) t945) ∧ Aside0 (Kd.R k60 60 wc w.heap.size (fun k_ => some k_ ≠ ((.slice Ao35 t892.length co35) : Value).ownBlock ∧ some k_ ≠ ((.slice Ao37 t895.length co37) : Value).ownBlock ∧ some k_ ≠ ((.slice Ao48 t905.length co48) : Value).ownBlock ∧ some k_ ≠ ((.slice Ao60 t922.length co60) : Value).ownBlock ∧ some k_ ≠ ((.slice Ao62 t925.length co62) : Value).ownBlock) (.slice Ao49 t908.length co49) t946) ∧ Aside0 (Kd.R k58 58 wc w.heap.size (fun k_ => some k_ ≠ ((.slice Ao33 t889.length co33) : Value).ownBlock ∧ some k_ ≠ ((.slice Ao47 t902.length co47) : Value).ownBlock) (.slice Ao58 t919.length co58) t919) ∧ Aside0 (Kd.R k60 60 wc w.heap.size (fun k_ => some k_ ≠ ((.slice Ao35 t892.length co35) : Value).ownBlock ∧ some k_ ≠ ((.slice Ao37 t895.length co37) : Value).ownBlock ∧ some k_ ≠ ((.slice Ao48 t905.length co48) : Value).ownBlock ∧ some k_ ≠ ((.slice Ao49 t908.length co49) : Value).ownBlock ∧ some k_ ≠ ((.slice Ao62 t925.length co62) : Value).ownBlock) (.slice Ao60 t922.length co60) t922) ∧ Aside0 (Kd.R k60 60 wc w.heap.size (fun k_ => some k_ ≠ ((.slice Ao35 t892.length co35) : Value).ownBlock ∧ some k_ ≠ ((.slice Ao37 t895.length co37) : Value).ownBlock ∧ some k_ ≠ ((.slice Ao48 t905.length co48) : Value).ownBlock ∧ some k_ ≠ ((.slice Ao49 t908.length co49) : Value).ownBlock ∧ some k_ ≠ ((.slice Ao60 t922.length co60) : Value).ownBlock) (.slice Ao62 t925.length co62) t925) ∧ Aside0 (wc.heap[gb868]? = some (.cells #[.int .i64 a0_0, .int .i64 a0_1, (.slice A0_2 l0_2.length c0_2), (.slice A0_3 l0_3.length c0_3), (.slice A0_4 l0_4.length c0_4)] 27 (0, 0))) ∧ Aside0 (wc.heap[gb869]? = some (.cells #[.int .i64 a1_0, .int .i64 a1_1, .int .i64 a1_2, .int .i64 a1_3, .int .i64 a1_4] 56 (0, 0))) ∧ Aside0 (wc.heap[gb899]? = some (.cells #[.int .i64 t887, .int .i64 t888, (.slice Ao33 t889.length co33), (.slice Ao35 t892.length co35), (.slice Ao37 t895.length co37)] 35 (0, 0))) ∧ Aside0 (wc.heap[gb911]? = some (.cells #[.int .i64 t900, .int .i64 t901, (.slice Ao47 t902.length co47), (.slice Ao48 t905.length co48), (.slice Ao49 t908.length co49)] 35 (0, 0))) ∧ Aside0 (wc.heap[gb929]? = some (.cells #[.int .i64 t917, .int .i64 t918, (.slice Ao58 t919.length co58), (.slice Ao60 t922.length co60), (.slice Ao62 t925.length co62)] 35 (0, 0))) ∧ Aside0 (Below w.heap.size w wc))
      case first =>
       have H := HC91.out
       clear HC91
       by_cases c104 : t943 < 0
       ·rw [if_pos c104] at H
        have c104b0 : decide (t943 < 0) = true := decide_eq_true c104
        clear c104
        (first | rw [c104b0] | (simp only [i64_w, i32_w]; rw [c104b0]) | skip)
        have H' := am H
        clear H
        go_wp2
        go_meet
        case rel => exact ⟨_, (true), sq, H', ⟨by have := HJ15.out; first | omega | exact Nat.le_refl _⟩, ⟨rm HO_900002⟩, ⟨rm HO_900003⟩, ⟨rm HO_900004⟩, ⟨rm HO_912002⟩, ⟨rm HO_912003⟩, ⟨rm HO_912004⟩, ⟨rm HO_930002⟩, ⟨rm HO_930003⟩, ⟨rm HO_930004⟩, ⟨zq BK868⟩, ⟨zq BK869⟩, ⟨zq BK899⟩, ⟨zq BK911⟩, ⟨zq BK929⟩, ⟨bq⟩⟩
       ·rw [if_neg c104] at H
        have c104b0 : decide (t943 < 0) = false := decide_eq_false c104
        clear c104
        (first | rw [c104b0] | (simp only [i64_w, i32_w]; rw [c104b0]) | skip)
        obtain ⟨t947, A105, H⟩ := bindq H
        try dsimp only at H
        by_cases c106 : t947 = true
        ·subst c106
         rw [if_pos rfl] at H
         try dsimp only at H
         have H' := am H
         clear H
         have hnb107 := NB929_868.out
         have hnc107 := NB868_929.out
         have hnb108 := NB929_869.out
         have hnc108 := NB869_929.out
         have hnb109 := NB929_899.out
         have hnc109 := NB899_929.out
         have hnb110 := NB929_911.out
         have hnc110 := NB911_929.out
         have ⟨hcz111_0, hcz111_1, hcz111_2, hcz111_3, hcz111_4, hfz111_0, hfz111_1, hfz111_2, hfz111_3, hfz111_4⟩ := bc5 BK929
         have hnb112 := NB899_868.out
         have hnc112 := NB868_899.out
         have hnb113 := NB899_869.out
         have hnc113 := NB869_899.out
         have hnb114 := NB899_911.out
         have hnc114 := NB911_899.out
         have ⟨hcz115_0, hcz115_1, hcz115_2, hcz115_3, hcz115_4, hfz115_0, hfz115_1, hfz115_2, hfz115_3, hfz115_4⟩ := bc5 BK899
         go_wp2_with (first | (go_at_call 18; (with_reducible refine (laws_eqSession.calls kj15 t917 t918 _ _ t919 _ _ t922 _ _ t925 t887 t888 _ _ t889 _ _ t892 _ _ t895 true _ ?s1 ?s2 ?s3 ?s4 ?s5 ?s6 ?s7 ?s8 ?s9 ?s10 ?s11 ?s12 A105.out).mono ?_); (case s1 => exact cr HO_930002); (case s2 => exact rq1 HO_930002); (case s3 => exact cr HO_930003); (case s4 => exact rq1 HO_930003); (case s5 => exact cr HO_930004); (case s6 => exact rq1 HO_930004); (case s7 => exact cr HO_900002); (case s8 => exact rq1 HO_900002); (case s9 => exact cr HO_900003); (case s10 => exact rq1 HO_900003); (case s11 => exact cr HO_900004); (case s12 => exact rq1 HO_900004); rintro e w116 ⟨rfl, hb⟩; replace HO_900002 := rb HO_900002 hb; replace HO_900003 := rb HO_900003 hb; replace HO_900004 := rb HO_900004 hb; replace HO_912002 := rb HO_912002 hb; replace HO_912003 := rb HO_912003 hb; replace HO_912004 := rb HO_912004 hb; replace HO_930002 := rb HO_930002 hb; replace HO_930003 := rb HO_930003 hb; replace HO_930004 := rb HO_930004 hb; replace HO935 := rb HO935 hb; replace HO938 := rb HO938 hb; replace HO941 := rb HO941 hb; replace BK868 := zb BK868 hb; replace BK869 := zb BK869 hb; replace BK899 := zb BK899 hb; replace BK911 := zb BK911 hb; replace BK929 := zb BK929 hb; replace HB := sb hb; (try clear hb)))
         go_meet
         case rel => exact ⟨_, ((t928 != t898)), sq, H', ⟨by have := HJ15.out; first | omega | exact Nat.le_refl _⟩, ⟨rm HO_900002⟩, ⟨rm HO_900003⟩, ⟨rm HO_900004⟩, ⟨rm HO_912002⟩, ⟨rm HO_912003⟩, ⟨rm HO_912004⟩, ⟨rm HO_930002⟩, ⟨rm HO_930003⟩, ⟨rm HO_930004⟩, ⟨zq BK868⟩, ⟨zq BK869⟩, ⟨zq BK899⟩, ⟨zq BK911⟩, ⟨zq BK929⟩, ⟨bq⟩⟩
        ·replace c106 := Bool.eq_false_iff.mpr c106
         subst c106
         rw [if_neg (show ¬ (false = true) by decide)] at H
         try dsimp only at H
         have H' := am H
         clear H
         have hnb117 := NB929_868.out
         have hnc117 := NB868_929.out
         have hnb118 := NB929_869.out
         have hnc118 := NB869_929.out
         have hnb119 := NB929_899.out
         have hnc119 := NB899_929.out
         have hnb120 := NB929_911.out
         have hnc120 := NB911_929.out
         have ⟨hcz121_0, hcz121_1, hcz121_2, hcz121_3, hcz121_4, hfz121_0, hfz121_1, hfz121_2, hfz121_3, hfz121_4⟩ := bc5 BK929
         have hnb122 := NB899_868.out
         have hnc122 := NB868_899.out
         have hnb123 := NB899_869.out
         have hnc123 := NB869_899.out
         have hnb124 := NB899_911.out
         have hnc124 := NB911_899.out
         have ⟨hcz125_0, hcz125_1, hcz125_2, hcz125_3, hcz125_4, hfz125_0, hfz125_1, hfz125_2, hfz125_3, hfz125_4⟩ := bc5 BK899
         go_wp2_with (first | (go_at_call 18; (with_reducible refine (laws_eqSession.calls kj15 t917 t918 _ _ t919 _ _ t922 _ _ t925 t887 t888 _ _ t889 _ _ t892 _ _ t895 false _ ?s1 ?s2 ?s3 ?s4 ?s5 ?s6 ?s7 ?s8 ?s9 ?s10 ?s11 ?s12 A105.out).mono ?_); (case s1 => exact cr HO_930002); (case s2 => exact rq1 HO_930002); (case s3 => exact cr HO_930003); (case s4 => exact rq1 HO_930003); (case s5 => exact cr HO_930004); (case s6 => exact rq1 HO_930004); (case s7 => exact cr HO_900002); (case s8 => exact rq1 HO_900002); (case s9 => exact cr HO_900003); (case s10 => exact rq1 HO_900003); (case s11 => exact cr HO_900004); (case s12 => exact rq1 HO_900004); rintro e w126 ⟨rfl, hb⟩; replace HO_900002 := rb HO_900002 hb; replace HO_900003 := rb HO_900003 hb; replace HO_900004 := rb HO_900004 hb; replace HO_912002 := rb HO_912002 hb; replace HO_912003 := rb HO_912003 hb; replace HO_912004 := rb HO_912004 hb; replace HO_930002 := rb HO_930002 hb; replace HO_930003 := rb HO_930003 hb; replace HO_930004 := rb HO_930004 hb; replace HO935 := rb HO935 hb; replace HO938 := rb HO938 hb; replace HO941 := rb HO941 hb; replace BK868 := zb BK868 hb; replace BK869 := zb BK869 hb; replace BK899 := zb BK899 hb; replace BK911 := zb BK911 hb; replace BK929 := zb BK929 hb; replace HB := sb hb; (try clear hb)))
         go_meet
         case rel => exact ⟨_, (true), sq, H', ⟨by have := HJ15.out; first | omega | exact Nat.le_refl _⟩, ⟨rm HO_900002⟩, ⟨rm HO_900003⟩, ⟨rm HO_900004⟩, ⟨rm HO_912002⟩, ⟨rm HO_912003⟩, ⟨rm HO_912004⟩, ⟨rm HO_930002⟩, ⟨rm HO_930003⟩, ⟨rm HO_930004⟩, ⟨zq BK868⟩, ⟨zq BK869⟩, ⟨zq BK899⟩, ⟨zq BK911⟩, ⟨zq BK929⟩, ⟨bq⟩⟩
      case rest =>
       clear HC91
       try clear c65
       try clear c86
       try clear c89
       try clear c104b0
       try clear c106
       try clear hcz102_0 hcz102_1 hcz102_2 hcz102_3 hcz102_4 hfz102_0 hfz102_1 hfz102_2 hfz102_3 hfz102_4
       try clear hcz111_0 hcz111_1 hcz111_2 hcz111_3 hcz111_4 hfz111_0 hfz111_1 hfz111_2 hfz111_3 hfz111_4
       try clear hcz115_0 hcz115_1 hcz115_2 hcz115_3 hcz115_4 hfz115_0 hfz115_1 hfz115_2 hfz115_3 hfz115_4
       try clear hcz121_0 hcz121_1 hcz121_2 hcz121_3 hcz121_4 hfz121_0 hfz121_1 hfz121_2 hfz121_3 hfz121_4
       try clear hcz125_0 hcz125_1 hcz125_2 hcz125_3 hcz125_4 hfz125_0 hfz125_1 hfz125_2 hfz125_3 hfz125_4
       try clear hcz70_0 hcz70_1 hcz70_2 hcz70_3 hcz70_4 hfz70_0 hfz70_1 hfz70_2 hfz70_3 hfz70_4
       try clear hcz74_0 hcz74_1 hcz74_2 hcz74_3 hcz74_4 hfz74_0 hfz74_1 hfz74_2 hfz74_3 hfz74_4
       try clear hcz80_0 hcz80_1 hcz80_2 hcz80_3 hcz80_4 hfz80_0 hfz80_1 hfz80_2 hfz80_3 hfz80_4
       try clear hcz84_0 hcz84_1 hcz84_2 hcz84_3 hcz84_4 hfz84_0 hfz84_1 hfz84_2 hfz84_3 hfz84_4
       obtain ⟨kq, x67_90, rfl, HA, HJ90, HO_900002, HO_900003, HO_900004, HO_912002, HO_912003, HO_912004, HO_930002, HO_930003, HO_930004, BK868, BK869, BK899, BK911, BK929, HB⟩ := hcut
       have hl912002_90 := (Kd.R_reads' HO_912002.out).1
       rw [hl912002_90] at HO_912002
       (try simp only [hl912002_90])
       (try simp only [hl912002_90] at BK868)
       (try simp only [hl912002_90] at BK869)
       (try simp only [hl912002_90] at BK899)
       (try simp only [hl912002_90] at BK911)
       (try simp only [hl912002_90] at BK929)
       (try simp only [hl912002_90] at HO_900002)
       (try simp only [hl912002_90] at HO_900003)
       (try simp only [hl912002_90] at HO_900004)
       (try simp only [hl912002_90] at HO_912003)
       (try simp only [hl912002_90] at HO_912004)
       (try simp only [hl912002_90] at HO_930002)
       (try simp only [hl912002_90] at HO_930003)
       (try simp only [hl912002_90] at HO_930004)
       have hl912003_90 := (Kd.R_reads' HO_912003.out).1
       rw [hl912003_90] at HO_912003
       (try simp only [hl912003_90])
       (try simp only [hl912003_90] at BK868)
       (try simp only [hl912003_90] at BK869)
       (try simp only [hl912003_90] at BK899)
       (try simp only [hl912003_90] at BK911)
       (try simp only [hl912003_90] at BK929)
       (try simp only [hl912003_90] at HO_900002)
       (try simp only [hl912003_90] at HO_900003)
       (try simp only [hl912003_90] at HO_900004)
       (try simp only [hl912003_90] at HO_912002)
       (try simp only [hl912003_90] at HO_912004)
       (try simp only [hl912003_90] at HO_930002)
       (try simp only [hl912003_90] at HO_930003)
       (try simp only [hl912003_90] at HO_930004)
       have hl912004_90 := (Kd.R_reads' HO_912004.out).1
       rw [hl912004_90] at HO_912004
       (try simp only [hl912004_90])
       (try simp only [hl912004_90] at BK868)
       (try simp only [hl912004_90] at BK869)
       (try simp only [hl912004_90] at BK899)
       (try simp only [hl912004_90] at BK911)
       (try simp only [hl912004_90] at BK929)
       (try simp only [hl912004_90] at HO_900002)
       (try simp only [hl912004_90] at HO_900003)
       (try simp only [hl912004_90] at HO_900004)
       (try simp only [hl912004_90] at HO_912002)
       (try simp only [hl912004_90] at HO_912003)
       (try simp only [hl912004_90] at HO_930002)
       (try simp only [hl912004_90] at HO_930003)
       (try simp only [hl912004_90] at HO_930004)
       cases kq with
       | zero => exact absurd HA.out (by simp [laws_FnExactActOnce.j1])
       | succ kj90 =>
        have H := HA.out
        clear HA
        simp only [laws_FnExactActOnce.j1] at H
        by_cases c127 : x67_90 = true
        ·subst c127
         rw [if_pos rfl] at H
         try dsimp only at H
         obtain rfl := Option.some.inj H
         go_wp2
         go_ret
         exact ⟨eq_, bq⟩
        ·replace c127 := Bool.eq_false_iff.mpr c127
         subst c127
         rw [if_neg (show ¬ (false = true) by decide)] at H
         try dsimp only at H
         obtain ⟨⟨t948, t949, t950, t951⟩, A128, H⟩ := bindq H
         try dsimp only at H
         obtain ⟨t952, A129, H⟩ := bindq H
         try dsimp only at H
         by_cases c130 : t952 < 0
         ·rw [if_pos c130] at H
          have c130b0 : decide (t952 < 0) = true := decide_eq_true c130
          clear c130
          obtain rfl := Option.some.inj H
          have hnb131 := NB929_868.out
          have hnc131 := NB868_929.out
          have hnb132 := NB929_869.out
          have hnc132 := NB869_929.out
          have hnb133 := NB929_899.out
          have hnc133 := NB899_929.out
          have hnb134 := NB929_911.out
          have hnc134 := NB911_929.out
          have ⟨hcz135_0, hcz135_1, hcz135_2, hcz135_3, hcz135_4, hfz135_0, hfz135_1, hfz135_2, hfz135_3, hfz135_4⟩ := bc5 BK929
          go_wp2_with (first | ((with_reducible refine gate_callee (f := 25) rfl ?_); refine goesQ (some 70) Try.func25 #[.agg #[.int .i64 t917, .int .i64 t918, .slice Ao58 t919.length co58, .slice Ao60 t922.length co60, .slice Ao62 t925.length co62], .int .i64 1] ?_; (with_reducible refine (laws_markSession.calls kj90 t917 t918 (fun k_ => some k_ = (.slice Ao58 t919.length co58 : Value).ownBlock) (.slice Ao58 t919.length co58) t919 (fun k_ => some k_ = (.slice Ao60 t922.length co60 : Value).ownBlock) (.slice Ao60 t922.length co60) t922 (fun k_ => some k_ = (.slice Ao62 t925.length co62 : Value).ownBlock) (.slice Ao62 t925.length co62) t925 1 t948 t949 t950 t951 w _ ?s1 ?s2 ?s3 ?s4 ?s5 ?s6 A128.out).mono ?_); (case s1 => repeat (first | (with_reducible first | exact HB.out | apply below_alloc | apply pw_below_drewN | apply below_drew1 | refine below_set ?_ GE868.out | refine below_set ?_ GE869.out | refine below_set ?_ GE899.out | refine below_set ?_ GE911.out | refine below_set ?_ GE929.out) | exact HB.out)); (case s2 => exact Kd.R_tight rfl HO_930002.out); (case s3 => exact Kd.R_tight rfl HO_930003.out); (case s4 => exact fun k_ e_ => (HO_930003.out.1 k_ e_.symm).2.2.2.2); (case s5 => exact Kd.R_tight rfl HO_930004.out); (case s6 => exact fun k_ e_ => (HO_930004.out.1 k_ e_.symm).2.2.2.2); rintro e w136 ⟨rfl, hy0, hy1, hy2, hb, hkp⟩; refine ⟨_, rfl, ?_⟩; replace HO_900002 := am (Kd.R_mono (ok' := fun k_ => some k_ ≠ (.slice Ao47 t944.length co47 : Value).ownBlock ∧ some k_ ≠ (.slice Ao58 t919.length co58 : Value).ownBlock) (Kd.R_keptB ((Kd.R_apart' (Kd.R_apart' HO_900002.out (Kd.R_typed HO_930003.out) (by decide)) (Kd.R_typed HO_930004.out) (by decide))) hkp (fun k_ hk_ hs_ => Or.elim hs_ (fun e_ => (hk_.1.1.2) e_) (fun e_ => Or.elim e_ (fun e_ => (hk_.1.2) e_) (fun e_ => (hk_.2) e_)))) (fun k_ hk_ => ⟨hk_.1.1.1.1, hk_.1.1.1.2⟩)); replace HO_900003 := am (Kd.R_mono (ok' := fun k_ => some k_ ≠ (.slice Ao37 t895.length co37 : Value).ownBlock ∧ some k_ ≠ (.slice Ao48 t945.length co48 : Value).ownBlock ∧ some k_ ≠ (.slice Ao49 t946.length co49 : Value).ownBlock ∧ some k_ ≠ (.slice Ao60 t922.length co60 : Value).ownBlock ∧ some k_ ≠ (.slice Ao62 t925.length co62 : Value).ownBlock) (Kd.R_keptB ((Kd.R_apart' HO_900003.out (Kd.R_typed HO_930002.out) (by decide))) hkp (fun k_ hk_ hs_ => Or.elim hs_ (fun e_ => (hk_.2) e_) (fun e_ => Or.elim e_ (fun e_ => (hk_.1.2.2.2.1) e_) (fun e_ => (hk_.1.2.2.2.2) e_)))) (fun k_ hk_ => ⟨hk_.1.1.1, hk_.1.1.2.1, hk_.1.1.2.2.1, hk_.1.1.2.2.2.1, hk_.1.1.2.2.2.2⟩)); replace HO_900004 := am (Kd.R_mono (ok' := fun k_ => some k_ ≠ (.slice Ao35 t892.length co35 : Value).ownBlock ∧ some k_ ≠ (.slice Ao48 t945.length co48 : Value).ownBlock ∧ some k_ ≠ (.slice Ao49 t946.length co49 : Value).ownBlock ∧ some k_ ≠ (.slice Ao60 t922.length co60 : Value).ownBlock ∧ some k_ ≠ (.slice Ao62 t925.length co62 : Value).ownBlock) (Kd.R_keptB ((Kd.R_apart' HO_900004.out (Kd.R_typed HO_930002.out) (by decide))) hkp (fun k_ hk_ hs_ => Or.elim hs_ (fun e_ => (hk_.2) e_) (fun e_ => Or.elim e_ (fun e_ => (hk_.1.2.2.2.1) e_) (fun e_ => (hk_.1.2.2.2.2) e_)))) (fun k_ hk_ => ⟨hk_.1.1.1, hk_.1.1.2.1, hk_.1.1.2.2.1, hk_.1.1.2.2.2.1, hk_.1.1.2.2.2.2⟩)); replace HO_912002 := am (Kd.R_mono (ok' := fun k_ => some k_ ≠ (.slice Ao33 t889.length co33 : Value).ownBlock ∧ some k_ ≠ (.slice Ao58 t919.length co58 : Value).ownBlock) (Kd.R_keptB ((Kd.R_apart' (Kd.R_apart' HO_912002.out (Kd.R_typed HO_930003.out) (by decide)) (Kd.R_typed HO_930004.out) (by decide))) hkp (fun k_ hk_ hs_ => Or.elim hs_ (fun e_ => (hk_.1.1.2) e_) (fun e_ => Or.elim e_ (fun e_ => (hk_.1.2) e_) (fun e_ => (hk_.2) e_)))) (fun k_ hk_ => ⟨hk_.1.1.1.1, hk_.1.1.1.2⟩)); replace HO_912003 := am (Kd.R_mono (ok' := fun k_ => some k_ ≠ (.slice Ao35 t892.length co35 : Value).ownBlock ∧ some k_ ≠ (.slice Ao37 t895.length co37 : Value).ownBlock ∧ some k_ ≠ (.slice Ao49 t946.length co49 : Value).ownBlock ∧ some k_ ≠ (.slice Ao60 t922.length co60 : Value).ownBlock ∧ some k_ ≠ (.slice Ao62 t925.length co62 : Value).ownBlock) (Kd.R_keptB ((Kd.R_apart' HO_912003.out (Kd.R_typed HO_930002.out) (by decide))) hkp (fun k_ hk_ hs_ => Or.elim hs_ (fun e_ => (hk_.2) e_) (fun e_ => Or.elim e_ (fun e_ => (hk_.1.2.2.2.1) e_) (fun e_ => (hk_.1.2.2.2.2) e_)))) (fun k_ hk_ => ⟨hk_.1.1.1, hk_.1.1.2.1, hk_.1.1.2.2.1, hk_.1.1.2.2.2.1, hk_.1.1.2.2.2.2⟩)); replace HO_912004 := am (Kd.R_mono (ok' := fun k_ => some k_ ≠ (.slice Ao35 t892.length co35 : Value).ownBlock ∧ some k_ ≠ (.slice Ao37 t895.length co37 : Value).ownBlock ∧ some k_ ≠ (.slice Ao48 t945.length co48 : Value).ownBlock ∧ some k_ ≠ (.slice Ao60 t922.length co60 : Value).ownBlock ∧ some k_ ≠ (.slice Ao62 t925.length co62 : Value).ownBlock) (Kd.R_keptB ((Kd.R_apart' HO_912004.out (Kd.R_typed HO_930002.out) (by decide))) hkp (fun k_ hk_ hs_ => Or.elim hs_ (fun e_ => (hk_.2) e_) (fun e_ => Or.elim e_ (fun e_ => (hk_.1.2.2.2.1) e_) (fun e_ => (hk_.1.2.2.2.2) e_)))) (fun k_ hk_ => ⟨hk_.1.1.1, hk_.1.1.2.1, hk_.1.1.2.2.1, hk_.1.1.2.2.2.1, hk_.1.1.2.2.2.2⟩)); replace BK868 := am (blk_kept (zq BK868) hkp (fun hs_ => Or.elim hs_ (fun e_ => (fun e_ => (Kd.R_ne HO_930002.out BK868.out (by decide)) e_) e_) (fun e_ => Or.elim e_ (fun e_ => (fun e_ => (Kd.R_ne HO_930003.out BK868.out (by decide)) e_) e_) (fun e_ => (fun e_ => (Kd.R_ne HO_930004.out BK868.out (by decide)) e_) e_)))); replace BK869 := am (blk_kept (zq BK869) hkp (fun hs_ => Or.elim hs_ (fun e_ => (fun e_ => (Kd.R_ne HO_930002.out BK869.out (by decide)) e_) e_) (fun e_ => Or.elim e_ (fun e_ => (fun e_ => (Kd.R_ne HO_930003.out BK869.out (by decide)) e_) e_) (fun e_ => (fun e_ => (Kd.R_ne HO_930004.out BK869.out (by decide)) e_) e_)))); replace BK899 := am (blk_kept (zq BK899) hkp (fun hs_ => Or.elim hs_ (fun e_ => (fun e_ => (Kd.R_ne HO_930002.out BK899.out (by decide)) e_) e_) (fun e_ => Or.elim e_ (fun e_ => (fun e_ => (Kd.R_ne HO_930003.out BK899.out (by decide)) e_) e_) (fun e_ => (fun e_ => (Kd.R_ne HO_930004.out BK899.out (by decide)) e_) e_)))); replace BK911 := am (blk_kept (zq BK911) hkp (fun hs_ => Or.elim hs_ (fun e_ => (fun e_ => (Kd.R_ne HO_930002.out BK911.out (by decide)) e_) e_) (fun e_ => Or.elim e_ (fun e_ => (fun e_ => (Kd.R_ne HO_930003.out BK911.out (by decide)) e_) e_) (fun e_ => (fun e_ => (Kd.R_ne HO_930004.out BK911.out (by decide)) e_) e_)))); replace BK929 := am (blk_kept (zq BK929) hkp (fun hs_ => Or.elim hs_ (fun e_ => (fun e_ => (Kd.R_ne HO_930002.out BK929.out (by decide)) e_) e_) (fun e_ => Or.elim e_ (fun e_ => (fun e_ => (Kd.R_ne HO_930003.out BK929.out (by decide)) e_) e_) (fun e_ => (fun e_ => (Kd.R_ne HO_930004.out BK929.out (by decide)) e_) e_)))); replace HO_930002 := am (Kd.R_reok rfl hy0 (fun k_ e_ => HO_930002.out.1 k_ e_)); replace HO_930003 := am (Kd.R_reok rfl hy1 (fun k_ e_ => HO_930003.out.1 k_ e_)); replace HO_930004 := am (Kd.R_reok rfl hy2 (fun k_ e_ => HO_930004.out.1 k_ e_)); replace HB := am (hb); (try clear hb hkp hy0 hy1 hy2); have ⟨hcz137_0, hcz137_1, hcz137_2, hcz137_3, hcz137_4, hfz137_0, hfz137_1, hfz137_2, hfz137_3, hfz137_4⟩ := bc5 BK929) | ((with_reducible refine gate_callee (f := 26) rfl ?_); refine goesL_ (some 73) rfl rfl Try.func26 (by kernel_rfl) rfl #[.agg #[.int .i64 t917, .int .i64 t918, .slice Ao58 t949.length co58, .slice Ao60 t950.length co60, .slice Ao62 t951.length co62], .int .i64 1] rfl (by (try simp only [List.map_toArray, List.map_cons, List.map_nil]); first | done | (rw [show t949.length = t919.length from (Kd.R_reads' HO_930002.out).1.symm, show t950.length = t922.length from (Kd.R_reads' HO_930003.out).1.symm, show t951.length = t925.length from (Kd.R_reads' HO_930004.out).1.symm] <;> rfl) | rfl | (simp only [List.length_drop, List.length_take]; rfl)) ?_; (with_reducible refine (laws_heldSession.calls kj90 t917 t918 _ _ t949 _ _ t950 _ _ t951 1 t952 _ ?s1 ?s2 ?s3 ?s4 ?s5 ?s6 A129.out).mono ?_); (case s1 => exact cr HO_930002); (case s2 => rw [show t949.length = t919.length from (Kd.R_reads' HO_930002.out).1.symm]; exact rq1 HO_930002); (case s3 => exact cr HO_930003); (case s4 => rw [show t950.length = t922.length from (Kd.R_reads' HO_930003.out).1.symm]; exact rq1 HO_930003); (case s5 => exact cr HO_930004); (case s6 => rw [show t951.length = t925.length from (Kd.R_reads' HO_930004.out).1.symm]; exact rq1 HO_930004); rintro e w138 ⟨rfl, hb⟩; refine ⟨_, rfl, ?_⟩; replace HO_900002 := rb HO_900002 hb; replace HO_900003 := rb HO_900003 hb; replace HO_900004 := rb HO_900004 hb; replace HO_912002 := rb HO_912002 hb; replace HO_912003 := rb HO_912003 hb; replace HO_912004 := rb HO_912004 hb; replace HO_930002 := rb HO_930002 hb; replace HO_930003 := rb HO_930003 hb; replace HO_930004 := rb HO_930004 hb; replace BK868 := zb BK868 hb; replace BK869 := zb BK869 hb; replace BK899 := zb BK899 hb; replace BK911 := zb BK911 hb; replace BK929 := zb BK929 hb; replace HB := sb hb; (try clear hb)))
          go_ret
          exact ⟨eq_, bq⟩
         ·rw [if_neg c130] at H
          have c130b0 : decide (t952 < 0) = false := decide_eq_false c130
          clear c130
          by_cases c139 : t952 = t948
          ·rw [if_pos c139] at H
           have c139b0 : (t952 == t948) = true := beq_iff_eq.mpr c139
           have c139b1 : (t952 != t948) = false := bne_eq_false_iff_eq.mpr c139
           clear c139
           obtain ⟨⟨t953, t954, t955, t958, t961⟩, A140, H⟩ := bindq H
           try dsimp only at H
           obtain ⟨⟨t964, t965, t966, t967, t968⟩, A141, H⟩ := bindq H
           try dsimp only at H
           obtain ⟨⟨t969, t970, t971, t974, t977, t980⟩, A142, H⟩ := bindq H
           try dsimp only at H
           have HC143 := am H
           clear H
           have hnb144 := NB929_868.out
           have hnc144 := NB868_929.out
           have hnb145 := NB929_869.out
           have hnc145 := NB869_929.out
           have hnb146 := NB929_899.out
           have hnc146 := NB899_929.out
           have hnb147 := NB929_911.out
           have hnc147 := NB911_929.out
           have ⟨hcz148_0, hcz148_1, hcz148_2, hcz148_3, hcz148_4, hfz148_0, hfz148_1, hfz148_2, hfz148_3, hfz148_4⟩ := bc5 BK929
           try go_wp2_with (first | ((with_reducible refine gate_callee (f := 25) rfl ?_); refine goesQ (some 70) Try.func25 #[.agg #[.int .i64 t917, .int .i64 t918, .slice Ao58 t919.length co58, .slice Ao60 t922.length co60, .slice Ao62 t925.length co62], .int .i64 1] ?_; (with_reducible refine (laws_markSession.calls kj90 t917 t918 (fun k_ => some k_ = (.slice Ao58 t919.length co58 : Value).ownBlock) (.slice Ao58 t919.length co58) t919 (fun k_ => some k_ = (.slice Ao60 t922.length co60 : Value).ownBlock) (.slice Ao60 t922.length co60) t922 (fun k_ => some k_ = (.slice Ao62 t925.length co62 : Value).ownBlock) (.slice Ao62 t925.length co62) t925 1 t948 t949 t950 t951 w _ ?s1 ?s2 ?s3 ?s4 ?s5 ?s6 A128.out).mono ?_); (case s1 => repeat (first | (with_reducible first | exact HB.out | apply below_alloc | apply pw_below_drewN | apply below_drew1 | refine below_set ?_ GE868.out | refine below_set ?_ GE869.out | refine below_set ?_ GE899.out | refine below_set ?_ GE911.out | refine below_set ?_ GE929.out) | exact HB.out)); (case s2 => exact Kd.R_tight rfl HO_930002.out); (case s3 => exact Kd.R_tight rfl HO_930003.out); (case s4 => exact fun k_ e_ => (HO_930003.out.1 k_ e_.symm).2.2.2.2); (case s5 => exact Kd.R_tight rfl HO_930004.out); (case s6 => exact fun k_ e_ => (HO_930004.out.1 k_ e_.symm).2.2.2.2); rintro e w149 ⟨rfl, hy0, hy1, hy2, hb, hkp⟩; refine ⟨_, rfl, ?_⟩; replace HO_900002 := am (Kd.R_mono (ok' := fun k_ => some k_ ≠ (.slice Ao47 t944.length co47 : Value).ownBlock ∧ some k_ ≠ (.slice Ao58 t919.length co58 : Value).ownBlock) (Kd.R_keptB ((Kd.R_apart' (Kd.R_apart' HO_900002.out (Kd.R_typed HO_930003.out) (by decide)) (Kd.R_typed HO_930004.out) (by decide))) hkp (fun k_ hk_ hs_ => Or.elim hs_ (fun e_ => (hk_.1.1.2) e_) (fun e_ => Or.elim e_ (fun e_ => (hk_.1.2) e_) (fun e_ => (hk_.2) e_)))) (fun k_ hk_ => ⟨hk_.1.1.1.1, hk_.1.1.1.2⟩)); replace HO_900003 := am (Kd.R_mono (ok' := fun k_ => some k_ ≠ (.slice Ao37 t895.length co37 : Value).ownBlock ∧ some k_ ≠ (.slice Ao48 t945.length co48 : Value).ownBlock ∧ some k_ ≠ (.slice Ao49 t946.length co49 : Value).ownBlock ∧ some k_ ≠ (.slice Ao60 t922.length co60 : Value).ownBlock ∧ some k_ ≠ (.slice Ao62 t925.length co62 : Value).ownBlock) (Kd.R_keptB ((Kd.R_apart' HO_900003.out (Kd.R_typed HO_930002.out) (by decide))) hkp (fun k_ hk_ hs_ => Or.elim hs_ (fun e_ => (hk_.2) e_) (fun e_ => Or.elim e_ (fun e_ => (hk_.1.2.2.2.1) e_) (fun e_ => (hk_.1.2.2.2.2) e_)))) (fun k_ hk_ => ⟨hk_.1.1.1, hk_.1.1.2.1, hk_.1.1.2.2.1, hk_.1.1.2.2.2.1, hk_.1.1.2.2.2.2⟩)); replace HO_900004 := am (Kd.R_mono (ok' := fun k_ => some k_ ≠ (.slice Ao35 t892.length co35 : Value).ownBlock ∧ some k_ ≠ (.slice Ao48 t945.length co48 : Value).ownBlock ∧ some k_ ≠ (.slice Ao49 t946.length co49 : Value).ownBlock ∧ some k_ ≠ (.slice Ao60 t922.length co60 : Value).ownBlock ∧ some k_ ≠ (.slice Ao62 t925.length co62 : Value).ownBlock) (Kd.R_keptB ((Kd.R_apart' HO_900004.out (Kd.R_typed HO_930002.out) (by decide))) hkp (fun k_ hk_ hs_ => Or.elim hs_ (fun e_ => (hk_.2) e_) (fun e_ => Or.elim e_ (fun e_ => (hk_.1.2.2.2.1) e_) (fun e_ => (hk_.1.2.2.2.2) e_)))) (fun k_ hk_ => ⟨hk_.1.1.1, hk_.1.1.2.1, hk_.1.1.2.2.1, hk_.1.1.2.2.2.1, hk_.1.1.2.2.2.2⟩)); replace HO_912002 := am (Kd.R_mono (ok' := fun k_ => some k_ ≠ (.slice Ao33 t889.length co33 : Value).ownBlock ∧ some k_ ≠ (.slice Ao58 t919.length co58 : Value).ownBlock) (Kd.R_keptB ((Kd.R_apart' (Kd.R_apart' HO_912002.out (Kd.R_typed HO_930003.out) (by decide)) (Kd.R_typed HO_930004.out) (by decide))) hkp (fun k_ hk_ hs_ => Or.elim hs_ (fun e_ => (hk_.1.1.2) e_) (fun e_ => Or.elim e_ (fun e_ => (hk_.1.2) e_) (fun e_ => (hk_.2) e_)))) (fun k_ hk_ => ⟨hk_.1.1.1.1, hk_.1.1.1.2⟩)); replace HO_912003 := am (Kd.R_mono (ok' := fun k_ => some k_ ≠ (.slice Ao35 t892.length co35 : Value).ownBlock ∧ some k_ ≠ (.slice Ao37 t895.length co37 : Value).ownBlock ∧ some k_ ≠ (.slice Ao49 t946.length co49 : Value).ownBlock ∧ some k_ ≠ (.slice Ao60 t922.length co60 : Value).ownBlock ∧ some k_ ≠ (.slice Ao62 t925.length co62 : Value).ownBlock) (Kd.R_keptB ((Kd.R_apart' HO_912003.out (Kd.R_typed HO_930002.out) (by decide))) hkp (fun k_ hk_ hs_ => Or.elim hs_ (fun e_ => (hk_.2) e_) (fun e_ => Or.elim e_ (fun e_ => (hk_.1.2.2.2.1) e_) (fun e_ => (hk_.1.2.2.2.2) e_)))) (fun k_ hk_ => ⟨hk_.1.1.1, hk_.1.1.2.1, hk_.1.1.2.2.1, hk_.1.1.2.2.2.1, hk_.1.1.2.2.2.2⟩)); replace HO_912004 := am (Kd.R_mono (ok' := fun k_ => some k_ ≠ (.slice Ao35 t892.length co35 : Value).ownBlock ∧ some k_ ≠ (.slice Ao37 t895.length co37 : Value).ownBlock ∧ some k_ ≠ (.slice Ao48 t945.length co48 : Value).ownBlock ∧ some k_ ≠ (.slice Ao60 t922.length co60 : Value).ownBlock ∧ some k_ ≠ (.slice Ao62 t925.length co62 : Value).ownBlock) (Kd.R_keptB ((Kd.R_apart' HO_912004.out (Kd.R_typed HO_930002.out) (by decide))) hkp (fun k_ hk_ hs_ => Or.elim hs_ (fun e_ => (hk_.2) e_) (fun e_ => Or.elim e_ (fun e_ => (hk_.1.2.2.2.1) e_) (fun e_ => (hk_.1.2.2.2.2) e_)))) (fun k_ hk_ => ⟨hk_.1.1.1, hk_.1.1.2.1, hk_.1.1.2.2.1, hk_.1.1.2.2.2.1, hk_.1.1.2.2.2.2⟩)); replace BK868 := am (blk_kept (zq BK868) hkp (fun hs_ => Or.elim hs_ (fun e_ => (fun e_ => (Kd.R_ne HO_930002.out BK868.out (by decide)) e_) e_) (fun e_ => Or.elim e_ (fun e_ => (fun e_ => (Kd.R_ne HO_930003.out BK868.out (by decide)) e_) e_) (fun e_ => (fun e_ => (Kd.R_ne HO_930004.out BK868.out (by decide)) e_) e_)))); replace BK869 := am (blk_kept (zq BK869) hkp (fun hs_ => Or.elim hs_ (fun e_ => (fun e_ => (Kd.R_ne HO_930002.out BK869.out (by decide)) e_) e_) (fun e_ => Or.elim e_ (fun e_ => (fun e_ => (Kd.R_ne HO_930003.out BK869.out (by decide)) e_) e_) (fun e_ => (fun e_ => (Kd.R_ne HO_930004.out BK869.out (by decide)) e_) e_)))); replace BK899 := am (blk_kept (zq BK899) hkp (fun hs_ => Or.elim hs_ (fun e_ => (fun e_ => (Kd.R_ne HO_930002.out BK899.out (by decide)) e_) e_) (fun e_ => Or.elim e_ (fun e_ => (fun e_ => (Kd.R_ne HO_930003.out BK899.out (by decide)) e_) e_) (fun e_ => (fun e_ => (Kd.R_ne HO_930004.out BK899.out (by decide)) e_) e_)))); replace BK911 := am (blk_kept (zq BK911) hkp (fun hs_ => Or.elim hs_ (fun e_ => (fun e_ => (Kd.R_ne HO_930002.out BK911.out (by decide)) e_) e_) (fun e_ => Or.elim e_ (fun e_ => (fun e_ => (Kd.R_ne HO_930003.out BK911.out (by decide)) e_) e_) (fun e_ => (fun e_ => (Kd.R_ne HO_930004.out BK911.out (by decide)) e_) e_)))); replace BK929 := am (blk_kept (zq BK929) hkp (fun hs_ => Or.elim hs_ (fun e_ => (fun e_ => (Kd.R_ne HO_930002.out BK929.out (by decide)) e_) e_) (fun e_ => Or.elim e_ (fun e_ => (fun e_ => (Kd.R_ne HO_930003.out BK929.out (by decide)) e_) e_) (fun e_ => (fun e_ => (Kd.R_ne HO_930004.out BK929.out (by decide)) e_) e_)))); replace HO_930002 := am (Kd.R_reok rfl hy0 (fun k_ e_ => HO_930002.out.1 k_ e_)); replace HO_930003 := am (Kd.R_reok rfl hy1 (fun k_ e_ => HO_930003.out.1 k_ e_)); replace HO_930004 := am (Kd.R_reok rfl hy2 (fun k_ e_ => HO_930004.out.1 k_ e_)); replace HB := am (hb); (try clear hb hkp hy0 hy1 hy2); have ⟨hcz150_0, hcz150_1, hcz150_2, hcz150_3, hcz150_4, hfz150_0, hfz150_1, hfz150_2, hfz150_3, hfz150_4⟩ := bc5 BK929) | ((with_reducible refine gate_callee (f := 26) rfl ?_); refine goesL_ (some 73) rfl rfl Try.func26 (by kernel_rfl) rfl #[.agg #[.int .i64 t917, .int .i64 t918, .slice Ao58 t949.length co58, .slice Ao60 t950.length co60, .slice Ao62 t951.length co62], .int .i64 1] rfl (by (try simp only [List.map_toArray, List.map_cons, List.map_nil]); first | done | (rw [show t949.length = t919.length from (Kd.R_reads' HO_930002.out).1.symm, show t950.length = t922.length from (Kd.R_reads' HO_930003.out).1.symm, show t951.length = t925.length from (Kd.R_reads' HO_930004.out).1.symm] <;> rfl) | rfl | (simp only [List.length_drop, List.length_take]; rfl)) ?_; (with_reducible refine (laws_heldSession.calls kj90 t917 t918 _ _ t949 _ _ t950 _ _ t951 1 t952 _ ?s1 ?s2 ?s3 ?s4 ?s5 ?s6 A129.out).mono ?_); (case s1 => exact cr HO_930002); (case s2 => rw [show t949.length = t919.length from (Kd.R_reads' HO_930002.out).1.symm]; exact rq1 HO_930002); (case s3 => exact cr HO_930003); (case s4 => rw [show t950.length = t922.length from (Kd.R_reads' HO_930003.out).1.symm]; exact rq1 HO_930003); (case s5 => exact cr HO_930004); (case s6 => rw [show t951.length = t925.length from (Kd.R_reads' HO_930004.out).1.symm]; exact rq1 HO_930004); rintro e w151 ⟨rfl, hb⟩; refine ⟨_, rfl, ?_⟩; replace HO_900002 := rb HO_900002 hb; replace HO_900003 := rb HO_900003 hb; replace HO_900004 := rb HO_900004 hb; replace HO_912002 := rb HO_912002 hb; replace HO_912003 := rb HO_912003 hb; replace HO_912004 := rb HO_912004 hb; replace HO_930002 := rb HO_930002 hb; replace HO_930003 := rb HO_930003 hb; replace HO_930004 := rb HO_930004 hb; replace BK868 := zb BK868 hb; replace BK869 := zb BK869 hb; replace BK899 := zb BK899 hb; replace BK911 := zb BK911 hb; replace BK929 := zb BK929 hb; replace HB := sb hb; (try clear hb)))
           replace HO_900002 := am (Kd.R_drew HO_900002.out)
           replace HO_900003 := am (Kd.R_drew HO_900003.out)
           replace HO_900004 := am (Kd.R_drew HO_900004.out)
           replace HO_912002 := am (Kd.R_drew HO_912002.out)
           replace HO_912003 := am (Kd.R_drew HO_912003.out)
           replace HO_912004 := am (Kd.R_drew HO_912004.out)
           replace HO_930002 := am (Kd.R_drew HO_930002.out)
           replace HO_930003 := am (Kd.R_drew HO_930003.out)
           replace HO_930004 := am (Kd.R_drew HO_930004.out)
           replace BK868 := am (blk_drew BK868.out)
           replace BK869 := am (blk_drew BK869.out)
           replace BK899 := am (blk_drew BK899.out)
           replace BK911 := am (blk_drew BK911.out)
           replace BK929 := am (blk_drew BK929.out)
           replace HB := am (below_drew1 HB.out)
           refine start_ (n := 11) (S := fun w' => w'.cell? ⟨gb868, 0, none⟩ = some (.int .i64 a0_0) ∧ w'.cell? ⟨gb868, 1, none⟩ = some (.int .i64 a0_1) ∧ w'.cell? ⟨gb868, 2, none⟩ = some (.slice A0_2 l0_2.length c0_2) ∧ w'.cell? ⟨gb868, 3, none⟩ = some (.slice A0_3 l0_3.length c0_3) ∧ w'.cell? ⟨gb868, 4, none⟩ = some (.slice A0_4 l0_4.length c0_4) ∧ w'.cell? ⟨gb869, 0, none⟩ = some (.int .i64 a1_0) ∧ w'.cell? ⟨gb869, 1, none⟩ = some (.int .i64 a1_1) ∧ w'.cell? ⟨gb869, 2, none⟩ = some (.int .i64 a1_2) ∧ w'.cell? ⟨gb869, 3, none⟩ = some (.int .i64 a1_3) ∧ w'.cell? ⟨gb869, 4, none⟩ = some (.int .i64 a1_4)) (ds := []) #[false, false, false, false, false, false, false, false, false, false, false] (by kernel_rfl) rfl rfl cl (fun hHeld => ?_); refine with_tabW laws_FnExactActOnce.tab24 laws_FnExactActOnce.bits24 (fun HT_ HW_ => ?_)
           generalize w151.drew = w152 at HO_900002 HO_900003 HO_900004 HO_912002 HO_912003 HO_912004 HO_930002 HO_930003 HO_930004 BK868 BK869 BK899 BK911 BK929 HB hHeld ⊢
           refine take_ (i := 0) (N := some 80) (v := ?_) (a' := ?_) #[true, false, false, false, false, false, false, false, false, false, false] rfl rfl (take_ofW HT_.out HW_.out (by kernel_rfl)) (fun _ _ _ h => h) (Or.inl ⟨by rfl, ?_⟩) hHeld ?_ ?_
           rotate_left
           ·rintro w' ⟨s0, s1, s2, s3, s4, s5, s6, s7, s8, s9⟩
            go_simp
            with_reducible rfl
           rotate_left
           ·simp only [Act.put, List.setIfInBounds_toArray, List.set_cons_zero, List.set_cons_succ, i64_w, i32_w]
            rfl
           refine take_ (i := 2) (N := some 82) (v := ?_) (a' := ?_) #[true, false, true, false, false, false, false, false, false, false, false] rfl rfl (take_ofW HT_.out HW_.out (by kernel_rfl)) (fun _ _ _ h => h) (Or.inl ⟨by rfl, ?_⟩) hHeld ?_ ?_
           rotate_left
           ·rintro w' ⟨s0, s1, s2, s3, s4, s5, s6, s7, s8, s9⟩
            go_simp
            with_reducible rfl
           rotate_left
           ·simp only [Act.put, List.setIfInBounds_toArray, List.set_cons_zero, List.set_cons_succ, i64_w, i32_w]
            rfl
           refine join_ (σ := Value × Value × Value × Value × Value × Value × Nat) 2 #[true, true, true, true, true, true, true, true, true, false, false] (fun s_ => [(81, .agg #[.int .i64 t953, .int .i64 t954, s_.1, s_.2.1, s_.2.2.1]), (83, .agg #[.int .i64 t964, .int .i64 t965, .int .i64 t966, .int .i64 t967, .int .i64 t968]), (84, .tuple #[.agg #[.int .i64 t969, .int .i64 t970, s_.2.2.2.1, s_.2.2.2.2.1, s_.2.2.2.2.2.1], .bool t980]), (14, .pointer (some ⟨s_.2.2.2.2.2.2, 0, none⟩)), (79, .tuple #[.agg #[.int .i64 t969, .int .i64 t970, s_.2.2.2.1, s_.2.2.2.2.1, s_.2.2.2.2.2.1], .bool t980]), (85, .agg #[.int .i64 t969, .int .i64 t970, s_.2.2.2.1, s_.2.2.2.2.1, s_.2.2.2.2.2.1]), (86, .bool t980)]) (fun s_ w' => (w'.cell? ⟨gb868, 0, none⟩ = some (.int .i64 a0_0) ∧ w'.cell? ⟨gb868, 1, none⟩ = some (.int .i64 a0_1) ∧ w'.cell? ⟨gb868, 2, none⟩ = some (.slice A0_2 l0_2.length c0_2) ∧ w'.cell? ⟨gb868, 3, none⟩ = some (.slice A0_3 l0_3.length c0_3) ∧ w'.cell? ⟨gb868, 4, none⟩ = some (.slice A0_4 l0_4.length c0_4) ∧ w'.cell? ⟨gb869, 0, none⟩ = some (.int .i64 a1_0) ∧ w'.cell? ⟨gb869, 1, none⟩ = some (.int .i64 a1_1) ∧ w'.cell? ⟨gb869, 2, none⟩ = some (.int .i64 a1_2) ∧ w'.cell? ⟨gb869, 3, none⟩ = some (.int .i64 a1_3) ∧ w'.cell? ⟨gb869, 4, none⟩ = some (.int .i64 a1_4)) ∧ (Kd.R k58 58 w' w.heap.size (fun k_ => some k_ ≠ (s_.2.2.2.1 : Value).ownBlock ∧ some k_ ≠ (.slice Ao33 t889.length co33 : Value).ownBlock ∧ some k_ ≠ (.slice Ao47 t944.length co47 : Value).ownBlock ∧ some k_ ≠ (.slice Ao58 t919.length co58 : Value).ownBlock) s_.1 t955) ∧ (Kd.R k60 60 w' w.heap.size (fun k_ => some k_ ≠ (s_.2.2.1 : Value).ownBlock ∧ some k_ ≠ (s_.2.2.2.2.1 : Value).ownBlock ∧ some k_ ≠ (s_.2.2.2.2.2.1 : Value).ownBlock ∧ some k_ ≠ (.slice Ao35 t892.length co35 : Value).ownBlock ∧ some k_ ≠ (.slice Ao37 t895.length co37 : Value).ownBlock ∧ some k_ ≠ (.slice Ao48 t945.length co48 : Value).ownBlock ∧ some k_ ≠ (.slice Ao49 t946.length co49 : Value).ownBlock ∧ some k_ ≠ (.slice Ao60 t922.length co60 : Value).ownBlock ∧ some k_ ≠ (.slice Ao62 t925.length co62 : Value).ownBlock) s_.2.1 t958) ∧ (Kd.R k60 60 w' w.heap.size (fun k_ => some k_ ≠ (s_.2.1 : Value).ownBlock ∧ some k_ ≠ (s_.2.2.2.2.1 : Value).ownBlock ∧ some k_ ≠ (s_.2.2.2.2.2.1 : Value).ownBlock ∧ some k_ ≠ (.slice Ao35 t892.length co35 : Value).ownBlock ∧ some k_ ≠ (.slice Ao37 t895.length co37 : Value).ownBlock ∧ some k_ ≠ (.slice Ao48 t945.length co48 : Value).ownBlock ∧ some k_ ≠ (.slice Ao49 t946.length co49 : Value).ownBlock ∧ some k_ ≠ (.slice Ao60 t922.length co60 : Value).ownBlock ∧ some k_ ≠ (.slice Ao62 t925.length co62 : Value).ownBlock) s_.2.2.1 t961) ∧ (Kd.R k58 58 w' w.heap.size (fun k_ => some k_ ≠ (s_.1 : Value).ownBlock ∧ some k_ ≠ (.slice Ao33 t889.length co33 : Value).ownBlock ∧ some k_ ≠ (.slice Ao47 t944.length co47 : Value).ownBlock ∧ some k_ ≠ (.slice Ao58 t919.length co58 : Value).ownBlock) s_.2.2.2.1 t971) ∧ (Kd.R k60 60 w' w.heap.size (fun k_ => some k_ ≠ (s_.2.1 : Value).ownBlock ∧ some k_ ≠ (s_.2.2.1 : Value).ownBlock ∧ some k_ ≠ (s_.2.2.2.2.2.1 : Value).ownBlock ∧ some k_ ≠ (.slice Ao35 t892.length co35 : Value).ownBlock ∧ some k_ ≠ (.slice Ao37 t895.length co37 : Value).ownBlock ∧ some k_ ≠ (.slice Ao48 t945.length co48 : Value).ownBlock ∧ some k_ ≠ (.slice Ao49 t946.length co49 : Value).ownBlock ∧ some k_ ≠ (.slice Ao60 t922.length co60 : Value).ownBlock ∧ some k_ ≠ (.slice Ao62 t925.length co62 : Value).ownBlock) s_.2.2.2.2.1 t974) ∧ (Kd.R k60 60 w' w.heap.size (fun k_ => some k_ ≠ (s_.2.1 : Value).ownBlock ∧ some k_ ≠ (s_.2.2.1 : Value).ownBlock ∧ some k_ ≠ (s_.2.2.2.2.1 : Value).ownBlock ∧ some k_ ≠ (.slice Ao35 t892.length co35 : Value).ownBlock ∧ some k_ ≠ (.slice Ao37 t895.length co37 : Value).ownBlock ∧ some k_ ≠ (.slice Ao48 t945.length co48 : Value).ownBlock ∧ some k_ ≠ (.slice Ao49 t946.length co49 : Value).ownBlock ∧ some k_ ≠ (.slice Ao60 t922.length co60 : Value).ownBlock ∧ some k_ ≠ (.slice Ao62 t925.length co62 : Value).ownBlock) s_.2.2.2.2.2.1 t977) ∧ (Kd.R k58 58 w' w.heap.size (fun k_ => some k_ ≠ (s_.1 : Value).ownBlock ∧ some k_ ≠ (s_.2.2.2.1 : Value).ownBlock ∧ some k_ ≠ (.slice Ao47 t944.length co47 : Value).ownBlock ∧ some k_ ≠ (.slice Ao58 t919.length co58 : Value).ownBlock) (.slice Ao33 t889.length co33) t889) ∧ (Kd.R k60 60 w' w.heap.size (fun k_ => some k_ ≠ (s_.2.1 : Value).ownBlock ∧ some k_ ≠ (s_.2.2.1 : Value).ownBlock ∧ some k_ ≠ (s_.2.2.2.2.1 : Value).ownBlock ∧ some k_ ≠ (s_.2.2.2.2.2.1 : Value).ownBlock ∧ some k_ ≠ (.slice Ao37 t895.length co37 : Value).ownBlock ∧ some k_ ≠ (.slice Ao48 t945.length co48 : Value).ownBlock ∧ some k_ ≠ (.slice Ao49 t946.length co49 : Value).ownBlock ∧ some k_ ≠ (.slice Ao60 t922.length co60 : Value).ownBlock ∧ some k_ ≠ (.slice Ao62 t925.length co62 : Value).ownBlock) (.slice Ao35 t892.length co35) t892) ∧ (Kd.R k60 60 w' w.heap.size (fun k_ => some k_ ≠ (s_.2.1 : Value).ownBlock ∧ some k_ ≠ (s_.2.2.1 : Value).ownBlock ∧ some k_ ≠ (s_.2.2.2.2.1 : Value).ownBlock ∧ some k_ ≠ (s_.2.2.2.2.2.1 : Value).ownBlock ∧ some k_ ≠ (.slice Ao35 t892.length co35 : Value).ownBlock ∧ some k_ ≠ (.slice Ao48 t945.length co48 : Value).ownBlock ∧ some k_ ≠ (.slice Ao49 t946.length co49 : Value).ownBlock ∧ some k_ ≠ (.slice Ao60 t922.length co60 : Value).ownBlock ∧ some k_ ≠ (.slice Ao62 t925.length co62 : Value).ownBlock) (.slice Ao37 t895.length co37) t895) ∧ (Kd.R k58 58 w' w.heap.size (fun k_ => some k_ ≠ (s_.1 : Value).ownBlock ∧ some k_ ≠ (s_.2.2.2.1 : Value).ownBlock ∧ some k_ ≠ (.slice Ao33 t889.length co33 : Value).ownBlock ∧ some k_ ≠ (.slice Ao58 t919.length co58 : Value).ownBlock) (.slice Ao47 t944.length co47) t944) ∧ (Kd.R k60 60 w' w.heap.size (fun k_ => some k_ ≠ (s_.2.1 : Value).ownBlock ∧ some k_ ≠ (s_.2.2.1 : Value).ownBlock ∧ some k_ ≠ (s_.2.2.2.2.1 : Value).ownBlock ∧ some k_ ≠ (s_.2.2.2.2.2.1 : Value).ownBlock ∧ some k_ ≠ (.slice Ao35 t892.length co35 : Value).ownBlock ∧ some k_ ≠ (.slice Ao37 t895.length co37 : Value).ownBlock ∧ some k_ ≠ (.slice Ao49 t946.length co49 : Value).ownBlock ∧ some k_ ≠ (.slice Ao60 t922.length co60 : Value).ownBlock ∧ some k_ ≠ (.slice Ao62 t925.length co62 : Value).ownBlock) (.slice Ao48 t945.length co48) t945) ∧ (Kd.R k60 60 w' w.heap.size (fun k_ => some k_ ≠ (s_.2.1 : Value).ownBlock ∧ some k_ ≠ (s_.2.2.1 : Value).ownBlock ∧ some k_ ≠ (s_.2.2.2.2.1 : Value).ownBlock ∧ some k_ ≠ (s_.2.2.2.2.2.1 : Value).ownBlock ∧ some k_ ≠ (.slice Ao35 t892.length co35 : Value).ownBlock ∧ some k_ ≠ (.slice Ao37 t895.length co37 : Value).ownBlock ∧ some k_ ≠ (.slice Ao48 t945.length co48 : Value).ownBlock ∧ some k_ ≠ (.slice Ao60 t922.length co60 : Value).ownBlock ∧ some k_ ≠ (.slice Ao62 t925.length co62 : Value).ownBlock) (.slice Ao49 t946.length co49) t946) ∧ (Kd.R k58 58 w' w.heap.size (fun k_ => some k_ ≠ (s_.1 : Value).ownBlock ∧ some k_ ≠ (s_.2.2.2.1 : Value).ownBlock ∧ some k_ ≠ (.slice Ao33 t889.length co33 : Value).ownBlock ∧ some k_ ≠ (.slice Ao47 t944.length co47 : Value).ownBlock) (.slice Ao58 t919.length co58) t949) ∧ (Kd.R k60 60 w' w.heap.size (fun k_ => some k_ ≠ (s_.2.1 : Value).ownBlock ∧ some k_ ≠ (s_.2.2.1 : Value).ownBlock ∧ some k_ ≠ (s_.2.2.2.2.1 : Value).ownBlock ∧ some k_ ≠ (s_.2.2.2.2.2.1 : Value).ownBlock ∧ some k_ ≠ (.slice Ao35 t892.length co35 : Value).ownBlock ∧ some k_ ≠ (.slice Ao37 t895.length co37 : Value).ownBlock ∧ some k_ ≠ (.slice Ao48 t945.length co48 : Value).ownBlock ∧ some k_ ≠ (.slice Ao49 t946.length co49 : Value).ownBlock ∧ some k_ ≠ (.slice Ao62 t925.length co62 : Value).ownBlock) (.slice Ao60 t922.length co60) t950) ∧ (Kd.R k60 60 w' w.heap.size (fun k_ => some k_ ≠ (s_.2.1 : Value).ownBlock ∧ some k_ ≠ (s_.2.2.1 : Value).ownBlock ∧ some k_ ≠ (s_.2.2.2.2.1 : Value).ownBlock ∧ some k_ ≠ (s_.2.2.2.2.2.1 : Value).ownBlock ∧ some k_ ≠ (.slice Ao35 t892.length co35 : Value).ownBlock ∧ some k_ ≠ (.slice Ao37 t895.length co37 : Value).ownBlock ∧ some k_ ≠ (.slice Ao48 t945.length co48 : Value).ownBlock ∧ some k_ ≠ (.slice Ao49 t946.length co49 : Value).ownBlock ∧ some k_ ≠ (.slice Ao60 t922.length co60 : Value).ownBlock) (.slice Ao62 t925.length co62) t951) ∧ (w'.heap[gb868]? = some (.cells #[.int .i64 a0_0, .int .i64 a0_1, .slice A0_2 l0_2.length c0_2, .slice A0_3 l0_3.length c0_3, .slice A0_4 l0_4.length c0_4] 27 (0, 0))) ∧ (w'.heap[gb869]? = some (.cells #[.int .i64 a1_0, .int .i64 a1_1, .int .i64 a1_2, .int .i64 a1_3, .int .i64 a1_4] 56 (0, 0))) ∧ (w'.heap[gb899]? = some (.cells #[.int .i64 t887, .int .i64 t888, .slice Ao33 t889.length co33, .slice Ao35 t892.length co35, .slice Ao37 t895.length co37] 35 (0, 0))) ∧ (w'.heap[gb911]? = some (.cells #[.int .i64 t900, .int .i64 t901, .slice Ao47 t944.length co47, .slice Ao48 t945.length co48, .slice Ao49 t946.length co49] 35 (0, 0))) ∧ (w'.heap[gb929]? = some (.cells #[.int .i64 t917, .int .i64 t918, .slice Ao58 t919.length co58, .slice Ao60 t922.length co60, .slice Ao62 t925.length co62] 35 (0, 0))) ∧ (w'.heap[s_.2.2.2.2.2.2]? = some (.cells #[.int .i64 0, .int .i64 0, .slice none 0 0, .slice none 0 0, .slice none 0 0] 35 (0, 0))) ∧ (w.heap.size ≤ s_.2.2.2.2.2.2) ∧ (w.heap.size ≤ s_.2.2.2.2.2.2) ∧ (gb868 ≠ s_.2.2.2.2.2.2) ∧ (s_.2.2.2.2.2.2 ≠ gb868) ∧ (gb869 ≠ s_.2.2.2.2.2.2) ∧ (s_.2.2.2.2.2.2 ≠ gb869) ∧ (gb899 ≠ s_.2.2.2.2.2.2) ∧ (s_.2.2.2.2.2.2 ≠ gb899) ∧ (gb911 ≠ s_.2.2.2.2.2.2) ∧ (s_.2.2.2.2.2.2 ≠ gb911) ∧ (gb929 ≠ s_.2.2.2.2.2.2) ∧ (s_.2.2.2.2.2.2 ≠ gb929) ∧ (Below w.heap.size w w')) ?_ ?_
           rotate_left
           ·intro hCont
            refine two_ (i := 1) (j := 8) (Ni := some 81) (Nj := some 14) #[true, true, true, false, false, false, false, false, false, false, false] #[true, false, true, false, false, false, false, false, true, false, false] rfl rfl rfl rfl (two_of HT_.out (by kernel_rfl)) (by decide) (by decide) (fun K hK => ?_) (fun K hK => ?_)
            ·skip
             refine goes_ Try.func16 (by kernel_rfl) rfl #[.agg #[.int .i64 a0_0, .int .i64 a0_1, .slice A0_2 l0_2.length c0_2, .slice A0_3 l0_3.length c0_3, .slice A0_4 l0_4.length c0_4]] (by rfl) rfl rfl mq ?_
             with_reducible refine (laws_toSession.calls kj90 a0_0 a0_1 _ _ l0_2 _ _ l0_3 _ _ l0_4 t953 t954 t955 t958 t961 _ ?s1 ?s2 ?s3 ?s4 ?s5 ?s6 A140.out).mono ?_
             (case s1 => exact cq (Kd.C_below HR0_2.out HB.out))
             (case s2 => exact HC0_2.out)
             (case s3 => exact cq (Kd.C_below HR0_3.out HB.out))
             (case s4 => exact HC0_3.out)
             (case s5 => exact cq (Kd.C_below HR0_4.out HB.out))
             (case s6 => exact HC0_4.out)
             rintro e w153 ⟨v956, v959, v962, rfl, ho0, ho1, ho2, hb⟩
             refine ⟨_, rfl, ?_⟩
             have HO957 := rl (Kd.R_new' (Kd.R_new' (Kd.R_new' ho0 (lw HO_900002)) (lw HO_912002)) (lw HO_930002))
             replace HO_900002 := am (Kd.R_elder' (rq HO_900002) (Kd.R_base ho0) hb)
             replace HO_912002 := am (Kd.R_elder' (rq HO_912002) (Kd.R_base ho0) hb)
             replace HO_930002 := am (Kd.R_elder' (rq HO_930002) (Kd.R_base ho0) hb)
             have HO960 := rl (Kd.R_new' (Kd.R_new' (Kd.R_new' (Kd.R_new' (Kd.R_new' (Kd.R_new' ho1 (lw HO_900003)) (lw HO_900004)) (lw HO_912003)) (lw HO_912004)) (lw HO_930003)) (lw HO_930004))
             have HO963 := rl (Kd.R_new' (Kd.R_new' (Kd.R_new' (Kd.R_new' (Kd.R_new' (Kd.R_new' ho2 (lw HO_900003)) (lw HO_900004)) (lw HO_912003)) (lw HO_912004)) (lw HO_930003)) (lw HO_930004))
             replace HO_900003 := tq2 (rq HO_900003) hb ho1 ho2
             replace HO_900004 := tq2 (rq HO_900004) hb ho1 ho2
             replace HO_912003 := tq2 (rq HO_912003) hb ho1 ho2
             replace HO_912004 := tq2 (rq HO_912004) hb ho1 ho2
             replace HO_930003 := tq2 (rq HO_930003) hb ho1 ho2
             replace HO_930004 := tq2 (rq HO_930004) hb ho1 ho2
             replace BK868 := zb BK868 hb
             replace BK869 := zb BK869 hb
             replace BK899 := zb BK899 hb
             replace BK911 := zb BK911 hb
             replace BK929 := zb BK929 hb
             replace HB := sb hb
             (try clear hb ho0 ho1 ho2)
             refine hK.out _ _ cl (fun hHeld => ?_)
             clear hK K
             refine norm_ (a' := ?_) ?_ ?_
             rotate_left
             ·show Act.put _ (some 81) _ = _
              simp only [Act.put, List.setIfInBounds_toArray, List.set_cons_zero, List.set_cons_succ, i64_w, i32_w]
              rfl
             refine two_ (i := 3) (j := 8) (Ni := some 83) (Nj := some 14) #[true, true, true, true, false, false, false, false, false, false, false] #[true, true, true, false, false, false, false, false, true, false, false] rfl rfl rfl rfl (two_of HT_.out (by kernel_rfl)) (by decide) (by decide) (fun K hK => ?_) (fun K hK => ?_)
             ·skip
              refine goes_ Try.func37 (by kernel_rfl) rfl #[.agg #[.int .i64 a1_0, .int .i64 a1_1, .int .i64 a1_2, .int .i64 a1_3, .int .i64 a1_4]] (by rfl) rfl rfl mq ?_
              with_reducible refine (laws_toSessionAct.calls a1_0 a1_1 a1_2 a1_3 a1_4 t964 t965 t966 t967 t968 _ A141.out).mono ?_
              rintro e w154 ⟨rfl, hb⟩
              refine ⟨_, rfl, ?_⟩
              replace HO_900002 := rb HO_900002 hb
              replace HO_900003 := rb HO_900003 hb
              replace HO_900004 := rb HO_900004 hb
              replace HO_912002 := rb HO_912002 hb
              replace HO_912003 := rb HO_912003 hb
              replace HO_912004 := rb HO_912004 hb
              replace HO_930002 := rb HO_930002 hb
              replace HO_930003 := rb HO_930003 hb
              replace HO_930004 := rb HO_930004 hb
              replace HO957 := rb HO957 hb
              replace HO960 := rb HO960 hb
              replace HO963 := rb HO963 hb
              replace BK868 := zb BK868 hb
              replace BK869 := zb BK869 hb
              replace BK899 := zb BK899 hb
              replace BK911 := zb BK911 hb
              replace BK929 := zb BK929 hb
              replace HB := sb hb
              (try clear hb)
              obtain ⟨Ao155, co155, eo155⟩ := Kd.R_slice HO957.out
              (first | subst eo155 | (injection eo155 with f1_ f2_ f3_; have f4_ := f1_.symm; have f5_ := f3_.symm; clear f1_ f2_ f3_; subst f4_; subst f5_))
              obtain ⟨Ao156, co156, eo156⟩ := Kd.R_slice HO960.out
              (first | subst eo156 | (injection eo156 with f1_ f2_ f3_; have f4_ := f1_.symm; have f5_ := f3_.symm; clear f1_ f2_ f3_; subst f4_; subst f5_))
              obtain ⟨Ao157, co157, eo157⟩ := Kd.R_slice HO963.out
              (first | subst eo157 | (injection eo157 with f1_ f2_ f3_; have f4_ := f1_.symm; have f5_ := f3_.symm; clear f1_ f2_ f3_; subst f4_; subst f5_))
              refine hK.out _ _ cl (fun hHeld => ?_)
              clear hK K
              refine norm_ (a' := ?_) ?_ ?_
              rotate_left
              ·show Act.put _ (some 83) _ = _
               simp only [Act.put, List.setIfInBounds_toArray, List.set_cons_zero, List.set_cons_succ, i64_w, i32_w]
               rfl
              refine two_ (i := 4) (j := 8) (Ni := some 84) (Nj := some 14) #[true, true, true, true, true, false, false, false, false, false, false] #[true, true, true, true, false, false, false, false, true, false, false] rfl rfl rfl rfl (two_of HT_.out (by kernel_rfl)) (by decide) (by decide) (fun K hK => ?_) (fun K hK => ?_)
              ·skip
               refine goes_ Try.func38 (by kernel_rfl) rfl #[.agg #[.int .i64 t953, .int .i64 t954, .slice Ao155 t955.length co155, .slice Ao156 t958.length co156, .slice Ao157 t961.length co157], .agg #[.int .i64 t964, .int .i64 t965, .int .i64 t966, .int .i64 t967, .int .i64 t968]] (by rfl) rfl rfl mq ?_
               with_reducible refine (impl_ActOnce.calls kj90 t953 t954 _ _ t955 _ _ t958 _ _ t961 t964 t965 t966 t967 t968 t969 t970 t971 t974 t977 t980 _ ?s1 ?s2 ?s3 ?s4 ?s5 ?s6 A142.out).mono ?_
               (case s1 => exact cr HO957)
               (case s2 => exact rq1 HO957)
               (case s3 => exact cr HO960)
               (case s4 => exact rq1 HO960)
               (case s5 => exact cr HO963)
               (case s6 => exact rq1 HO963)
               rintro e w158 ⟨v972, v975, v978, rfl, ho0, ho1, ho2, hb⟩
               refine ⟨_, rfl, ?_⟩
               have HO973 := rl (Kd.R_new' (Kd.R_new' (Kd.R_new' (Kd.R_new' ho0 (lw HO_900002)) (lw HO_912002)) (lw HO_930002)) (lw HO957))
               replace HO_900002 := am (Kd.R_elder' (rq HO_900002) (Kd.R_base ho0) hb)
               replace HO_912002 := am (Kd.R_elder' (rq HO_912002) (Kd.R_base ho0) hb)
               replace HO_930002 := am (Kd.R_elder' (rq HO_930002) (Kd.R_base ho0) hb)
               replace HO957 := am (Kd.R_elder' (rq HO957) (Kd.R_base ho0) hb)
               have HO976 := rl (Kd.R_new' (Kd.R_new' (Kd.R_new' (Kd.R_new' (Kd.R_new' (Kd.R_new' (Kd.R_new' (Kd.R_new' ho1 (lw HO_900003)) (lw HO_900004)) (lw HO_912003)) (lw HO_912004)) (lw HO_930003)) (lw HO_930004)) (lw HO960)) (lw HO963))
               have HO979 := rl (Kd.R_new' (Kd.R_new' (Kd.R_new' (Kd.R_new' (Kd.R_new' (Kd.R_new' (Kd.R_new' (Kd.R_new' ho2 (lw HO_900003)) (lw HO_900004)) (lw HO_912003)) (lw HO_912004)) (lw HO_930003)) (lw HO_930004)) (lw HO960)) (lw HO963))
               replace HO_900003 := tq2 (rq HO_900003) hb ho1 ho2
               replace HO_900004 := tq2 (rq HO_900004) hb ho1 ho2
               replace HO_912003 := tq2 (rq HO_912003) hb ho1 ho2
               replace HO_912004 := tq2 (rq HO_912004) hb ho1 ho2
               replace HO_930003 := tq2 (rq HO_930003) hb ho1 ho2
               replace HO_930004 := tq2 (rq HO_930004) hb ho1 ho2
               replace HO960 := tq2 (rq HO960) hb ho1 ho2
               replace HO963 := tq2 (rq HO963) hb ho1 ho2
               replace BK868 := zb BK868 hb
               replace BK869 := zb BK869 hb
               replace BK899 := zb BK899 hb
               replace BK911 := zb BK911 hb
               replace BK929 := zb BK929 hb
               replace HB := sb hb
               (try clear hb ho0 ho1 ho2)
               refine hK.out _ _ cl (fun hHeld => ?_)
               clear hK K
               refine norm_ (a' := ?_) ?_ ?_
               rotate_left
               ·show Act.put _ (some 84) _ = _
                simp only [Act.put, List.setIfInBounds_toArray, List.set_cons_zero, List.set_cons_succ, i64_w, i32_w]
                rfl
               refine pure_ (i := 5) (N := some 79) (v := ?_) (a' := ?_) #[true, true, true, true, true, true, false, false, false, false, false] rfl rfl (any_of HT_.out (by kernel_rfl)) (fun _ _ _ h => h) (Or.inl ⟨by rfl, ?_⟩) ?_ ?_
               rotate_left
               ·intro w'
                go_simp
                with_reducible rfl
               rotate_left
               ·simp only [Act.put, List.setIfInBounds_toArray, List.set_cons_zero, List.set_cons_succ, i64_w, i32_w]
                rfl
               refine pure_ (i := 6) (N := some 85) (v := ?_) (a' := ?_) #[true, true, true, true, true, true, true, false, false, false, false] rfl rfl (any_of HT_.out (by kernel_rfl)) (fun _ _ _ h => h) (Or.inl ⟨by rfl, ?_⟩) ?_ ?_
               rotate_left
               ·intro w'
                go_simp
                with_reducible rfl
               rotate_left
               ·simp only [Act.put, List.setIfInBounds_toArray, List.set_cons_zero, List.set_cons_succ, i64_w, i32_w]
                rfl
               refine pure_ (i := 7) (N := some 86) (v := ?_) (a' := ?_) #[true, true, true, true, true, true, true, true, false, false, false] rfl rfl (any_of HT_.out (by kernel_rfl)) (fun _ _ _ h => h) (Or.inl ⟨by rfl, ?_⟩) ?_ ?_
               rotate_left
               ·intro w'
                go_simp
                with_reducible rfl
               rotate_left
               ·simp only [Act.put, List.setIfInBounds_toArray, List.set_cons_zero, List.set_cons_succ, i64_w, i32_w]
                rfl
               refine one_ (i := 8) (N := some 14) #[true, true, true, true, true, true, true, true, true, false, false] rfl rfl (one_of HT_.out (by kernel_rfl)) (by decide) (fun K hK => ?_)
               refine box_step ?hg (N := 14) ?hd (cs := #[.int .i64 0, .int .i64 0, .slice none 0 0, .slice none 0 0, .slice none 0 0]) (t := 35) ?hr ?_; (case hd => rfl); (case hg => rfl); (case hr => first | (go_simp; done) | (go_simp; rfl))
               intro gb981 hg w159 hbox hb
               replace HO_900002 := rb HO_900002 hb
               replace HO_900003 := rb HO_900003 hb
               replace HO_900004 := rb HO_900004 hb
               replace HO_912002 := rb HO_912002 hb
               replace HO_912003 := rb HO_912003 hb
               replace HO_912004 := rb HO_912004 hb
               replace HO_930002 := rb HO_930002 hb
               replace HO_930003 := rb HO_930003 hb
               replace HO_930004 := rb HO_930004 hb
               replace HO957 := rb HO957 hb
               replace HO960 := rb HO960 hb
               replace HO963 := rb HO963 hb
               replace HO973 := rb HO973 hb
               replace HO976 := rb HO976 hb
               replace HO979 := rb HO979 hb
               have BK981 := am (hbox)
               have GW981 := am (gq hg)
               have GE981 := am (gq hg)
               replace HB := sb hb
               have NB868_981 := nl hg BK868
               have NB981_868 := ng hg BK868
               replace BK868 := zb BK868 hb
               have NB869_981 := nl hg BK869
               have NB981_869 := ng hg BK869
               replace BK869 := zb BK869 hb
               have NB899_981 := nl hg BK899
               have NB981_899 := ng hg BK899
               replace BK899 := zb BK899 hb
               have NB911_981 := nl hg BK911
               have NB981_911 := ng hg BK911
               replace BK911 := zb BK911 hb
               have NB929_981 := nl hg BK929
               have NB981_929 := ng hg BK929
               replace BK929 := zb BK929 hb
               clear hb hbox hg
               refine hK.out _ _ cl (fun hHeld => ?_)
               clear hK K
               refine norm_ (a' := ?_) ?_ ?_
               rotate_left
               ·show Act.put _ (some 14) _ = _
                simp only [Act.put, List.setIfInBounds_toArray, List.set_cons_zero, List.set_cons_succ, i64_w, i32_w]
                rfl
               exact norm_ (by simp only [putAll, Act.put, List.setIfInBounds_toArray, List.set_cons_zero, List.set_cons_succ]) (hCont (.slice Ao155 t955.length co155, .slice Ao156 t958.length co156, .slice Ao157 t961.length co157, v972, v975, v978, gb981) _ ⟨hHeld, (rm HO957), (rm HO960), (rm HO963), (rm HO973), (rm HO976), (rm HO979), (rm HO_900002), (rm HO_900003), (rm HO_900004), (rm HO_912002), (rm HO_912003), (rm HO_912004), (rm HO_930002), (rm HO_930003), (rm HO_930004), (zq BK868), (zq BK869), (zq BK899), (zq BK911), (zq BK929), (zq BK981), GW981.out, GE981.out, NB868_981.out, NB981_868.out, NB869_981.out, NB981_869.out, NB899_981.out, NB981_899.out, NB911_981.out, NB981_911.out, NB929_981.out, NB981_929.out, bq⟩)
              ·skip
               refine box_step ?hg (N := 14) ?hd (cs := #[.int .i64 0, .int .i64 0, .slice none 0 0, .slice none 0 0, .slice none 0 0]) (t := 35) ?hr ?_; (case hd => rfl); (case hg => rfl); (case hr => first | (go_simp; done) | (go_simp; rfl))
               intro gb981 hg w155 hbox hb
               replace HO_900002 := rb HO_900002 hb
               replace HO_900003 := rb HO_900003 hb
               replace HO_900004 := rb HO_900004 hb
               replace HO_912002 := rb HO_912002 hb
               replace HO_912003 := rb HO_912003 hb
               replace HO_912004 := rb HO_912004 hb
               replace HO_930002 := rb HO_930002 hb
               replace HO_930003 := rb HO_930003 hb
               replace HO_930004 := rb HO_930004 hb
               replace HO957 := rb HO957 hb
               replace HO960 := rb HO960 hb
               replace HO963 := rb HO963 hb
               have BK981 := am (hbox)
               have GW981 := am (gq hg)
               have GE981 := am (gq hg)
               replace HB := sb hb
               have NB868_981 := nl hg BK868
               have NB981_868 := ng hg BK868
               replace BK868 := zb BK868 hb
               have NB869_981 := nl hg BK869
               have NB981_869 := ng hg BK869
               replace BK869 := zb BK869 hb
               have NB899_981 := nl hg BK899
               have NB981_899 := ng hg BK899
               replace BK899 := zb BK899 hb
               have NB911_981 := nl hg BK911
               have NB981_911 := ng hg BK911
               replace BK911 := zb BK911 hb
               have NB929_981 := nl hg BK929
               have NB981_929 := ng hg BK929
               replace BK929 := zb BK929 hb
               clear hb hbox hg
               obtain ⟨Ao156, co156, eo156⟩ := Kd.R_slice HO957.out
               (first | subst eo156 | (injection eo156 with f1_ f2_ f3_; have f4_ := f1_.symm; have f5_ := f3_.symm; clear f1_ f2_ f3_; subst f4_; subst f5_))
               obtain ⟨Ao157, co157, eo157⟩ := Kd.R_slice HO960.out
               (first | subst eo157 | (injection eo157 with f1_ f2_ f3_; have f4_ := f1_.symm; have f5_ := f3_.symm; clear f1_ f2_ f3_; subst f4_; subst f5_))
               obtain ⟨Ao158, co158, eo158⟩ := Kd.R_slice HO963.out
               (first | subst eo158 | (injection eo158 with f1_ f2_ f3_; have f4_ := f1_.symm; have f5_ := f3_.symm; clear f1_ f2_ f3_; subst f4_; subst f5_))
               refine hK.out _ _ cl (fun hHeld => ?_)
               clear hK K
               refine norm_ (a' := ?_) ?_ ?_
               rotate_left
               ·show Act.put _ (some 14) _ = _
                simp only [Act.put, List.setIfInBounds_toArray, List.set_cons_zero, List.set_cons_succ, i64_w, i32_w]
                rfl
               refine one_ (i := 4) (N := some 84) #[true, true, true, true, true, false, false, false, true, false, false] rfl rfl (one_of HT_.out (by kernel_rfl)) (by decide) (fun K hK => ?_)
               refine goes_ Try.func38 (by kernel_rfl) rfl #[.agg #[.int .i64 t953, .int .i64 t954, .slice Ao156 t955.length co156, .slice Ao157 t958.length co157, .slice Ao158 t961.length co158], .agg #[.int .i64 t964, .int .i64 t965, .int .i64 t966, .int .i64 t967, .int .i64 t968]] (by rfl) rfl rfl mq ?_
               with_reducible refine (impl_ActOnce.calls kj90 t953 t954 _ _ t955 _ _ t958 _ _ t961 t964 t965 t966 t967 t968 t969 t970 t971 t974 t977 t980 _ ?s1 ?s2 ?s3 ?s4 ?s5 ?s6 A142.out).mono ?_
               (case s1 => exact cr HO957)
               (case s2 => exact rq1 HO957)
               (case s3 => exact cr HO960)
               (case s4 => exact rq1 HO960)
               (case s5 => exact cr HO963)
               (case s6 => exact rq1 HO963)
               rintro e w159 ⟨v972, v975, v978, rfl, ho0, ho1, ho2, hb⟩
               refine ⟨_, rfl, ?_⟩
               have HO973 := rl (Kd.R_new' (Kd.R_new' (Kd.R_new' (Kd.R_new' ho0 (lw HO_900002)) (lw HO_912002)) (lw HO_930002)) (lw HO957))
               replace HO_900002 := am (Kd.R_elder' (rq HO_900002) (Kd.R_base ho0) hb)
               replace HO_912002 := am (Kd.R_elder' (rq HO_912002) (Kd.R_base ho0) hb)
               replace HO_930002 := am (Kd.R_elder' (rq HO_930002) (Kd.R_base ho0) hb)
               replace HO957 := am (Kd.R_elder' (rq HO957) (Kd.R_base ho0) hb)
               have HO976 := rl (Kd.R_new' (Kd.R_new' (Kd.R_new' (Kd.R_new' (Kd.R_new' (Kd.R_new' (Kd.R_new' (Kd.R_new' ho1 (lw HO_900003)) (lw HO_900004)) (lw HO_912003)) (lw HO_912004)) (lw HO_930003)) (lw HO_930004)) (lw HO960)) (lw HO963))
               have HO979 := rl (Kd.R_new' (Kd.R_new' (Kd.R_new' (Kd.R_new' (Kd.R_new' (Kd.R_new' (Kd.R_new' (Kd.R_new' ho2 (lw HO_900003)) (lw HO_900004)) (lw HO_912003)) (lw HO_912004)) (lw HO_930003)) (lw HO_930004)) (lw HO960)) (lw HO963))
               replace HO_900003 := tq2 (rq HO_900003) hb ho1 ho2
               replace HO_900004 := tq2 (rq HO_900004) hb ho1 ho2
               replace HO_912003 := tq2 (rq HO_912003) hb ho1 ho2
               replace HO_912004 := tq2 (rq HO_912004) hb ho1 ho2
               replace HO_930003 := tq2 (rq HO_930003) hb ho1 ho2
               replace HO_930004 := tq2 (rq HO_930004) hb ho1 ho2
               replace HO960 := tq2 (rq HO960) hb ho1 ho2
               replace HO963 := tq2 (rq HO963) hb ho1 ho2
               replace BK868 := zb BK868 hb
               replace BK869 := zb BK869 hb
               replace BK899 := zb BK899 hb
               replace BK911 := zb BK911 hb
               replace BK929 := zb BK929 hb
               replace BK981 := zb BK981 hb
               replace HB := sb hb
               (try clear hb ho0 ho1 ho2)
               refine hK.out _ _ cl (fun hHeld => ?_)
               clear hK K
               refine norm_ (a' := ?_) ?_ ?_
               rotate_left
               ·show Act.put _ (some 84) _ = _
                simp only [Act.put, List.setIfInBounds_toArray, List.set_cons_zero, List.set_cons_succ, i64_w, i32_w]
                rfl
               refine pure_ (i := 5) (N := some 79) (v := ?_) (a' := ?_) #[true, true, true, true, true, true, false, false, true, false, false] rfl rfl (any_of HT_.out (by kernel_rfl)) (fun _ _ _ h => h) (Or.inl ⟨by rfl, ?_⟩) ?_ ?_
               rotate_left
               ·intro w'
                go_simp
                with_reducible rfl
               rotate_left
               ·simp only [Act.put, List.setIfInBounds_toArray, List.set_cons_zero, List.set_cons_succ, i64_w, i32_w]
                rfl
               refine pure_ (i := 6) (N := some 85) (v := ?_) (a' := ?_) #[true, true, true, true, true, true, true, false, true, false, false] rfl rfl (any_of HT_.out (by kernel_rfl)) (fun _ _ _ h => h) (Or.inl ⟨by rfl, ?_⟩) ?_ ?_
               rotate_left
               ·intro w'
                go_simp
                with_reducible rfl
               rotate_left
               ·simp only [Act.put, List.setIfInBounds_toArray, List.set_cons_zero, List.set_cons_succ, i64_w, i32_w]
                rfl
               refine pure_ (i := 7) (N := some 86) (v := ?_) (a' := ?_) #[true, true, true, true, true, true, true, true, true, false, false] rfl rfl (any_of HT_.out (by kernel_rfl)) (fun _ _ _ h => h) (Or.inl ⟨by rfl, ?_⟩) ?_ ?_
               rotate_left
               ·intro w'
                go_simp
                with_reducible rfl
               rotate_left
               ·simp only [Act.put, List.setIfInBounds_toArray, List.set_cons_zero, List.set_cons_succ, i64_w, i32_w]
                rfl
               exact norm_ (by simp only [putAll, Act.put, List.setIfInBounds_toArray, List.set_cons_zero, List.set_cons_succ]) (hCont (.slice Ao156 t955.length co156, .slice Ao157 t958.length co157, .slice Ao158 t961.length co158, v972, v975, v978, gb981) _ ⟨hHeld, (rm HO957), (rm HO960), (rm HO963), (rm HO973), (rm HO976), (rm HO979), (rm HO_900002), (rm HO_900003), (rm HO_900004), (rm HO_912002), (rm HO_912003), (rm HO_912004), (rm HO_930002), (rm HO_930003), (rm HO_930004), (zq BK868), (zq BK869), (zq BK899), (zq BK911), (zq BK929), (zq BK981), GW981.out, GE981.out, NB868_981.out, NB981_868.out, NB869_981.out, NB981_869.out, NB899_981.out, NB981_899.out, NB911_981.out, NB981_911.out, NB929_981.out, NB981_929.out, bq⟩)
             ·skip
              refine box_step ?hg (N := 14) ?hd (cs := #[.int .i64 0, .int .i64 0, .slice none 0 0, .slice none 0 0, .slice none 0 0]) (t := 35) ?hr ?_; (case hd => rfl); (case hg => rfl); (case hr => first | (go_simp; done) | (go_simp; rfl))
              intro gb981 hg w154 hbox hb
              replace HO_900002 := rb HO_900002 hb
              replace HO_900003 := rb HO_900003 hb
              replace HO_900004 := rb HO_900004 hb
              replace HO_912002 := rb HO_912002 hb
              replace HO_912003 := rb HO_912003 hb
              replace HO_912004 := rb HO_912004 hb
              replace HO_930002 := rb HO_930002 hb
              replace HO_930003 := rb HO_930003 hb
              replace HO_930004 := rb HO_930004 hb
              replace HO957 := rb HO957 hb
              replace HO960 := rb HO960 hb
              replace HO963 := rb HO963 hb
              have BK981 := am (hbox)
              have GW981 := am (gq hg)
              have GE981 := am (gq hg)
              replace HB := sb hb
              have NB868_981 := nl hg BK868
              have NB981_868 := ng hg BK868
              replace BK868 := zb BK868 hb
              have NB869_981 := nl hg BK869
              have NB981_869 := ng hg BK869
              replace BK869 := zb BK869 hb
              have NB899_981 := nl hg BK899
              have NB981_899 := ng hg BK899
              replace BK899 := zb BK899 hb
              have NB911_981 := nl hg BK911
              have NB981_911 := ng hg BK911
              replace BK911 := zb BK911 hb
              have NB929_981 := nl hg BK929
              have NB981_929 := ng hg BK929
              replace BK929 := zb BK929 hb
              clear hb hbox hg
              refine hK.out _ _ cl (fun hHeld => ?_)
              clear hK K
              refine norm_ (a' := ?_) ?_ ?_
              rotate_left
              ·show Act.put _ (some 14) _ = _
               simp only [Act.put, List.setIfInBounds_toArray, List.set_cons_zero, List.set_cons_succ, i64_w, i32_w]
               rfl
              refine one_ (i := 3) (N := some 83) #[true, true, true, true, false, false, false, false, true, false, false] rfl rfl (one_of HT_.out (by kernel_rfl)) (by decide) (fun K hK => ?_)
              refine goes_ Try.func37 (by kernel_rfl) rfl #[.agg #[.int .i64 a1_0, .int .i64 a1_1, .int .i64 a1_2, .int .i64 a1_3, .int .i64 a1_4]] (by rfl) rfl rfl mq ?_
              with_reducible refine (laws_toSessionAct.calls a1_0 a1_1 a1_2 a1_3 a1_4 t964 t965 t966 t967 t968 _ A141.out).mono ?_
              rintro e w155 ⟨rfl, hb⟩
              refine ⟨_, rfl, ?_⟩
              replace HO_900002 := rb HO_900002 hb
              replace HO_900003 := rb HO_900003 hb
              replace HO_900004 := rb HO_900004 hb
              replace HO_912002 := rb HO_912002 hb
              replace HO_912003 := rb HO_912003 hb
              replace HO_912004 := rb HO_912004 hb
              replace HO_930002 := rb HO_930002 hb
              replace HO_930003 := rb HO_930003 hb
              replace HO_930004 := rb HO_930004 hb
              replace HO957 := rb HO957 hb
              replace HO960 := rb HO960 hb
              replace HO963 := rb HO963 hb
              replace BK868 := zb BK868 hb
              replace BK869 := zb BK869 hb
              replace BK899 := zb BK899 hb
              replace BK911 := zb BK911 hb
              replace BK929 := zb BK929 hb
              replace BK981 := zb BK981 hb
              replace HB := sb hb
              (try clear hb)
              obtain ⟨Ao156, co156, eo156⟩ := Kd.R_slice HO957.out
              (first | subst eo156 | (injection eo156 with f1_ f2_ f3_; have f4_ := f1_.symm; have f5_ := f3_.symm; clear f1_ f2_ f3_; subst f4_; subst f5_))
              obtain ⟨Ao157, co157, eo157⟩ := Kd.R_slice HO960.out
              (first | subst eo157 | (injection eo157 with f1_ f2_ f3_; have f4_ := f1_.symm; have f5_ := f3_.symm; clear f1_ f2_ f3_; subst f4_; subst f5_))
              obtain ⟨Ao158, co158, eo158⟩ := Kd.R_slice HO963.out
              (first | subst eo158 | (injection eo158 with f1_ f2_ f3_; have f4_ := f1_.symm; have f5_ := f3_.symm; clear f1_ f2_ f3_; subst f4_; subst f5_))
              refine hK.out _ _ cl (fun hHeld => ?_)
              clear hK K
              refine norm_ (a' := ?_) ?_ ?_
              rotate_left
              ·show Act.put _ (some 83) _ = _
               simp only [Act.put, List.setIfInBounds_toArray, List.set_cons_zero, List.set_cons_succ, i64_w, i32_w]
               rfl
              refine one_ (i := 4) (N := some 84) #[true, true, true, true, true, false, false, false, true, false, false] rfl rfl (one_of HT_.out (by kernel_rfl)) (by decide) (fun K hK => ?_)
              refine goes_ Try.func38 (by kernel_rfl) rfl #[.agg #[.int .i64 t953, .int .i64 t954, .slice Ao156 t955.length co156, .slice Ao157 t958.length co157, .slice Ao158 t961.length co158], .agg #[.int .i64 t964, .int .i64 t965, .int .i64 t966, .int .i64 t967, .int .i64 t968]] (by rfl) rfl rfl mq ?_
              with_reducible refine (impl_ActOnce.calls kj90 t953 t954 _ _ t955 _ _ t958 _ _ t961 t964 t965 t966 t967 t968 t969 t970 t971 t974 t977 t980 _ ?s1 ?s2 ?s3 ?s4 ?s5 ?s6 A142.out).mono ?_
              (case s1 => exact cr HO957)
              (case s2 => exact rq1 HO957)
              (case s3 => exact cr HO960)
              (case s4 => exact rq1 HO960)
              (case s5 => exact cr HO963)
              (case s6 => exact rq1 HO963)
              rintro e w159 ⟨v972, v975, v978, rfl, ho0, ho1, ho2, hb⟩
              refine ⟨_, rfl, ?_⟩
              have HO973 := rl (Kd.R_new' (Kd.R_new' (Kd.R_new' (Kd.R_new' ho0 (lw HO_900002)) (lw HO_912002)) (lw HO_930002)) (lw HO957))
              replace HO_900002 := am (Kd.R_elder' (rq HO_900002) (Kd.R_base ho0) hb)
              replace HO_912002 := am (Kd.R_elder' (rq HO_912002) (Kd.R_base ho0) hb)
              replace HO_930002 := am (Kd.R_elder' (rq HO_930002) (Kd.R_base ho0) hb)
              replace HO957 := am (Kd.R_elder' (rq HO957) (Kd.R_base ho0) hb)
              have HO976 := rl (Kd.R_new' (Kd.R_new' (Kd.R_new' (Kd.R_new' (Kd.R_new' (Kd.R_new' (Kd.R_new' (Kd.R_new' ho1 (lw HO_900003)) (lw HO_900004)) (lw HO_912003)) (lw HO_912004)) (lw HO_930003)) (lw HO_930004)) (lw HO960)) (lw HO963))
              have HO979 := rl (Kd.R_new' (Kd.R_new' (Kd.R_new' (Kd.R_new' (Kd.R_new' (Kd.R_new' (Kd.R_new' (Kd.R_new' ho2 (lw HO_900003)) (lw HO_900004)) (lw HO_912003)) (lw HO_912004)) (lw HO_930003)) (lw HO_930004)) (lw HO960)) (lw HO963))
              replace HO_900003 := tq2 (rq HO_900003) hb ho1 ho2
              replace HO_900004 := tq2 (rq HO_900004) hb ho1 ho2
              replace HO_912003 := tq2 (rq HO_912003) hb ho1 ho2
              replace HO_912004 := tq2 (rq HO_912004) hb ho1 ho2
              replace HO_930003 := tq2 (rq HO_930003) hb ho1 ho2
              replace HO_930004 := tq2 (rq HO_930004) hb ho1 ho2
              replace HO960 := tq2 (rq HO960) hb ho1 ho2
              replace HO963 := tq2 (rq HO963) hb ho1 ho2
              replace BK868 := zb BK868 hb
              replace BK869 := zb BK869 hb
              replace BK899 := zb BK899 hb
              replace BK911 := zb BK911 hb
              replace BK929 := zb BK929 hb
              replace BK981 := zb BK981 hb
              replace HB := sb hb
              (try clear hb ho0 ho1 ho2)
              refine hK.out _ _ cl (fun hHeld => ?_)
              clear hK K
              refine norm_ (a' := ?_) ?_ ?_
              rotate_left
              ·show Act.put _ (some 84) _ = _
               simp only [Act.put, List.setIfInBounds_toArray, List.set_cons_zero, List.set_cons_succ, i64_w, i32_w]
               rfl
              refine pure_ (i := 5) (N := some 79) (v := ?_) (a' := ?_) #[true, true, true, true, true, true, false, false, true, false, false] rfl rfl (any_of HT_.out (by kernel_rfl)) (fun _ _ _ h => h) (Or.inl ⟨by rfl, ?_⟩) ?_ ?_
              rotate_left
              ·intro w'
               go_simp
               with_reducible rfl
              rotate_left
              ·simp only [Act.put, List.setIfInBounds_toArray, List.set_cons_zero, List.set_cons_succ, i64_w, i32_w]
               rfl
              refine pure_ (i := 6) (N := some 85) (v := ?_) (a' := ?_) #[true, true, true, true, true, true, true, false, true, false, false] rfl rfl (any_of HT_.out (by kernel_rfl)) (fun _ _ _ h => h) (Or.inl ⟨by rfl, ?_⟩) ?_ ?_
              rotate_left
              ·intro w'
               go_simp
               with_reducible rfl
              rotate_left
              ·simp only [Act.put, List.setIfInBounds_toArray, List.set_cons_zero, List.set_cons_succ, i64_w, i32_w]
               rfl
              refine pure_ (i := 7) (N := some 86) (v := ?_) (a' := ?_) #[true, true, true, true, true, true, true, true, true, false, false] rfl rfl (any_of HT_.out (by kernel_rfl)) (fun _ _ _ h => h) (Or.inl ⟨by rfl, ?_⟩) ?_ ?_
              rotate_left
              ·intro w'
               go_simp
               with_reducible rfl
              rotate_left
              ·simp only [Act.put, List.setIfInBounds_toArray, List.set_cons_zero, List.set_cons_succ, i64_w, i32_w]
               rfl
              exact norm_ (by simp only [putAll, Act.put, List.setIfInBounds_toArray, List.set_cons_zero, List.set_cons_succ]) (hCont (.slice Ao156 t955.length co156, .slice Ao157 t958.length co157, .slice Ao158 t961.length co158, v972, v975, v978, gb981) _ ⟨hHeld, (rm HO957), (rm HO960), (rm HO963), (rm HO973), (rm HO976), (rm HO979), (rm HO_900002), (rm HO_900003), (rm HO_900004), (rm HO_912002), (rm HO_912003), (rm HO_912004), (rm HO_930002), (rm HO_930003), (rm HO_930004), (zq BK868), (zq BK869), (zq BK899), (zq BK911), (zq BK929), (zq BK981), GW981.out, GE981.out, NB868_981.out, NB981_868.out, NB869_981.out, NB981_869.out, NB899_981.out, NB981_899.out, NB911_981.out, NB981_911.out, NB929_981.out, NB981_929.out, bq⟩)
            ·skip
             refine box_step ?hg (N := 14) ?hd (cs := #[.int .i64 0, .int .i64 0, .slice none 0 0, .slice none 0 0, .slice none 0 0]) (t := 35) ?hr ?_; (case hd => rfl); (case hg => rfl); (case hr => first | (go_simp; done) | (go_simp; rfl))
             intro gb981 hg w153 hbox hb
             replace HO_900002 := rb HO_900002 hb
             replace HO_900003 := rb HO_900003 hb
             replace HO_900004 := rb HO_900004 hb
             replace HO_912002 := rb HO_912002 hb
             replace HO_912003 := rb HO_912003 hb
             replace HO_912004 := rb HO_912004 hb
             replace HO_930002 := rb HO_930002 hb
             replace HO_930003 := rb HO_930003 hb
             replace HO_930004 := rb HO_930004 hb
             have BK981 := am (hbox)
             have GW981 := am (gq hg)
             have GE981 := am (gq hg)
             replace HB := sb hb
             have NB868_981 := nl hg BK868
             have NB981_868 := ng hg BK868
             replace BK868 := zb BK868 hb
             have NB869_981 := nl hg BK869
             have NB981_869 := ng hg BK869
             replace BK869 := zb BK869 hb
             have NB899_981 := nl hg BK899
             have NB981_899 := ng hg BK899
             replace BK899 := zb BK899 hb
             have NB911_981 := nl hg BK911
             have NB981_911 := ng hg BK911
             replace BK911 := zb BK911 hb
             have NB929_981 := nl hg BK929
             have NB981_929 := ng hg BK929
             replace BK929 := zb BK929 hb
             clear hb hbox hg
             refine hK.out _ _ cl (fun hHeld => ?_)
             clear hK K
             refine norm_ (a' := ?_) ?_ ?_
             rotate_left
             ·show Act.put _ (some 14) _ = _
              simp only [Act.put, List.setIfInBounds_toArray, List.set_cons_zero, List.set_cons_succ, i64_w, i32_w]
              rfl
             refine one_ (i := 1) (N := some 81) #[true, true, true, false, false, false, false, false, true, false, false] rfl rfl (one_of HT_.out (by kernel_rfl)) (by decide) (fun K hK => ?_)
             refine goes_ Try.func16 (by kernel_rfl) rfl #[.agg #[.int .i64 a0_0, .int .i64 a0_1, .slice A0_2 l0_2.length c0_2, .slice A0_3 l0_3.length c0_3, .slice A0_4 l0_4.length c0_4]] (by rfl) rfl rfl mq ?_
             with_reducible refine (laws_toSession.calls kj90 a0_0 a0_1 _ _ l0_2 _ _ l0_3 _ _ l0_4 t953 t954 t955 t958 t961 _ ?s1 ?s2 ?s3 ?s4 ?s5 ?s6 A140.out).mono ?_
             (case s1 => exact cq (Kd.C_below HR0_2.out HB.out))
             (case s2 => exact HC0_2.out)
             (case s3 => exact cq (Kd.C_below HR0_3.out HB.out))
             (case s4 => exact HC0_3.out)
             (case s5 => exact cq (Kd.C_below HR0_4.out HB.out))
             (case s6 => exact HC0_4.out)
             rintro e w154 ⟨v956, v959, v962, rfl, ho0, ho1, ho2, hb⟩
             refine ⟨_, rfl, ?_⟩
             have HO957 := rl (Kd.R_new' (Kd.R_new' (Kd.R_new' ho0 (lw HO_900002)) (lw HO_912002)) (lw HO_930002))
             replace HO_900002 := am (Kd.R_elder' (rq HO_900002) (Kd.R_base ho0) hb)
             replace HO_912002 := am (Kd.R_elder' (rq HO_912002) (Kd.R_base ho0) hb)
             replace HO_930002 := am (Kd.R_elder' (rq HO_930002) (Kd.R_base ho0) hb)
             have HO960 := rl (Kd.R_new' (Kd.R_new' (Kd.R_new' (Kd.R_new' (Kd.R_new' (Kd.R_new' ho1 (lw HO_900003)) (lw HO_900004)) (lw HO_912003)) (lw HO_912004)) (lw HO_930003)) (lw HO_930004))
             have HO963 := rl (Kd.R_new' (Kd.R_new' (Kd.R_new' (Kd.R_new' (Kd.R_new' (Kd.R_new' ho2 (lw HO_900003)) (lw HO_900004)) (lw HO_912003)) (lw HO_912004)) (lw HO_930003)) (lw HO_930004))
             replace HO_900003 := tq2 (rq HO_900003) hb ho1 ho2
             replace HO_900004 := tq2 (rq HO_900004) hb ho1 ho2
             replace HO_912003 := tq2 (rq HO_912003) hb ho1 ho2
             replace HO_912004 := tq2 (rq HO_912004) hb ho1 ho2
             replace HO_930003 := tq2 (rq HO_930003) hb ho1 ho2
             replace HO_930004 := tq2 (rq HO_930004) hb ho1 ho2
             replace BK868 := zb BK868 hb
             replace BK869 := zb BK869 hb
             replace BK899 := zb BK899 hb
             replace BK911 := zb BK911 hb
             replace BK929 := zb BK929 hb
             replace BK981 := zb BK981 hb
             replace HB := sb hb
             (try clear hb ho0 ho1 ho2)
             refine hK.out _ _ cl (fun hHeld => ?_)
             clear hK K
             refine norm_ (a' := ?_) ?_ ?_
             rotate_left
             ·show Act.put _ (some 81) _ = _
              simp only [Act.put, List.setIfInBounds_toArray, List.set_cons_zero, List.set_cons_succ, i64_w, i32_w]
              rfl
             refine one_ (i := 3) (N := some 83) #[true, true, true, true, false, false, false, false, true, false, false] rfl rfl (one_of HT_.out (by kernel_rfl)) (by decide) (fun K hK => ?_)
             refine goes_ Try.func37 (by kernel_rfl) rfl #[.agg #[.int .i64 a1_0, .int .i64 a1_1, .int .i64 a1_2, .int .i64 a1_3, .int .i64 a1_4]] (by rfl) rfl rfl mq ?_
             with_reducible refine (laws_toSessionAct.calls a1_0 a1_1 a1_2 a1_3 a1_4 t964 t965 t966 t967 t968 _ A141.out).mono ?_
             rintro e w155 ⟨rfl, hb⟩
             refine ⟨_, rfl, ?_⟩
             replace HO_900002 := rb HO_900002 hb
             replace HO_900003 := rb HO_900003 hb
             replace HO_900004 := rb HO_900004 hb
             replace HO_912002 := rb HO_912002 hb
             replace HO_912003 := rb HO_912003 hb
             replace HO_912004 := rb HO_912004 hb
             replace HO_930002 := rb HO_930002 hb
             replace HO_930003 := rb HO_930003 hb
             replace HO_930004 := rb HO_930004 hb
             replace HO957 := rb HO957 hb
             replace HO960 := rb HO960 hb
             replace HO963 := rb HO963 hb
             replace BK868 := zb BK868 hb
             replace BK869 := zb BK869 hb
             replace BK899 := zb BK899 hb
             replace BK911 := zb BK911 hb
             replace BK929 := zb BK929 hb
             replace BK981 := zb BK981 hb
             replace HB := sb hb
             (try clear hb)
             obtain ⟨Ao156, co156, eo156⟩ := Kd.R_slice HO957.out
             (first | subst eo156 | (injection eo156 with f1_ f2_ f3_; have f4_ := f1_.symm; have f5_ := f3_.symm; clear f1_ f2_ f3_; subst f4_; subst f5_))
             obtain ⟨Ao157, co157, eo157⟩ := Kd.R_slice HO960.out
             (first | subst eo157 | (injection eo157 with f1_ f2_ f3_; have f4_ := f1_.symm; have f5_ := f3_.symm; clear f1_ f2_ f3_; subst f4_; subst f5_))
             obtain ⟨Ao158, co158, eo158⟩ := Kd.R_slice HO963.out
             (first | subst eo158 | (injection eo158 with f1_ f2_ f3_; have f4_ := f1_.symm; have f5_ := f3_.symm; clear f1_ f2_ f3_; subst f4_; subst f5_))
             refine hK.out _ _ cl (fun hHeld => ?_)
             clear hK K
             refine norm_ (a' := ?_) ?_ ?_
             rotate_left
             ·show Act.put _ (some 83) _ = _
              simp only [Act.put, List.setIfInBounds_toArray, List.set_cons_zero, List.set_cons_succ, i64_w, i32_w]
              rfl
             refine one_ (i := 4) (N := some 84) #[true, true, true, true, true, false, false, false, true, false, false] rfl rfl (one_of HT_.out (by kernel_rfl)) (by decide) (fun K hK => ?_)
             refine goes_ Try.func38 (by kernel_rfl) rfl #[.agg #[.int .i64 t953, .int .i64 t954, .slice Ao156 t955.length co156, .slice Ao157 t958.length co157, .slice Ao158 t961.length co158], .agg #[.int .i64 t964, .int .i64 t965, .int .i64 t966, .int .i64 t967, .int .i64 t968]] (by rfl) rfl rfl mq ?_
             with_reducible refine (impl_ActOnce.calls kj90 t953 t954 _ _ t955 _ _ t958 _ _ t961 t964 t965 t966 t967 t968 t969 t970 t971 t974 t977 t980 _ ?s1 ?s2 ?s3 ?s4 ?s5 ?s6 A142.out).mono ?_
             (case s1 => exact cr HO957)
             (case s2 => exact rq1 HO957)
             (case s3 => exact cr HO960)
             (case s4 => exact rq1 HO960)
             (case s5 => exact cr HO963)
             (case s6 => exact rq1 HO963)
             rintro e w159 ⟨v972, v975, v978, rfl, ho0, ho1, ho2, hb⟩
             refine ⟨_, rfl, ?_⟩
             have HO973 := rl (Kd.R_new' (Kd.R_new' (Kd.R_new' (Kd.R_new' ho0 (lw HO_900002)) (lw HO_912002)) (lw HO_930002)) (lw HO957))
             replace HO_900002 := am (Kd.R_elder' (rq HO_900002) (Kd.R_base ho0) hb)
             replace HO_912002 := am (Kd.R_elder' (rq HO_912002) (Kd.R_base ho0) hb)
             replace HO_930002 := am (Kd.R_elder' (rq HO_930002) (Kd.R_base ho0) hb)
             replace HO957 := am (Kd.R_elder' (rq HO957) (Kd.R_base ho0) hb)
             have HO976 := rl (Kd.R_new' (Kd.R_new' (Kd.R_new' (Kd.R_new' (Kd.R_new' (Kd.R_new' (Kd.R_new' (Kd.R_new' ho1 (lw HO_900003)) (lw HO_900004)) (lw HO_912003)) (lw HO_912004)) (lw HO_930003)) (lw HO_930004)) (lw HO960)) (lw HO963))
             have HO979 := rl (Kd.R_new' (Kd.R_new' (Kd.R_new' (Kd.R_new' (Kd.R_new' (Kd.R_new' (Kd.R_new' (Kd.R_new' ho2 (lw HO_900003)) (lw HO_900004)) (lw HO_912003)) (lw HO_912004)) (lw HO_930003)) (lw HO_930004)) (lw HO960)) (lw HO963))
             replace HO_900003 := tq2 (rq HO_900003) hb ho1 ho2
             replace HO_900004 := tq2 (rq HO_900004) hb ho1 ho2
             replace HO_912003 := tq2 (rq HO_912003) hb ho1 ho2
             replace HO_912004 := tq2 (rq HO_912004) hb ho1 ho2
             replace HO_930003 := tq2 (rq HO_930003) hb ho1 ho2
             replace HO_930004 := tq2 (rq HO_930004) hb ho1 ho2
             replace HO960 := tq2 (rq HO960) hb ho1 ho2
             replace HO963 := tq2 (rq HO963) hb ho1 ho2
             replace BK868 := zb BK868 hb
             replace BK869 := zb BK869 hb
             replace BK899 := zb BK899 hb
             replace BK911 := zb BK911 hb
             replace BK929 := zb BK929 hb
             replace BK981 := zb BK981 hb
             replace HB := sb hb
             (try clear hb ho0 ho1 ho2)
             refine hK.out _ _ cl (fun hHeld => ?_)
             clear hK K
             refine norm_ (a' := ?_) ?_ ?_
             rotate_left
             ·show Act.put _ (some 84) _ = _
              simp only [Act.put, List.setIfInBounds_toArray, List.set_cons_zero, List.set_cons_succ, i64_w, i32_w]
              rfl
             refine pure_ (i := 5) (N := some 79) (v := ?_) (a' := ?_) #[true, true, true, true, true, true, false, false, true, false, false] rfl rfl (any_of HT_.out (by kernel_rfl)) (fun _ _ _ h => h) (Or.inl ⟨by rfl, ?_⟩) ?_ ?_
             rotate_left
             ·intro w'
              go_simp
              with_reducible rfl
             rotate_left
             ·simp only [Act.put, List.setIfInBounds_toArray, List.set_cons_zero, List.set_cons_succ, i64_w, i32_w]
              rfl
             refine pure_ (i := 6) (N := some 85) (v := ?_) (a' := ?_) #[true, true, true, true, true, true, true, false, true, false, false] rfl rfl (any_of HT_.out (by kernel_rfl)) (fun _ _ _ h => h) (Or.inl ⟨by rfl, ?_⟩) ?_ ?_
             rotate_left
             ·intro w'
              go_simp
              with_reducible rfl
             rotate_left
             ·simp only [Act.put, List.setIfInBounds_toArray, List.set_cons_zero, List.set_cons_succ, i64_w, i32_w]
              rfl
             refine pure_ (i := 7) (N := some 86) (v := ?_) (a' := ?_) #[true, true, true, true, true, true, true, true, true, false, false] rfl rfl (any_of HT_.out (by kernel_rfl)) (fun _ _ _ h => h) (Or.inl ⟨by rfl, ?_⟩) ?_ ?_
             rotate_left
             ·intro w'
              go_simp
              with_reducible rfl
             rotate_left
             ·simp only [Act.put, List.setIfInBounds_toArray, List.set_cons_zero, List.set_cons_succ, i64_w, i32_w]
              rfl
             exact norm_ (by simp only [putAll, Act.put, List.setIfInBounds_toArray, List.set_cons_zero, List.set_cons_succ]) (hCont (.slice Ao156 t955.length co156, .slice Ao157 t958.length co157, .slice Ao158 t961.length co158, v972, v975, v978, gb981) _ ⟨hHeld, (rm HO957), (rm HO960), (rm HO963), (rm HO973), (rm HO976), (rm HO979), (rm HO_900002), (rm HO_900003), (rm HO_900004), (rm HO_912002), (rm HO_912003), (rm HO_912004), (rm HO_930002), (rm HO_930003), (rm HO_930004), (zq BK868), (zq BK869), (zq BK899), (zq BK911), (zq BK929), (zq BK981), GW981.out, GE981.out, NB868_981.out, NB981_868.out, NB869_981.out, NB981_869.out, NB899_981.out, NB981_899.out, NB911_981.out, NB981_911.out, NB929_981.out, NB981_929.out, bq⟩)
           rintro ⟨v956, v959, v962, v972, v975, v978, gb981⟩ w160 ⟨hS_, h0_, h1_, h2_, h3_, h4_, h5_, h6_, h7_, h8_, h9_, h10_, h11_, h12_, h13_, h14_, h15_, h16_, h17_, h18_, h19_, h20_, h21_, h22_, h23_, h24_, h25_, h26_, h27_, h28_, h29_, h30_, h31_, h32_, h33_⟩
           have n0_ : Aside0 (Kd.R k58 58 w160 w.heap.size (fun k_ => some k_ ≠ (v972 : Value).ownBlock ∧ some k_ ≠ (.slice Ao33 t889.length co33 : Value).ownBlock ∧ some k_ ≠ (.slice Ao47 t944.length co47 : Value).ownBlock ∧ some k_ ≠ (.slice Ao58 t919.length co58 : Value).ownBlock) v956 t955) := ⟨h0_⟩
           have n1_ : Aside0 (Kd.R k60 60 w160 w.heap.size (fun k_ => some k_ ≠ (v962 : Value).ownBlock ∧ some k_ ≠ (v975 : Value).ownBlock ∧ some k_ ≠ (v978 : Value).ownBlock ∧ some k_ ≠ (.slice Ao35 t892.length co35 : Value).ownBlock ∧ some k_ ≠ (.slice Ao37 t895.length co37 : Value).ownBlock ∧ some k_ ≠ (.slice Ao48 t945.length co48 : Value).ownBlock ∧ some k_ ≠ (.slice Ao49 t946.length co49 : Value).ownBlock ∧ some k_ ≠ (.slice Ao60 t922.length co60 : Value).ownBlock ∧ some k_ ≠ (.slice Ao62 t925.length co62 : Value).ownBlock) v959 t958) := ⟨h1_⟩
           have n2_ : Aside0 (Kd.R k60 60 w160 w.heap.size (fun k_ => some k_ ≠ (v959 : Value).ownBlock ∧ some k_ ≠ (v975 : Value).ownBlock ∧ some k_ ≠ (v978 : Value).ownBlock ∧ some k_ ≠ (.slice Ao35 t892.length co35 : Value).ownBlock ∧ some k_ ≠ (.slice Ao37 t895.length co37 : Value).ownBlock ∧ some k_ ≠ (.slice Ao48 t945.length co48 : Value).ownBlock ∧ some k_ ≠ (.slice Ao49 t946.length co49 : Value).ownBlock ∧ some k_ ≠ (.slice Ao60 t922.length co60 : Value).ownBlock ∧ some k_ ≠ (.slice Ao62 t925.length co62 : Value).ownBlock) v962 t961) := ⟨h2_⟩
           have n3_ : Aside0 (Kd.R k58 58 w160 w.heap.size (fun k_ => some k_ ≠ (v956 : Value).ownBlock ∧ some k_ ≠ (.slice Ao33 t889.length co33 : Value).ownBlock ∧ some k_ ≠ (.slice Ao47 t944.length co47 : Value).ownBlock ∧ some k_ ≠ (.slice Ao58 t919.length co58 : Value).ownBlock) v972 t971) := ⟨h3_⟩
           have n4_ : Aside0 (Kd.R k60 60 w160 w.heap.size (fun k_ => some k_ ≠ (v959 : Value).ownBlock ∧ some k_ ≠ (v962 : Value).ownBlock ∧ some k_ ≠ (v978 : Value).ownBlock ∧ some k_ ≠ (.slice Ao35 t892.length co35 : Value).ownBlock ∧ some k_ ≠ (.slice Ao37 t895.length co37 : Value).ownBlock ∧ some k_ ≠ (.slice Ao48 t945.length co48 : Value).ownBlock ∧ some k_ ≠ (.slice Ao49 t946.length co49 : Value).ownBlock ∧ some k_ ≠ (.slice Ao60 t922.length co60 : Value).ownBlock ∧ some k_ ≠ (.slice Ao62 t925.length co62 : Value).ownBlock) v975 t974) := ⟨h4_⟩
           have n5_ : Aside0 (Kd.R k60 60 w160 w.heap.size (fun k_ => some k_ ≠ (v959 : Value).ownBlock ∧ some k_ ≠ (v962 : Value).ownBlock ∧ some k_ ≠ (v975 : Value).ownBlock ∧ some k_ ≠ (.slice Ao35 t892.length co35 : Value).ownBlock ∧ some k_ ≠ (.slice Ao37 t895.length co37 : Value).ownBlock ∧ some k_ ≠ (.slice Ao48 t945.length co48 : Value).ownBlock ∧ some k_ ≠ (.slice Ao49 t946.length co49 : Value).ownBlock ∧ some k_ ≠ (.slice Ao60 t922.length co60 : Value).ownBlock ∧ some k_ ≠ (.slice Ao62 t925.length co62 : Value).ownBlock) v978 t977) := ⟨h5_⟩
           have n6_ : Aside0 (Kd.R k58 58 w160 w.heap.size (fun k_ => some k_ ≠ (v956 : Value).ownBlock ∧ some k_ ≠ (v972 : Value).ownBlock ∧ some k_ ≠ (.slice Ao47 t944.length co47 : Value).ownBlock ∧ some k_ ≠ (.slice Ao58 t919.length co58 : Value).ownBlock) (.slice Ao33 t889.length co33) t889) := ⟨h6_⟩
           have n7_ : Aside0 (Kd.R k60 60 w160 w.heap.size (fun k_ => some k_ ≠ (v959 : Value).ownBlock ∧ some k_ ≠ (v962 : Value).ownBlock ∧ some k_ ≠ (v975 : Value).ownBlock ∧ some k_ ≠ (v978 : Value).ownBlock ∧ some k_ ≠ (.slice Ao37 t895.length co37 : Value).ownBlock ∧ some k_ ≠ (.slice Ao48 t945.length co48 : Value).ownBlock ∧ some k_ ≠ (.slice Ao49 t946.length co49 : Value).ownBlock ∧ some k_ ≠ (.slice Ao60 t922.length co60 : Value).ownBlock ∧ some k_ ≠ (.slice Ao62 t925.length co62 : Value).ownBlock) (.slice Ao35 t892.length co35) t892) := ⟨h7_⟩
           have n8_ : Aside0 (Kd.R k60 60 w160 w.heap.size (fun k_ => some k_ ≠ (v959 : Value).ownBlock ∧ some k_ ≠ (v962 : Value).ownBlock ∧ some k_ ≠ (v975 : Value).ownBlock ∧ some k_ ≠ (v978 : Value).ownBlock ∧ some k_ ≠ (.slice Ao35 t892.length co35 : Value).ownBlock ∧ some k_ ≠ (.slice Ao48 t945.length co48 : Value).ownBlock ∧ some k_ ≠ (.slice Ao49 t946.length co49 : Value).ownBlock ∧ some k_ ≠ (.slice Ao60 t922.length co60 : Value).ownBlock ∧ some k_ ≠ (.slice Ao62 t925.length co62 : Value).ownBlock) (.slice Ao37 t895.length co37) t895) := ⟨h8_⟩
           have n9_ : Aside0 (Kd.R k58 58 w160 w.heap.size (fun k_ => some k_ ≠ (v956 : Value).ownBlock ∧ some k_ ≠ (v972 : Value).ownBlock ∧ some k_ ≠ (.slice Ao33 t889.length co33 : Value).ownBlock ∧ some k_ ≠ (.slice Ao58 t919.length co58 : Value).ownBlock) (.slice Ao47 t944.length co47) t944) := ⟨h9_⟩
           have n10_ : Aside0 (Kd.R k60 60 w160 w.heap.size (fun k_ => some k_ ≠ (v959 : Value).ownBlock ∧ some k_ ≠ (v962 : Value).ownBlock ∧ some k_ ≠ (v975 : Value).ownBlock ∧ some k_ ≠ (v978 : Value).ownBlock ∧ some k_ ≠ (.slice Ao35 t892.length co35 : Value).ownBlock ∧ some k_ ≠ (.slice Ao37 t895.length co37 : Value).ownBlock ∧ some k_ ≠ (.slice Ao49 t946.length co49 : Value).ownBlock ∧ some k_ ≠ (.slice Ao60 t922.length co60 : Value).ownBlock ∧ some k_ ≠ (.slice Ao62 t925.length co62 : Value).ownBlock) (.slice Ao48 t945.length co48) t945) := ⟨h10_⟩
           have n11_ : Aside0 (Kd.R k60 60 w160 w.heap.size (fun k_ => some k_ ≠ (v959 : Value).ownBlock ∧ some k_ ≠ (v962 : Value).ownBlock ∧ some k_ ≠ (v975 : Value).ownBlock ∧ some k_ ≠ (v978 : Value).ownBlock ∧ some k_ ≠ (.slice Ao35 t892.length co35 : Value).ownBlock ∧ some k_ ≠ (.slice Ao37 t895.length co37 : Value).ownBlock ∧ some k_ ≠ (.slice Ao48 t945.length co48 : Value).ownBlock ∧ some k_ ≠ (.slice Ao60 t922.length co60 : Value).ownBlock ∧ some k_ ≠ (.slice Ao62 t925.length co62 : Value).ownBlock) (.slice Ao49 t946.length co49) t946) := ⟨h11_⟩
           have n12_ : Aside0 (Kd.R k58 58 w160 w.heap.size (fun k_ => some k_ ≠ (v956 : Value).ownBlock ∧ some k_ ≠ (v972 : Value).ownBlock ∧ some k_ ≠ (.slice Ao33 t889.length co33 : Value).ownBlock ∧ some k_ ≠ (.slice Ao47 t944.length co47 : Value).ownBlock) (.slice Ao58 t919.length co58) t949) := ⟨h12_⟩
           have n13_ : Aside0 (Kd.R k60 60 w160 w.heap.size (fun k_ => some k_ ≠ (v959 : Value).ownBlock ∧ some k_ ≠ (v962 : Value).ownBlock ∧ some k_ ≠ (v975 : Value).ownBlock ∧ some k_ ≠ (v978 : Value).ownBlock ∧ some k_ ≠ (.slice Ao35 t892.length co35 : Value).ownBlock ∧ some k_ ≠ (.slice Ao37 t895.length co37 : Value).ownBlock ∧ some k_ ≠ (.slice Ao48 t945.length co48 : Value).ownBlock ∧ some k_ ≠ (.slice Ao49 t946.length co49 : Value).ownBlock ∧ some k_ ≠ (.slice Ao62 t925.length co62 : Value).ownBlock) (.slice Ao60 t922.length co60) t950) := ⟨h13_⟩
           have n14_ : Aside0 (Kd.R k60 60 w160 w.heap.size (fun k_ => some k_ ≠ (v959 : Value).ownBlock ∧ some k_ ≠ (v962 : Value).ownBlock ∧ some k_ ≠ (v975 : Value).ownBlock ∧ some k_ ≠ (v978 : Value).ownBlock ∧ some k_ ≠ (.slice Ao35 t892.length co35 : Value).ownBlock ∧ some k_ ≠ (.slice Ao37 t895.length co37 : Value).ownBlock ∧ some k_ ≠ (.slice Ao48 t945.length co48 : Value).ownBlock ∧ some k_ ≠ (.slice Ao49 t946.length co49 : Value).ownBlock ∧ some k_ ≠ (.slice Ao60 t922.length co60 : Value).ownBlock) (.slice Ao62 t925.length co62) t951) := ⟨h14_⟩
           have n15_ : Aside0 (w160.heap[gb868]? = some (.cells #[.int .i64 a0_0, .int .i64 a0_1, .slice A0_2 l0_2.length c0_2, .slice A0_3 l0_3.length c0_3, .slice A0_4 l0_4.length c0_4] 27 (0, 0))) := ⟨h15_⟩
           have n16_ : Aside0 (w160.heap[gb869]? = some (.cells #[.int .i64 a1_0, .int .i64 a1_1, .int .i64 a1_2, .int .i64 a1_3, .int .i64 a1_4] 56 (0, 0))) := ⟨h16_⟩
           have n17_ : Aside0 (w160.heap[gb899]? = some (.cells #[.int .i64 t887, .int .i64 t888, .slice Ao33 t889.length co33, .slice Ao35 t892.length co35, .slice Ao37 t895.length co37] 35 (0, 0))) := ⟨h17_⟩
           have n18_ : Aside0 (w160.heap[gb911]? = some (.cells #[.int .i64 t900, .int .i64 t901, .slice Ao47 t944.length co47, .slice Ao48 t945.length co48, .slice Ao49 t946.length co49] 35 (0, 0))) := ⟨h18_⟩
           have n19_ : Aside0 (w160.heap[gb929]? = some (.cells #[.int .i64 t917, .int .i64 t918, .slice Ao58 t919.length co58, .slice Ao60 t922.length co60, .slice Ao62 t925.length co62] 35 (0, 0))) := ⟨h19_⟩
           have n20_ : Aside0 (w160.heap[gb981]? = some (.cells #[.int .i64 0, .int .i64 0, .slice none 0 0, .slice none 0 0, .slice none 0 0] 35 (0, 0))) := ⟨h20_⟩
           have n21_ : Aside0 (w.heap.size ≤ gb981) := ⟨h21_⟩
           have n22_ : Aside0 (w.heap.size ≤ gb981) := ⟨h22_⟩
           have n23_ : Aside0 (gb868 ≠ gb981) := ⟨h23_⟩
           have n24_ : Aside0 (gb981 ≠ gb868) := ⟨h24_⟩
           have n25_ : Aside0 (gb869 ≠ gb981) := ⟨h25_⟩
           have n26_ : Aside0 (gb981 ≠ gb869) := ⟨h26_⟩
           have n27_ : Aside0 (gb899 ≠ gb981) := ⟨h27_⟩
           have n28_ : Aside0 (gb981 ≠ gb899) := ⟨h28_⟩
           have n29_ : Aside0 (gb911 ≠ gb981) := ⟨h29_⟩
           have n30_ : Aside0 (gb981 ≠ gb911) := ⟨h30_⟩
           have n31_ : Aside0 (gb929 ≠ gb981) := ⟨h31_⟩
           have n32_ : Aside0 (gb981 ≠ gb929) := ⟨h32_⟩
           have n33_ : Aside0 (Below w.heap.size w w160) := ⟨h33_⟩
           clear HO_900002 HO_900003 HO_900004 HO_912002 HO_912003 HO_912004 HO_930002 HO_930003 HO_930004 BK868 BK869 BK899 BK911 BK929 HB h0_ h1_ h2_ h3_ h4_ h5_ h6_ h7_ h8_ h9_ h10_ h11_ h12_ h13_ h14_ h15_ h16_ h17_ h18_ h19_ h20_ h21_ h22_ h23_ h24_ h25_ h26_ h27_ h28_ h29_ h30_ h31_ h32_ h33_
           have HO973 := n3_
           have HO976 := n4_
           have HO979 := n5_
           have HO_900002 := n6_
           have HO_900003 := n7_
           have HO_900004 := n8_
           have HO_912002 := n9_
           have HO_912003 := n10_
           have HO_912004 := n11_
           have HO_930002 := n12_
           have HO_930003 := n13_
           have HO_930004 := n14_
           have BK868 := n15_
           have BK869 := n16_
           have BK899 := n17_
           have BK911 := n18_
           have BK929 := n19_
           have BK981 := n20_
           have GW981 := n21_
           have GE981 := n22_
           have NB868_981 := n23_
           have NB981_868 := n24_
           have NB869_981 := n25_
           have NB981_869 := n26_
           have NB899_981 := n27_
           have NB981_899 := n28_
           have NB911_981 := n29_
           have NB981_911 := n30_
           have NB929_981 := n31_
           have NB981_929 := n32_
           have HB := n33_
           clear n0_ n1_ n2_ n3_ n4_ n5_ n6_ n7_ n8_ n9_ n10_ n11_ n12_ n13_ n14_ n15_ n16_ n17_ n18_ n19_ n20_ n21_ n22_ n23_ n24_ n25_ n26_ n27_ n28_ n29_ n30_ n31_ n32_ n33_
           have hHeld : w160.cell? ⟨gb868, 0, none⟩ = some (.int .i64 a0_0) ∧ w160.cell? ⟨gb868, 1, none⟩ = some (.int .i64 a0_1) ∧ w160.cell? ⟨gb868, 2, none⟩ = some (.slice A0_2 l0_2.length c0_2) ∧ w160.cell? ⟨gb868, 3, none⟩ = some (.slice A0_3 l0_3.length c0_3) ∧ w160.cell? ⟨gb868, 4, none⟩ = some (.slice A0_4 l0_4.length c0_4) ∧ w160.cell? ⟨gb869, 0, none⟩ = some (.int .i64 a1_0) ∧ w160.cell? ⟨gb869, 1, none⟩ = some (.int .i64 a1_1) ∧ w160.cell? ⟨gb869, 2, none⟩ = some (.int .i64 a1_2) ∧ w160.cell? ⟨gb869, 3, none⟩ = some (.int .i64 a1_3) ∧ w160.cell? ⟨gb869, 4, none⟩ = some (.int .i64 a1_4) := hS_
           obtain ⟨Ao163, co163, eo163⟩ := Kd.R_slice HO973.out
           (first | subst eo163 | (injection eo163 with f1_ f2_ f3_; have f4_ := f1_.symm; have f5_ := f3_.symm; clear f1_ f2_ f3_; subst f4_; subst f5_))
           obtain ⟨Ao165, co165, eo165⟩ := Kd.R_slice HO976.out
           (first | subst eo165 | (injection eo165 with f1_ f2_ f3_; have f4_ := f1_.symm; have f5_ := f3_.symm; clear f1_ f2_ f3_; subst f4_; subst f5_))
           obtain ⟨Ao167, co167, eo167⟩ := Kd.R_slice HO979.out
           (first | subst eo167 | (injection eo167 with f1_ f2_ f3_; have f4_ := f1_.symm; have f5_ := f3_.symm; clear f1_ f2_ f3_; subst f4_; subst f5_))
           refine norm_ (a' := ?_) ?_ ?_
           rotate_left
           ·simp only [putAll, Act.put, List.setIfInBounds_toArray, List.set_cons_zero, List.set_cons_succ]
            rfl
           refine one_ (i := 9) (N := none) #[true, true, true, true, true, true, true, true, true, true, false] rfl rfl (one_of HT_.out (by kernel_rfl)) (by decide) (fun K hK => ?_)
           have hs161 : w160.cell? ⟨gb981, 0, none⟩ = some (.int .i64 0) := (blk_cell BK981.out 0).trans rfl
           have hfs161 := blk_frozen BK981.out 0
           have hns161_0 := NB868_981.out
           have hns161_1 := NB869_981.out
           have hns161_2 := NB899_981.out
           have hns161_3 := NB911_981.out
           have hns161_4 := NB929_981.out
           have hms161_0 := NB981_868.out
           have hms161_1 := NB981_869.out
           have hms161_2 := NB981_899.out
           have hms161_3 := NB981_911.out
           have hms161_4 := NB981_929.out
           have hs162 : w160.cell? ⟨gb981, 1, none⟩ = some (.int .i64 0) := (blk_cell BK981.out 1).trans rfl
           have hfs162 := blk_frozen BK981.out 1
           have hns162_0 := NB868_981.out
           have hns162_1 := NB869_981.out
           have hns162_2 := NB899_981.out
           have hns162_3 := NB911_981.out
           have hns162_4 := NB929_981.out
           have hms162_0 := NB981_868.out
           have hms162_1 := NB981_869.out
           have hms162_2 := NB981_899.out
           have hms162_3 := NB981_911.out
           have hms162_4 := NB981_929.out
           have hs164 : w160.cell? ⟨gb981, 2, none⟩ = some (.slice none 0 0) := (blk_cell BK981.out 2).trans rfl
           have hfs164 := blk_frozen BK981.out 2
           have hns164_0 := NB868_981.out
           have hns164_1 := NB869_981.out
           have hns164_2 := NB899_981.out
           have hns164_3 := NB911_981.out
           have hns164_4 := NB929_981.out
           have hms164_0 := NB981_868.out
           have hms164_1 := NB981_869.out
           have hms164_2 := NB981_899.out
           have hms164_3 := NB981_911.out
           have hms164_4 := NB981_929.out
           have hs166 : w160.cell? ⟨gb981, 3, none⟩ = some (.slice none 0 0) := (blk_cell BK981.out 3).trans rfl
           have hfs166 := blk_frozen BK981.out 3
           have hns166_0 := NB868_981.out
           have hns166_1 := NB869_981.out
           have hns166_2 := NB899_981.out
           have hns166_3 := NB911_981.out
           have hns166_4 := NB929_981.out
           have hms166_0 := NB981_868.out
           have hms166_1 := NB981_869.out
           have hms166_2 := NB981_899.out
           have hms166_3 := NB981_911.out
           have hms166_4 := NB981_929.out
           have hs168 : w160.cell? ⟨gb981, 4, none⟩ = some (.slice none 0 0) := (blk_cell BK981.out 4).trans rfl
           have hfs168 := blk_frozen BK981.out 4
           have hns168_0 := NB868_981.out
           have hns168_1 := NB869_981.out
           have hns168_2 := NB899_981.out
           have hns168_3 := NB911_981.out
           have hns168_4 := NB929_981.out
           have hms168_0 := NB981_868.out
           have hms168_1 := NB981_869.out
           have hms168_2 := NB981_899.out
           have hms168_3 := NB981_911.out
           have hms168_4 := NB981_929.out
           refine skip_ (w1 := ?_) (by rfl) rfl ?_ ?_
           rotate_left
           ·go_simp
            rfl
           refine hK.out _ _ (chf hHeld) (fun hHeld => ?_)
           clear hK K
           refine pure_ (i := 10) (N := some 15) (v := ?_) (a' := ?_) #[true, true, true, true, true, true, true, true, true, true, true] rfl rfl (any_of HT_.out (by kernel_rfl)) (fun _ _ _ h => h) (Or.inl ⟨by rfl, ?_⟩) ?_ ?_
           rotate_left
           ·intro w'
            go_simp
            with_reducible rfl
           rotate_left
           ·simp only [Act.put, List.setIfInBounds_toArray, List.set_cons_zero, List.set_cons_succ, i64_w, i32_w]
            rfl
           refine done_ (done_of HT_.out (by kernel_rfl)) ?_
           go_upto_region 25 with (fail)
           go_cut [95] (fun v95 wc => ∃ (kq : Nat) (x95_142 : Bool), v95 = .bool x95_142 ∧ Aside0 (laws_FnExactActOnce.j2 kq t948 x95_142 t917 t918 t949 t950 t951 = some r) ∧ Aside0 (kq ≤ kj90) ∧ Aside0 (Kd.R k58 58 wc w.heap.size (fun k_ => some k_ ≠ ((.slice Ao47 t944.length co47) : Value).ownBlock ∧ some k_ ≠ ((.slice Ao58 t919.length co58) : Value).ownBlock ∧ some k_ ≠ ((.slice Ao163 t971.length co163) : Value).ownBlock) (.slice Ao33 t889.length co33) t889) ∧ Aside0 (Kd.R k60 60 wc w.heap.size (fun k_ => some k_ ≠ ((.slice Ao37 t895.length co37) : Value).ownBlock ∧ some k_ ≠ ((.slice Ao48 t945.length co48) : Value).ownBlock ∧ some k_ ≠ ((.slice Ao49 t946.length co49) : Value).ownBlock ∧ some k_ ≠ ((.slice Ao60 t922.length co60) : Value).ownBlock ∧ some k_ ≠ ((.slice Ao62 t925.length co62) : Value).ownBlock ∧ some k_ ≠ ((.slice Ao165 t974.length co165) : Value).ownBlock ∧ some k_ ≠ ((.slice Ao167 t977.length co167) : Value).ownBlock) (.slice Ao35 t892.length co35) t892) ∧ Aside0 (Kd.R k60 60 wc w.heap.size (fun k_ => some k_ ≠ ((.slice Ao35 t892.length co35) : Value).ownBlock ∧ some k_ ≠ ((.slice Ao48 t945.length co48) : Value).ownBlock ∧ some k_ ≠ ((.slice Ao49 t946.length co49) : Value).ownBlock ∧ some k_ ≠ ((.slice Ao60 t922.length co60) : Value).ownBlock ∧ some k_ ≠ ((.slice Ao62 t925.length co62) : Value).ownBlock ∧ some k_ ≠ ((.slice Ao165 t974.length co165) : Value).ownBlock ∧ some k_ ≠ ((.slice Ao167 t977.length co167) : Value).ownBlock) (.slice Ao37 t895.length co37) t895) ∧ Aside0 (Kd.R k58 58 wc w.heap.size (fun k_ => some k_ ≠ ((.slice Ao33 t889.length co33) : Value).ownBlock ∧ some k_ ≠ ((.slice Ao58 t919.length co58) : Value).ownBlock ∧ some k_ ≠ ((.slice Ao163 t971.length co163) : Value).ownBlock) (.slice Ao47 t944.length co47) t944) ∧ Aside0 (Kd.R k60 60 wc w.heap.size (fun k_ => some k_ ≠ ((.slice Ao35 t892.length co35) : Value).ownBlock ∧ some k_ ≠ ((.slice Ao37 t895.length co37) : Value).ownBlock ∧ some k_ ≠ ((.slice Ao49 t946.length co49) : Value).ownBlock ∧ some k_ ≠ ((.slice Ao60 t922.length co60) : Value).ownBlock ∧ some k_ ≠ ((.slice Ao62 t925.length co62) : Value).ownBlock ∧ some k_ ≠ ((.slice Ao165 t974.length co165) : Value).ownBlock ∧ some k_ ≠ ((.slice Ao167 t977.length co167) : Value).ownBlock) (.slice Ao48 t945.length co48) t945) ∧ Aside0 (Kd.R k60 60 wc w.heap.size (fun k_ => some k_ ≠ ((.slice Ao35 t892.length co35) : Value).ownBlock ∧ some k_ ≠ ((.slice Ao37 t895.length co37) : Value).ownBlock ∧ some k_ ≠ ((.slice Ao48 t945.length co48) : Value).ownBlock ∧ some k_ ≠ ((.slice Ao60 t922.length co60) : Value).ownBlock ∧ some k_ ≠ ((.slice Ao62 t925.length co62) : Value).ownBlock ∧ some k_ ≠ ((.slice Ao165 t974.length co165) : Value).ownBlock ∧ some k_ ≠ ((.slice Ao167 t977.length co167) : Value).ownBlock) (.slice Ao49 t946.length co49) t946) ∧ Aside0 (Kd.R k58 58 wc w.heap.size (fun k_ => some k_ ≠ ((.slice Ao33 t889.length co33) : Value).ownBlock ∧ some k_ ≠ ((.slice Ao47 t944.length co47) : Value).ownBlock ∧ some k_ ≠ ((.slice Ao163 t971.length co163) : Value).ownBlock) (.slice Ao58 t919.length co58) t949) ∧ Aside0 (Kd.R k60 60 wc w.heap.size (fun k_ => some k_ ≠ ((.slice Ao35 t892.length co35) : Value).ownBlock ∧ some k_ ≠ ((.slice Ao37 t895.length co37) : Value).ownBlock ∧ some k_ ≠ ((.slice Ao48 t945.length co48) : Value).ownBlock ∧ some k_ ≠ ((.slice Ao49 t946.length co49) : Value).ownBlock ∧ some k_ ≠ ((.slice Ao62 t925.length co62) : Value).ownBlock ∧ some k_ ≠ ((.slice Ao165 t974.length co165) : Value).ownBlock ∧ some k_ ≠ ((.slice Ao167 t977.length co167) : Value).ownBlock) (.slice Ao60 t922.length co60) t950) ∧ Aside0 (Kd.R k60 60 wc w.heap.size (fun k_ => some k_ ≠ ((.slice Ao35 t892.length co35) : Value).ownBlock ∧ some k_ ≠ ((.slice Ao37 t895.length co37) : Value).ownBlock ∧ some k_ ≠ ((.slice Ao48 t945.length co48) : Value).ownBlock ∧ some k_ ≠ ((.slice Ao49 t946.length co49) : Value).ownBlock ∧ some k_ ≠ ((.slice Ao60 t922.length co60) : Value).ownBlock ∧ some k_ ≠ ((.slice Ao165 t974.length co165) : Value).ownBlock ∧ some k_ ≠ ((.slice Ao167 t977.length co167) : Value).ownBlock) (.slice Ao62 t925.length co62) t951) ∧ Aside0 (Kd.R k58 58 wc w.heap.size (fun k_ => some k_ ≠ ((.slice Ao33 t889.length co33) : Value).ownBlock ∧ some k_ ≠ ((.slice Ao47 t944.length co47) : Value).ownBlock ∧ some k_ ≠ ((.slice Ao58 t919.length co58) : Value).ownBlock) (.slice Ao163 t971.length co163) t971) ∧ Aside0 (Kd.R k60 60 wc w.heap.size (fun k_ => some k_ ≠ ((.slice Ao35 t892.length co35) : Value).ownBlock ∧ some k_ ≠ ((.slice Ao37 t895.length co37) : Value).ownBlock ∧ some k_ ≠ ((.slice Ao48 t945.length co48) : Value).ownBlock ∧ some k_ ≠ ((.slice Ao49 t946.length co49) : Value).ownBlock ∧ some k_ ≠ ((.slice Ao60 t922.length co60) : Value).ownBlock ∧ some k_ ≠ ((.slice Ao62 t925.length co62) : Value).ownBlock ∧ some k_ ≠ ((.slice Ao167 t977.length co167) : Value).ownBlock) (.slice Ao165 t974.length co165) t974) ∧ Aside0 (Kd.R k60 60 wc w.heap.size (fun k_ => some k_ ≠ ((.slice Ao35 t892.length co35) : Value).ownBlock ∧ some k_ ≠ ((.slice Ao37 t895.length co37) : Value).ownBlock ∧ some k_ ≠ ((.slice Ao48 t945.length co48) : Value).ownBlock ∧ some k_ ≠ ((.slice Ao49 t946.length co49) : Value).ownBlock ∧ some k_ ≠ ((.slice Ao60 t922.length co60) : Value).ownBlock ∧ some k_ ≠ ((.slice Ao62 t925.length co62) : Value).ownBlock ∧ some k_ ≠ ((.slice Ao165 t974.length co165) : Value).ownBlock) (.slice Ao167 t977.length co167) t977) ∧ Aside0 (wc.heap[gb868]? = some (.cells #[.int .i64 a0_0, .int .i64 a0_1, (.slice A0_2 l0_2.length c0_2), (.slice A0_3 l0_3.length c0_3), (.slice A0_4 l0_4.length c0_4)] 27 (0, 0))) ∧ Aside0 (wc.heap[gb869]? = some (.cells #[.int .i64 a1_0, .int .i64 a1_1, .int .i64 a1_2, .int .i64 a1_3, .int .i64 a1_4] 56 (0, 0))) ∧ Aside0 (wc.heap[gb899]? = some (.cells #[.int .i64 t887, .int .i64 t888, (.slice Ao33 t889.length co33), (.slice Ao35 t892.length co35), (.slice Ao37 t895.length co37)] 35 (0, 0))) ∧ Aside0 (wc.heap[gb911]? = some (.cells #[.int .i64 t900, .int .i64 t901, (.slice Ao47 t944.length co47), (.slice Ao48 t945.length co48), (.slice Ao49 t946.length co49)] 35 (0, 0))) ∧ Aside0 (wc.heap[gb929]? = some (.cells #[.int .i64 t917, .int .i64 t918, (.slice Ao58 t919.length co58), (.slice Ao60 t922.length co60), (.slice Ao62 t925.length co62)] 35 (0, 0))) ∧ Aside0 (wc.heap[gb981]? = some (.cells #[.int .i64 t969, .int .i64 t970, (.slice Ao163 t971.length co163), (.slice Ao165 t974.length co165), (.slice Ao167 t977.length co167)] 35 (0, 0))) ∧ Aside0 (Below w.heap.size w wc))
           case first =>
            have H := HC143.out
            clear HC143
            obtain ⟨t982, A169, H⟩ := bindq H
            try dsimp only at H
            by_cases c170 : t982 = true
            ·subst c170
             rw [if_pos rfl] at H
             try dsimp only at H
             have H' := am H
             clear H
             have hnb171 := NB981_868.out
             have hnc171 := NB868_981.out
             have hnb172 := NB981_869.out
             have hnc172 := NB869_981.out
             have hnb173 := NB981_899.out
             have hnc173 := NB899_981.out
             have hnb174 := NB981_911.out
             have hnc174 := NB911_981.out
             have hnb175 := NB981_929.out
             have hnc175 := NB929_981.out
             have ⟨hcz176_0, hcz176_1, hcz176_2, hcz176_3, hcz176_4, hfz176_0, hfz176_1, hfz176_2, hfz176_3, hfz176_4⟩ := bc5 BK981
             have hnb177 := NB899_868.out
             have hnc177 := NB868_899.out
             have hnb178 := NB899_869.out
             have hnc178 := NB869_899.out
             have hnb179 := NB899_911.out
             have hnc179 := NB911_899.out
             have hnb180 := NB899_929.out
             have hnc180 := NB929_899.out
             have ⟨hcz181_0, hcz181_1, hcz181_2, hcz181_3, hcz181_4, hfz181_0, hfz181_1, hfz181_2, hfz181_3, hfz181_4⟩ := bc5 BK899
             go_wp2_with (first | ((with_reducible refine gate_callee (f := 18) rfl ?_); refine goesQ (some 89) Try.func18 #[.agg #[.int .i64 t969, .int .i64 t970, .slice Ao163 t971.length co163, .slice Ao165 t974.length co165, .slice Ao167 t977.length co167], .agg #[.int .i64 t887, .int .i64 t888, .slice Ao33 t889.length co33, .slice Ao35 t892.length co35, .slice Ao37 t895.length co37]] ?_; (with_reducible refine (laws_eqSession.calls kj90 t969 t970 _ _ t971 _ _ t974 _ _ t977 t887 t888 _ _ t889 _ _ t892 _ _ t895 true _ ?s1 ?s2 ?s3 ?s4 ?s5 ?s6 ?s7 ?s8 ?s9 ?s10 ?s11 ?s12 A169.out).mono ?_); (case s1 => exact cf HO973 BK981); (case s2 => exact rq1 HO973); (case s3 => exact cf HO976 BK981); (case s4 => exact rq1 HO976); (case s5 => exact cf HO979 BK981); (case s6 => exact rq1 HO979); (case s7 => exact cf HO_900002 BK981); (case s8 => exact rq1 HO_900002); (case s9 => exact cf HO_900003 BK981); (case s10 => exact rq1 HO_900003); (case s11 => exact cf HO_900004 BK981); (case s12 => exact rq1 HO_900004); rintro e w182 ⟨rfl, hb⟩; refine ⟨_, rfl, ?_⟩; replace HO_900002 := am (Kd.R_below (fq HO_900002 BK981) hb); replace HO_900003 := am (Kd.R_below (fq HO_900003 BK981) hb); replace HO_900004 := am (Kd.R_below (fq HO_900004 BK981) hb); replace HO_912002 := am (Kd.R_below (fq HO_912002 BK981) hb); replace HO_912003 := am (Kd.R_below (fq HO_912003 BK981) hb); replace HO_912004 := am (Kd.R_below (fq HO_912004 BK981) hb); replace HO_930002 := am (Kd.R_below (fq HO_930002 BK981) hb); replace HO_930003 := am (Kd.R_below (fq HO_930003 BK981) hb); replace HO_930004 := am (Kd.R_below (fq HO_930004 BK981) hb); replace HO973 := am (Kd.R_below (fq HO973 BK981) hb); replace HO976 := am (Kd.R_below (fq HO976 BK981) hb); replace HO979 := am (Kd.R_below (fq HO979 BK981) hb); replace BK868 := am (blk_below (g := gb868) (o := .cells #[.int .i64 a0_0, .int .i64 a0_1, .slice A0_2 l0_2.length c0_2, .slice A0_3 l0_3.length c0_3, .slice A0_4 l0_4.length c0_4] 27 (0, 0)) (zp BK868) hb); replace BK869 := am (blk_below (g := gb869) (o := .cells #[.int .i64 a1_0, .int .i64 a1_1, .int .i64 a1_2, .int .i64 a1_3, .int .i64 a1_4] 56 (0, 0)) (zp BK869) hb); replace BK899 := am (blk_below (g := gb899) (o := .cells #[.int .i64 t887, .int .i64 t888, .slice Ao33 t889.length co33, .slice Ao35 t892.length co35, .slice Ao37 t895.length co37] 35 (0, 0)) (zp BK899) hb); replace BK911 := am (blk_below (g := gb911) (o := .cells #[.int .i64 t900, .int .i64 t901, .slice Ao47 t944.length co47, .slice Ao48 t945.length co48, .slice Ao49 t946.length co49] 35 (0, 0)) (zp BK911) hb); replace BK929 := am (blk_below (g := gb929) (o := .cells #[.int .i64 t917, .int .i64 t918, .slice Ao58 t919.length co58, .slice Ao60 t922.length co60, .slice Ao62 t925.length co62] 35 (0, 0)) (zp BK929) hb); replace BK981 := am (blk_below (g := gb981) (o := .cells #[.int .i64 t969, .int .i64 t970, .slice Ao163 t971.length co163, .slice Ao165 t974.length co165, .slice Ao167 t977.length co167] 35 (0, 0)) (zp BK981) hb); replace HB := sb hb; (try clear hb)))
             go_meet
             case rel => exact ⟨_, ((t980 != t898)), sq, H', ⟨by have := HJ15.out; have := HJ90.out; first | omega | exact Nat.le_refl _⟩, ⟨by (try simp only [hl912002_90]); (try simp only [hl912003_90]); (try simp only [hl912004_90]); (with_reducible repeat (first | apply Kd.R_alloc | apply Kd.R_drewN | apply Kd.R_drew)); exact Kd.R_mono HO_900002.out (fun _ hk => ⟨hk.2.2.1, ⟨hk.2.2.2, hk.2.1⟩⟩)⟩, ⟨by (try simp only [hl912002_90]); (try simp only [hl912003_90]); (try simp only [hl912004_90]); (with_reducible repeat (first | apply Kd.R_alloc | apply Kd.R_drewN | apply Kd.R_drew)); exact Kd.R_mono HO_900003.out (fun _ hk => ⟨hk.2.2.2.2.1, ⟨hk.2.2.2.2.2.1, ⟨hk.2.2.2.2.2.2.1, ⟨hk.2.2.2.2.2.2.2.1, ⟨hk.2.2.2.2.2.2.2.2, ⟨hk.2.2.1, hk.2.2.2.1⟩⟩⟩⟩⟩⟩)⟩, ⟨by (try simp only [hl912002_90]); (try simp only [hl912003_90]); (try simp only [hl912004_90]); (with_reducible repeat (first | apply Kd.R_alloc | apply Kd.R_drewN | apply Kd.R_drew)); exact Kd.R_mono HO_900004.out (fun _ hk => ⟨hk.2.2.2.2.1, ⟨hk.2.2.2.2.2.1, ⟨hk.2.2.2.2.2.2.1, ⟨hk.2.2.2.2.2.2.2.1, ⟨hk.2.2.2.2.2.2.2.2, ⟨hk.2.2.1, hk.2.2.2.1⟩⟩⟩⟩⟩⟩)⟩, ⟨by (try simp only [hl912002_90]); (try simp only [hl912003_90]); (try simp only [hl912004_90]); (with_reducible repeat (first | apply Kd.R_alloc | apply Kd.R_drewN | apply Kd.R_drew)); exact Kd.R_mono HO_912002.out (fun _ hk => ⟨hk.2.2.1, ⟨hk.2.2.2, hk.2.1⟩⟩)⟩, ⟨by (try simp only [hl912002_90]); (try simp only [hl912003_90]); (try simp only [hl912004_90]); (with_reducible repeat (first | apply Kd.R_alloc | apply Kd.R_drewN | apply Kd.R_drew)); exact Kd.R_mono HO_912003.out (fun _ hk => ⟨hk.2.2.2.2.1, ⟨hk.2.2.2.2.2.1, ⟨hk.2.2.2.2.2.2.1, ⟨hk.2.2.2.2.2.2.2.1, ⟨hk.2.2.2.2.2.2.2.2, ⟨hk.2.2.1, hk.2.2.2.1⟩⟩⟩⟩⟩⟩)⟩, ⟨by (try simp only [hl912002_90]); (try simp only [hl912003_90]); (try simp only [hl912004_90]); (with_reducible repeat (first | apply Kd.R_alloc | apply Kd.R_drewN | apply Kd.R_drew)); exact Kd.R_mono HO_912004.out (fun _ hk => ⟨hk.2.2.2.2.1, ⟨hk.2.2.2.2.2.1, ⟨hk.2.2.2.2.2.2.1, ⟨hk.2.2.2.2.2.2.2.1, ⟨hk.2.2.2.2.2.2.2.2, ⟨hk.2.2.1, hk.2.2.2.1⟩⟩⟩⟩⟩⟩)⟩, ⟨by (try simp only [hl912002_90]); (try simp only [hl912003_90]); (try simp only [hl912004_90]); (with_reducible repeat (first | apply Kd.R_alloc | apply Kd.R_drewN | apply Kd.R_drew)); exact Kd.R_mono HO_930002.out (fun _ hk => ⟨hk.2.2.1, ⟨hk.2.2.2, hk.2.1⟩⟩)⟩, ⟨by (try simp only [hl912002_90]); (try simp only [hl912003_90]); (try simp only [hl912004_90]); (with_reducible repeat (first | apply Kd.R_alloc | apply Kd.R_drewN | apply Kd.R_drew)); exact Kd.R_mono HO_930003.out (fun _ hk => ⟨hk.2.2.2.2.1, ⟨hk.2.2.2.2.2.1, ⟨hk.2.2.2.2.2.2.1, ⟨hk.2.2.2.2.2.2.2.1, ⟨hk.2.2.2.2.2.2.2.2, ⟨hk.2.2.1, hk.2.2.2.1⟩⟩⟩⟩⟩⟩)⟩, ⟨by (try simp only [hl912002_90]); (try simp only [hl912003_90]); (try simp only [hl912004_90]); (with_reducible repeat (first | apply Kd.R_alloc | apply Kd.R_drewN | apply Kd.R_drew)); exact Kd.R_mono HO_930004.out (fun _ hk => ⟨hk.2.2.2.2.1, ⟨hk.2.2.2.2.2.1, ⟨hk.2.2.2.2.2.2.1, ⟨hk.2.2.2.2.2.2.2.1, ⟨hk.2.2.2.2.2.2.2.2, ⟨hk.2.2.1, hk.2.2.2.1⟩⟩⟩⟩⟩⟩)⟩, ⟨by (try simp only [hl912002_90]); (try simp only [hl912003_90]); (try simp only [hl912004_90]); (with_reducible repeat (first | apply Kd.R_alloc | apply Kd.R_drewN | apply Kd.R_drew)); exact Kd.R_mono HO973.out (fun _ hk => ⟨hk.2.1, ⟨hk.2.2.1, hk.2.2.2⟩⟩)⟩, ⟨by (try simp only [hl912002_90]); (try simp only [hl912003_90]); (try simp only [hl912004_90]); (with_reducible repeat (first | apply Kd.R_alloc | apply Kd.R_drewN | apply Kd.R_drew)); exact Kd.R_mono HO976.out (fun _ hk => ⟨hk.2.2.2.1, ⟨hk.2.2.2.2.1, ⟨hk.2.2.2.2.2.1, ⟨hk.2.2.2.2.2.2.1, ⟨hk.2.2.2.2.2.2.2.1, ⟨hk.2.2.2.2.2.2.2.2, hk.2.2.1⟩⟩⟩⟩⟩⟩)⟩, ⟨by (try simp only [hl912002_90]); (try simp only [hl912003_90]); (try simp only [hl912004_90]); (with_reducible repeat (first | apply Kd.R_alloc | apply Kd.R_drewN | apply Kd.R_drew)); exact Kd.R_mono HO979.out (fun _ hk => ⟨hk.2.2.2.1, ⟨hk.2.2.2.2.1, ⟨hk.2.2.2.2.2.1, ⟨hk.2.2.2.2.2.2.1, ⟨hk.2.2.2.2.2.2.2.1, ⟨hk.2.2.2.2.2.2.2.2, hk.2.2.1⟩⟩⟩⟩⟩⟩)⟩, ⟨by (try simp only [hl912002_90]); (try simp only [hl912003_90]); (try simp only [hl912004_90]); (with_reducible repeat (first | refine blk_drewN ?_ _ | refine blk_drew ?_ | refine blk_alloc ?_ _)); exact BK868.out⟩, ⟨by (try simp only [hl912002_90]); (try simp only [hl912003_90]); (try simp only [hl912004_90]); (with_reducible repeat (first | refine blk_drewN ?_ _ | refine blk_drew ?_ | refine blk_alloc ?_ _)); exact BK869.out⟩, ⟨by (try simp only [hl912002_90]); (try simp only [hl912003_90]); (try simp only [hl912004_90]); (with_reducible repeat (first | refine blk_drewN ?_ _ | refine blk_drew ?_ | refine blk_alloc ?_ _)); exact BK899.out⟩, ⟨by (try simp only [hl912002_90]); (try simp only [hl912003_90]); (try simp only [hl912004_90]); (with_reducible repeat (first | refine blk_drewN ?_ _ | refine blk_drew ?_ | refine blk_alloc ?_ _)); exact BK911.out⟩, ⟨by (try simp only [hl912002_90]); (try simp only [hl912003_90]); (try simp only [hl912004_90]); (with_reducible repeat (first | refine blk_drewN ?_ _ | refine blk_drew ?_ | refine blk_alloc ?_ _)); exact BK929.out⟩, ⟨by (try simp only [hl912002_90]); (try simp only [hl912003_90]); (try simp only [hl912004_90]); (with_reducible repeat (first | refine blk_drewN ?_ _ | refine blk_drew ?_ | refine blk_alloc ?_ _)); exact BK981.out⟩, ⟨bq⟩⟩
            ·replace c170 := Bool.eq_false_iff.mpr c170
             subst c170
             rw [if_neg (show ¬ (false = true) by decide)] at H
             try dsimp only at H
             have H' := am H
             clear H
             have hnb183 := NB981_868.out
             have hnc183 := NB868_981.out
             have hnb184 := NB981_869.out
             have hnc184 := NB869_981.out
             have hnb185 := NB981_899.out
             have hnc185 := NB899_981.out
             have hnb186 := NB981_911.out
             have hnc186 := NB911_981.out
             have hnb187 := NB981_929.out
             have hnc187 := NB929_981.out
             have ⟨hcz188_0, hcz188_1, hcz188_2, hcz188_3, hcz188_4, hfz188_0, hfz188_1, hfz188_2, hfz188_3, hfz188_4⟩ := bc5 BK981
             have hnb189 := NB899_868.out
             have hnc189 := NB868_899.out
             have hnb190 := NB899_869.out
             have hnc190 := NB869_899.out
             have hnb191 := NB899_911.out
             have hnc191 := NB911_899.out
             have hnb192 := NB899_929.out
             have hnc192 := NB929_899.out
             have ⟨hcz193_0, hcz193_1, hcz193_2, hcz193_3, hcz193_4, hfz193_0, hfz193_1, hfz193_2, hfz193_3, hfz193_4⟩ := bc5 BK899
             go_wp2_with (first | ((with_reducible refine gate_callee (f := 18) rfl ?_); refine goesQ (some 89) Try.func18 #[.agg #[.int .i64 t969, .int .i64 t970, .slice Ao163 t971.length co163, .slice Ao165 t974.length co165, .slice Ao167 t977.length co167], .agg #[.int .i64 t887, .int .i64 t888, .slice Ao33 t889.length co33, .slice Ao35 t892.length co35, .slice Ao37 t895.length co37]] ?_; (with_reducible refine (laws_eqSession.calls kj90 t969 t970 _ _ t971 _ _ t974 _ _ t977 t887 t888 _ _ t889 _ _ t892 _ _ t895 false _ ?s1 ?s2 ?s3 ?s4 ?s5 ?s6 ?s7 ?s8 ?s9 ?s10 ?s11 ?s12 A169.out).mono ?_); (case s1 => exact cf HO973 BK981); (case s2 => exact rq1 HO973); (case s3 => exact cf HO976 BK981); (case s4 => exact rq1 HO976); (case s5 => exact cf HO979 BK981); (case s6 => exact rq1 HO979); (case s7 => exact cf HO_900002 BK981); (case s8 => exact rq1 HO_900002); (case s9 => exact cf HO_900003 BK981); (case s10 => exact rq1 HO_900003); (case s11 => exact cf HO_900004 BK981); (case s12 => exact rq1 HO_900004); rintro e w194 ⟨rfl, hb⟩; refine ⟨_, rfl, ?_⟩; replace HO_900002 := am (Kd.R_below (fq HO_900002 BK981) hb); replace HO_900003 := am (Kd.R_below (fq HO_900003 BK981) hb); replace HO_900004 := am (Kd.R_below (fq HO_900004 BK981) hb); replace HO_912002 := am (Kd.R_below (fq HO_912002 BK981) hb); replace HO_912003 := am (Kd.R_below (fq HO_912003 BK981) hb); replace HO_912004 := am (Kd.R_below (fq HO_912004 BK981) hb); replace HO_930002 := am (Kd.R_below (fq HO_930002 BK981) hb); replace HO_930003 := am (Kd.R_below (fq HO_930003 BK981) hb); replace HO_930004 := am (Kd.R_below (fq HO_930004 BK981) hb); replace HO973 := am (Kd.R_below (fq HO973 BK981) hb); replace HO976 := am (Kd.R_below (fq HO976 BK981) hb); replace HO979 := am (Kd.R_below (fq HO979 BK981) hb); replace BK868 := am (blk_below (g := gb868) (o := .cells #[.int .i64 a0_0, .int .i64 a0_1, .slice A0_2 l0_2.length c0_2, .slice A0_3 l0_3.length c0_3, .slice A0_4 l0_4.length c0_4] 27 (0, 0)) (zp BK868) hb); replace BK869 := am (blk_below (g := gb869) (o := .cells #[.int .i64 a1_0, .int .i64 a1_1, .int .i64 a1_2, .int .i64 a1_3, .int .i64 a1_4] 56 (0, 0)) (zp BK869) hb); replace BK899 := am (blk_below (g := gb899) (o := .cells #[.int .i64 t887, .int .i64 t888, .slice Ao33 t889.length co33, .slice Ao35 t892.length co35, .slice Ao37 t895.length co37] 35 (0, 0)) (zp BK899) hb); replace BK911 := am (blk_below (g := gb911) (o := .cells #[.int .i64 t900, .int .i64 t901, .slice Ao47 t944.length co47, .slice Ao48 t945.length co48, .slice Ao49 t946.length co49] 35 (0, 0)) (zp BK911) hb); replace BK929 := am (blk_below (g := gb929) (o := .cells #[.int .i64 t917, .int .i64 t918, .slice Ao58 t919.length co58, .slice Ao60 t922.length co60, .slice Ao62 t925.length co62] 35 (0, 0)) (zp BK929) hb); replace BK981 := am (blk_below (g := gb981) (o := .cells #[.int .i64 t969, .int .i64 t970, .slice Ao163 t971.length co163, .slice Ao165 t974.length co165, .slice Ao167 t977.length co167] 35 (0, 0)) (zp BK981) hb); replace HB := sb hb; (try clear hb)))
             go_meet
             case rel => exact ⟨_, (true), sq, H', ⟨by have := HJ15.out; have := HJ90.out; first | omega | exact Nat.le_refl _⟩, ⟨by (try simp only [hl912002_90]); (try simp only [hl912003_90]); (try simp only [hl912004_90]); (with_reducible repeat (first | apply Kd.R_alloc | apply Kd.R_drewN | apply Kd.R_drew)); exact Kd.R_mono HO_900002.out (fun _ hk => ⟨hk.2.2.1, ⟨hk.2.2.2, hk.2.1⟩⟩)⟩, ⟨by (try simp only [hl912002_90]); (try simp only [hl912003_90]); (try simp only [hl912004_90]); (with_reducible repeat (first | apply Kd.R_alloc | apply Kd.R_drewN | apply Kd.R_drew)); exact Kd.R_mono HO_900003.out (fun _ hk => ⟨hk.2.2.2.2.1, ⟨hk.2.2.2.2.2.1, ⟨hk.2.2.2.2.2.2.1, ⟨hk.2.2.2.2.2.2.2.1, ⟨hk.2.2.2.2.2.2.2.2, ⟨hk.2.2.1, hk.2.2.2.1⟩⟩⟩⟩⟩⟩)⟩, ⟨by (try simp only [hl912002_90]); (try simp only [hl912003_90]); (try simp only [hl912004_90]); (with_reducible repeat (first | apply Kd.R_alloc | apply Kd.R_drewN | apply Kd.R_drew)); exact Kd.R_mono HO_900004.out (fun _ hk => ⟨hk.2.2.2.2.1, ⟨hk.2.2.2.2.2.1, ⟨hk.2.2.2.2.2.2.1, ⟨hk.2.2.2.2.2.2.2.1, ⟨hk.2.2.2.2.2.2.2.2, ⟨hk.2.2.1, hk.2.2.2.1⟩⟩⟩⟩⟩⟩)⟩, ⟨by (try simp only [hl912002_90]); (try simp only [hl912003_90]); (try simp only [hl912004_90]); (with_reducible repeat (first | apply Kd.R_alloc | apply Kd.R_drewN | apply Kd.R_drew)); exact Kd.R_mono HO_912002.out (fun _ hk => ⟨hk.2.2.1, ⟨hk.2.2.2, hk.2.1⟩⟩)⟩, ⟨by (try simp only [hl912002_90]); (try simp only [hl912003_90]); (try simp only [hl912004_90]); (with_reducible repeat (first | apply Kd.R_alloc | apply Kd.R_drewN | apply Kd.R_drew)); exact Kd.R_mono HO_912003.out (fun _ hk => ⟨hk.2.2.2.2.1, ⟨hk.2.2.2.2.2.1, ⟨hk.2.2.2.2.2.2.1, ⟨hk.2.2.2.2.2.2.2.1, ⟨hk.2.2.2.2.2.2.2.2, ⟨hk.2.2.1, hk.2.2.2.1⟩⟩⟩⟩⟩⟩)⟩, ⟨by (try simp only [hl912002_90]); (try simp only [hl912003_90]); (try simp only [hl912004_90]); (with_reducible repeat (first | apply Kd.R_alloc | apply Kd.R_drewN | apply Kd.R_drew)); exact Kd.R_mono HO_912004.out (fun _ hk => ⟨hk.2.2.2.2.1, ⟨hk.2.2.2.2.2.1, ⟨hk.2.2.2.2.2.2.1, ⟨hk.2.2.2.2.2.2.2.1, ⟨hk.2.2.2.2.2.2.2.2, ⟨hk.2.2.1, hk.2.2.2.1⟩⟩⟩⟩⟩⟩)⟩, ⟨by (try simp only [hl912002_90]); (try simp only [hl912003_90]); (try simp only [hl912004_90]); (with_reducible repeat (first | apply Kd.R_alloc | apply Kd.R_drewN | apply Kd.R_drew)); exact Kd.R_mono HO_930002.out (fun _ hk => ⟨hk.2.2.1, ⟨hk.2.2.2, hk.2.1⟩⟩)⟩, ⟨by (try simp only [hl912002_90]); (try simp only [hl912003_90]); (try simp only [hl912004_90]); (with_reducible repeat (first | apply Kd.R_alloc | apply Kd.R_drewN | apply Kd.R_drew)); exact Kd.R_mono HO_930003.out (fun _ hk => ⟨hk.2.2.2.2.1, ⟨hk.2.2.2.2.2.1, ⟨hk.2.2.2.2.2.2.1, ⟨hk.2.2.2.2.2.2.2.1, ⟨hk.2.2.2.2.2.2.2.2, ⟨hk.2.2.1, hk.2.2.2.1⟩⟩⟩⟩⟩⟩)⟩, ⟨by (try simp only [hl912002_90]); (try simp only [hl912003_90]); (try simp only [hl912004_90]); (with_reducible repeat (first | apply Kd.R_alloc | apply Kd.R_drewN | apply Kd.R_drew)); exact Kd.R_mono HO_930004.out (fun _ hk => ⟨hk.2.2.2.2.1, ⟨hk.2.2.2.2.2.1, ⟨hk.2.2.2.2.2.2.1, ⟨hk.2.2.2.2.2.2.2.1, ⟨hk.2.2.2.2.2.2.2.2, ⟨hk.2.2.1, hk.2.2.2.1⟩⟩⟩⟩⟩⟩)⟩, ⟨by (try simp only [hl912002_90]); (try simp only [hl912003_90]); (try simp only [hl912004_90]); (with_reducible repeat (first | apply Kd.R_alloc | apply Kd.R_drewN | apply Kd.R_drew)); exact Kd.R_mono HO973.out (fun _ hk => ⟨hk.2.1, ⟨hk.2.2.1, hk.2.2.2⟩⟩)⟩, ⟨by (try simp only [hl912002_90]); (try simp only [hl912003_90]); (try simp only [hl912004_90]); (with_reducible repeat (first | apply Kd.R_alloc | apply Kd.R_drewN | apply Kd.R_drew)); exact Kd.R_mono HO976.out (fun _ hk => ⟨hk.2.2.2.1, ⟨hk.2.2.2.2.1, ⟨hk.2.2.2.2.2.1, ⟨hk.2.2.2.2.2.2.1, ⟨hk.2.2.2.2.2.2.2.1, ⟨hk.2.2.2.2.2.2.2.2, hk.2.2.1⟩⟩⟩⟩⟩⟩)⟩, ⟨by (try simp only [hl912002_90]); (try simp only [hl912003_90]); (try simp only [hl912004_90]); (with_reducible repeat (first | apply Kd.R_alloc | apply Kd.R_drewN | apply Kd.R_drew)); exact Kd.R_mono HO979.out (fun _ hk => ⟨hk.2.2.2.1, ⟨hk.2.2.2.2.1, ⟨hk.2.2.2.2.2.1, ⟨hk.2.2.2.2.2.2.1, ⟨hk.2.2.2.2.2.2.2.1, ⟨hk.2.2.2.2.2.2.2.2, hk.2.2.1⟩⟩⟩⟩⟩⟩)⟩, ⟨by (try simp only [hl912002_90]); (try simp only [hl912003_90]); (try simp only [hl912004_90]); (with_reducible repeat (first | refine blk_drewN ?_ _ | refine blk_drew ?_ | refine blk_alloc ?_ _)); exact BK868.out⟩, ⟨by (try simp only [hl912002_90]); (try simp only [hl912003_90]); (try simp only [hl912004_90]); (with_reducible repeat (first | refine blk_drewN ?_ _ | refine blk_drew ?_ | refine blk_alloc ?_ _)); exact BK869.out⟩, ⟨by (try simp only [hl912002_90]); (try simp only [hl912003_90]); (try simp only [hl912004_90]); (with_reducible repeat (first | refine blk_drewN ?_ _ | refine blk_drew ?_ | refine blk_alloc ?_ _)); exact BK899.out⟩, ⟨by (try simp only [hl912002_90]); (try simp only [hl912003_90]); (try simp only [hl912004_90]); (with_reducible repeat (first | refine blk_drewN ?_ _ | refine blk_drew ?_ | refine blk_alloc ?_ _)); exact BK911.out⟩, ⟨by (try simp only [hl912002_90]); (try simp only [hl912003_90]); (try simp only [hl912004_90]); (with_reducible repeat (first | refine blk_drewN ?_ _ | refine blk_drew ?_ | refine blk_alloc ?_ _)); exact BK929.out⟩, ⟨by (try simp only [hl912002_90]); (try simp only [hl912003_90]); (try simp only [hl912004_90]); (with_reducible repeat (first | refine blk_drewN ?_ _ | refine blk_drew ?_ | refine blk_alloc ?_ _)); exact BK981.out⟩, ⟨bq⟩⟩
           case rest =>
            clear HC143
            try clear c170
            try clear hcz176_0 hcz176_1 hcz176_2 hcz176_3 hcz176_4 hfz176_0 hfz176_1 hfz176_2 hfz176_3 hfz176_4
            try clear hcz181_0 hcz181_1 hcz181_2 hcz181_3 hcz181_4 hfz181_0 hfz181_1 hfz181_2 hfz181_3 hfz181_4
            try clear hcz188_0 hcz188_1 hcz188_2 hcz188_3 hcz188_4 hfz188_0 hfz188_1 hfz188_2 hfz188_3 hfz188_4
            try clear hcz193_0 hcz193_1 hcz193_2 hcz193_3 hcz193_4 hfz193_0 hfz193_1 hfz193_2 hfz193_3 hfz193_4
            obtain ⟨kq, x95_142, rfl, HA, HJ142, HO_900002, HO_900003, HO_900004, HO_912002, HO_912003, HO_912004, HO_930002, HO_930003, HO_930004, HO_982002, HO_982003, HO_982004, BK868, BK869, BK899, BK911, BK929, BK981, HB⟩ := hcut
            have hl930002_142 := (Kd.R_reads' HO_930002.out).1
            rw [hl930002_142] at HO_930002
            (try simp only [hl930002_142])
            (try simp only [hl930002_142] at BK868)
            (try simp only [hl930002_142] at BK869)
            (try simp only [hl930002_142] at BK899)
            (try simp only [hl930002_142] at BK911)
            (try simp only [hl930002_142] at BK929)
            (try simp only [hl930002_142] at BK981)
            (try simp only [hl930002_142] at HO_900002)
            (try simp only [hl930002_142] at HO_900003)
            (try simp only [hl930002_142] at HO_900004)
            (try simp only [hl930002_142] at HO_912002)
            (try simp only [hl930002_142] at HO_912003)
            (try simp only [hl930002_142] at HO_912004)
            (try simp only [hl930002_142] at HO_930003)
            (try simp only [hl930002_142] at HO_930004)
            (try simp only [hl930002_142] at HO_982002)
            (try simp only [hl930002_142] at HO_982003)
            (try simp only [hl930002_142] at HO_982004)
            have hl930003_142 := (Kd.R_reads' HO_930003.out).1
            rw [hl930003_142] at HO_930003
            (try simp only [hl930003_142])
            (try simp only [hl930003_142] at BK868)
            (try simp only [hl930003_142] at BK869)
            (try simp only [hl930003_142] at BK899)
            (try simp only [hl930003_142] at BK911)
            (try simp only [hl930003_142] at BK929)
            (try simp only [hl930003_142] at BK981)
            (try simp only [hl930003_142] at HO_900002)
            (try simp only [hl930003_142] at HO_900003)
            (try simp only [hl930003_142] at HO_900004)
            (try simp only [hl930003_142] at HO_912002)
            (try simp only [hl930003_142] at HO_912003)
            (try simp only [hl930003_142] at HO_912004)
            (try simp only [hl930003_142] at HO_930002)
            (try simp only [hl930003_142] at HO_930004)
            (try simp only [hl930003_142] at HO_982002)
            (try simp only [hl930003_142] at HO_982003)
            (try simp only [hl930003_142] at HO_982004)
            have hl930004_142 := (Kd.R_reads' HO_930004.out).1
            rw [hl930004_142] at HO_930004
            (try simp only [hl930004_142])
            (try simp only [hl930004_142] at BK868)
            (try simp only [hl930004_142] at BK869)
            (try simp only [hl930004_142] at BK899)
            (try simp only [hl930004_142] at BK911)
            (try simp only [hl930004_142] at BK929)
            (try simp only [hl930004_142] at BK981)
            (try simp only [hl930004_142] at HO_900002)
            (try simp only [hl930004_142] at HO_900003)
            (try simp only [hl930004_142] at HO_900004)
            (try simp only [hl930004_142] at HO_912002)
            (try simp only [hl930004_142] at HO_912003)
            (try simp only [hl930004_142] at HO_912004)
            (try simp only [hl930004_142] at HO_930002)
            (try simp only [hl930004_142] at HO_930003)
            (try simp only [hl930004_142] at HO_982002)
            (try simp only [hl930004_142] at HO_982003)
            (try simp only [hl930004_142] at HO_982004)
            cases kq with
            | zero => exact absurd HA.out (by simp [laws_FnExactActOnce.j2])
            | succ kj142 =>
             have H := HA.out
             clear HA
             simp only [laws_FnExactActOnce.j2] at H
             by_cases c195 : x95_142 = true
             ·subst c195
              rw [if_pos rfl] at H
              try dsimp only at H
              obtain rfl := Option.some.inj H
              go_wp2
              go_ret
              exact ⟨eq_, bq⟩
             ·replace c195 := Bool.eq_false_iff.mpr c195
              subst c195
              rw [if_neg (show ¬ (false = true) by decide)] at H
              try dsimp only at H
              obtain ⟨t983, A196, H⟩ := bindq H
              try dsimp only at H
              by_cases c197 : t983 < 0
              ·rw [if_pos c197] at H
               have c197b0 : decide (t983 < 0) = true := decide_eq_true c197
               clear c197
               obtain rfl := Option.some.inj H
               have hnb198 := NB929_868.out
               have hnc198 := NB868_929.out
               have hnb199 := NB929_869.out
               have hnc199 := NB869_929.out
               have hnb200 := NB929_899.out
               have hnc200 := NB899_929.out
               have hnb201 := NB929_911.out
               have hnc201 := NB911_929.out
               have hnb202 := NB929_981.out
               have hnc202 := NB981_929.out
               have ⟨hcz203_0, hcz203_1, hcz203_2, hcz203_3, hcz203_4, hfz203_0, hfz203_1, hfz203_2, hfz203_3, hfz203_4⟩ := bc5 BK929
               go_wp2_with (first | ((with_reducible refine gate_callee (f := 26) rfl ?_); refine goesQ (some 98) Try.func26 #[.agg #[.int .i64 t917, .int .i64 t918, .slice Ao58 t949.length co58, .slice Ao60 t950.length co60, .slice Ao62 t951.length co62], .int .i64 1] ?_; (with_reducible refine (laws_heldSession.calls kj142 t917 t918 _ _ t949 _ _ t950 _ _ t951 1 t983 _ ?s1 ?s2 ?s3 ?s4 ?s5 ?s6 A196.out).mono ?_); (case s1 => exact cr HO_930002); (case s2 => exact rq1 HO_930002); (case s3 => exact cr HO_930003); (case s4 => exact rq1 HO_930003); (case s5 => exact cr HO_930004); (case s6 => exact rq1 HO_930004); rintro e w204 ⟨rfl, hb⟩; refine ⟨_, rfl, ?_⟩; replace HO_900002 := rb HO_900002 hb; replace HO_900003 := rb HO_900003 hb; replace HO_900004 := rb HO_900004 hb; replace HO_912002 := rb HO_912002 hb; replace HO_912003 := rb HO_912003 hb; replace HO_912004 := rb HO_912004 hb; replace HO_930002 := rb HO_930002 hb; replace HO_930003 := rb HO_930003 hb; replace HO_930004 := rb HO_930004 hb; replace BK868 := zb BK868 hb; replace BK869 := zb BK869 hb; replace BK899 := zb BK899 hb; replace BK911 := zb BK911 hb; replace BK929 := zb BK929 hb; replace BK981 := zb BK981 hb; replace HB := sb hb; (try clear hb)))
               go_ret
               exact ⟨eq_, bq⟩
              ·rw [if_neg c197] at H
               have c197b0 : decide (t983 < 0) = false := decide_eq_false c197
               clear c197
               by_cases c205 : t983 = t948
               ·rw [if_pos c205] at H
                have c205b0 : (t983 == t948) = true := beq_iff_eq.mpr c205
                have c205b1 : (t983 != t948) = false := bne_eq_false_iff_eq.mpr c205
                clear c205
                obtain rfl := Option.some.inj H
                have hnb206 := NB929_868.out
                have hnc206 := NB868_929.out
                have hnb207 := NB929_869.out
                have hnc207 := NB869_929.out
                have hnb208 := NB929_899.out
                have hnc208 := NB899_929.out
                have hnb209 := NB929_911.out
                have hnc209 := NB911_929.out
                have hnb210 := NB929_981.out
                have hnc210 := NB981_929.out
                have ⟨hcz211_0, hcz211_1, hcz211_2, hcz211_3, hcz211_4, hfz211_0, hfz211_1, hfz211_2, hfz211_3, hfz211_4⟩ := bc5 BK929
                go_wp2_with (first | ((with_reducible refine gate_callee (f := 26) rfl ?_); refine goesQ (some 98) Try.func26 #[.agg #[.int .i64 t917, .int .i64 t918, .slice Ao58 t949.length co58, .slice Ao60 t950.length co60, .slice Ao62 t951.length co62], .int .i64 1] ?_; (with_reducible refine (laws_heldSession.calls kj142 t917 t918 _ _ t949 _ _ t950 _ _ t951 1 t983 _ ?s1 ?s2 ?s3 ?s4 ?s5 ?s6 A196.out).mono ?_); (case s1 => exact cr HO_930002); (case s2 => exact rq1 HO_930002); (case s3 => exact cr HO_930003); (case s4 => exact rq1 HO_930003); (case s5 => exact cr HO_930004); (case s6 => exact rq1 HO_930004); rintro e w212 ⟨rfl, hb⟩; refine ⟨_, rfl, ?_⟩; replace HO_900002 := rb HO_900002 hb; replace HO_900003 := rb HO_900003 hb; replace HO_900004 := rb HO_900004 hb; replace HO_912002 := rb HO_912002 hb; replace HO_912003 := rb HO_912003 hb; replace HO_912004 := rb HO_912004 hb; replace HO_930002 := rb HO_930002 hb; replace HO_930003 := rb HO_930003 hb; replace HO_930004 := rb HO_930004 hb; replace BK868 := zb BK868 hb; replace BK869 := zb BK869 hb; replace BK899 := zb BK899 hb; replace BK911 := zb BK911 hb; replace BK929 := zb BK929 hb; replace BK981 := zb BK981 hb; replace HB := sb hb; (try clear hb)))
                go_ret
                exact ⟨eq_, bq⟩
               ·rw [if_neg c205] at H
                have c205b0 : (t983 == t948) = false := beq_eq_false_iff_ne.mpr c205
                have c205b1 : (t983 != t948) = true := bne_iff_ne.mpr c205
                obtain rfl := Option.some.inj H
                have hnb213 := NB929_868.out
                have hnc213 := NB868_929.out
                have hnb214 := NB929_869.out
                have hnc214 := NB869_929.out
                have hnb215 := NB929_899.out
                have hnc215 := NB899_929.out
                have hnb216 := NB929_911.out
                have hnc216 := NB911_929.out
                have hnb217 := NB929_981.out
                have hnc217 := NB981_929.out
                have ⟨hcz218_0, hcz218_1, hcz218_2, hcz218_3, hcz218_4, hfz218_0, hfz218_1, hfz218_2, hfz218_3, hfz218_4⟩ := bc5 BK929
                go_wp2_with (first | ((with_reducible refine gate_callee (f := 26) rfl ?_); refine goesQ (some 98) Try.func26 #[.agg #[.int .i64 t917, .int .i64 t918, .slice Ao58 t949.length co58, .slice Ao60 t950.length co60, .slice Ao62 t951.length co62], .int .i64 1] ?_; (with_reducible refine (laws_heldSession.calls kj142 t917 t918 _ _ t949 _ _ t950 _ _ t951 1 t983 _ ?s1 ?s2 ?s3 ?s4 ?s5 ?s6 A196.out).mono ?_); (case s1 => exact cr HO_930002); (case s2 => exact rq1 HO_930002); (case s3 => exact cr HO_930003); (case s4 => exact rq1 HO_930003); (case s5 => exact cr HO_930004); (case s6 => exact rq1 HO_930004); rintro e w219 ⟨rfl, hb⟩; refine ⟨_, rfl, ?_⟩; replace HO_900002 := rb HO_900002 hb; replace HO_900003 := rb HO_900003 hb; replace HO_900004 := rb HO_900004 hb; replace HO_912002 := rb HO_912002 hb; replace HO_912003 := rb HO_912003 hb; replace HO_912004 := rb HO_912004 hb; replace HO_930002 := rb HO_930002 hb; replace HO_930003 := rb HO_930003 hb; replace HO_930004 := rb HO_930004 hb; replace BK868 := zb BK868 hb; replace BK869 := zb BK869 hb; replace BK899 := zb BK899 hb; replace BK911 := zb BK911 hb; replace BK929 := zb BK929 hb; replace BK981 := zb BK981 hb; replace HB := sb hb; (try clear hb)))
                go_ret
                exact ⟨eq_, bq⟩
          ·rw [if_neg c139] at H
           have c139b0 : (t952 == t948) = false := beq_eq_false_iff_ne.mpr c139
           have c139b1 : (t952 != t948) = true := bne_iff_ne.mpr c139
           obtain rfl := Option.some.inj H
           have hnb220 := NB929_868.out
           have hnc220 := NB868_929.out
           have hnb221 := NB929_869.out
           have hnc221 := NB869_929.out
           have hnb222 := NB929_899.out
           have hnc222 := NB899_929.out
           have hnb223 := NB929_911.out
           have hnc223 := NB911_929.out
           have ⟨hcz224_0, hcz224_1, hcz224_2, hcz224_3, hcz224_4, hfz224_0, hfz224_1, hfz224_2, hfz224_3, hfz224_4⟩ := bc5 BK929
           go_wp2_with (first | ((with_reducible refine gate_callee (f := 25) rfl ?_); refine goesQ (some 70) Try.func25 #[.agg #[.int .i64 t917, .int .i64 t918, .slice Ao58 t919.length co58, .slice Ao60 t922.length co60, .slice Ao62 t925.length co62], .int .i64 1] ?_; (with_reducible refine (laws_markSession.calls kj90 t917 t918 (fun k_ => some k_ = (.slice Ao58 t919.length co58 : Value).ownBlock) (.slice Ao58 t919.length co58) t919 (fun k_ => some k_ = (.slice Ao60 t922.length co60 : Value).ownBlock) (.slice Ao60 t922.length co60) t922 (fun k_ => some k_ = (.slice Ao62 t925.length co62 : Value).ownBlock) (.slice Ao62 t925.length co62) t925 1 t948 t949 t950 t951 w _ ?s1 ?s2 ?s3 ?s4 ?s5 ?s6 A128.out).mono ?_); (case s1 => repeat (first | (with_reducible first | exact HB.out | apply below_alloc | apply pw_below_drewN | apply below_drew1 | refine below_set ?_ GE868.out | refine below_set ?_ GE869.out | refine below_set ?_ GE899.out | refine below_set ?_ GE911.out | refine below_set ?_ GE929.out) | exact HB.out)); (case s2 => exact Kd.R_tight rfl HO_930002.out); (case s3 => exact Kd.R_tight rfl HO_930003.out); (case s4 => exact fun k_ e_ => (HO_930003.out.1 k_ e_.symm).2.2.2.2); (case s5 => exact Kd.R_tight rfl HO_930004.out); (case s6 => exact fun k_ e_ => (HO_930004.out.1 k_ e_.symm).2.2.2.2); rintro e w225 ⟨rfl, hy0, hy1, hy2, hb, hkp⟩; refine ⟨_, rfl, ?_⟩; replace HO_900002 := am (Kd.R_mono (ok' := fun k_ => some k_ ≠ (.slice Ao47 t944.length co47 : Value).ownBlock ∧ some k_ ≠ (.slice Ao58 t919.length co58 : Value).ownBlock) (Kd.R_keptB ((Kd.R_apart' (Kd.R_apart' HO_900002.out (Kd.R_typed HO_930003.out) (by decide)) (Kd.R_typed HO_930004.out) (by decide))) hkp (fun k_ hk_ hs_ => Or.elim hs_ (fun e_ => (hk_.1.1.2) e_) (fun e_ => Or.elim e_ (fun e_ => (hk_.1.2) e_) (fun e_ => (hk_.2) e_)))) (fun k_ hk_ => ⟨hk_.1.1.1.1, hk_.1.1.1.2⟩)); replace HO_900003 := am (Kd.R_mono (ok' := fun k_ => some k_ ≠ (.slice Ao37 t895.length co37 : Value).ownBlock ∧ some k_ ≠ (.slice Ao48 t945.length co48 : Value).ownBlock ∧ some k_ ≠ (.slice Ao49 t946.length co49 : Value).ownBlock ∧ some k_ ≠ (.slice Ao60 t922.length co60 : Value).ownBlock ∧ some k_ ≠ (.slice Ao62 t925.length co62 : Value).ownBlock) (Kd.R_keptB ((Kd.R_apart' HO_900003.out (Kd.R_typed HO_930002.out) (by decide))) hkp (fun k_ hk_ hs_ => Or.elim hs_ (fun e_ => (hk_.2) e_) (fun e_ => Or.elim e_ (fun e_ => (hk_.1.2.2.2.1) e_) (fun e_ => (hk_.1.2.2.2.2) e_)))) (fun k_ hk_ => ⟨hk_.1.1.1, hk_.1.1.2.1, hk_.1.1.2.2.1, hk_.1.1.2.2.2.1, hk_.1.1.2.2.2.2⟩)); replace HO_900004 := am (Kd.R_mono (ok' := fun k_ => some k_ ≠ (.slice Ao35 t892.length co35 : Value).ownBlock ∧ some k_ ≠ (.slice Ao48 t945.length co48 : Value).ownBlock ∧ some k_ ≠ (.slice Ao49 t946.length co49 : Value).ownBlock ∧ some k_ ≠ (.slice Ao60 t922.length co60 : Value).ownBlock ∧ some k_ ≠ (.slice Ao62 t925.length co62 : Value).ownBlock) (Kd.R_keptB ((Kd.R_apart' HO_900004.out (Kd.R_typed HO_930002.out) (by decide))) hkp (fun k_ hk_ hs_ => Or.elim hs_ (fun e_ => (hk_.2) e_) (fun e_ => Or.elim e_ (fun e_ => (hk_.1.2.2.2.1) e_) (fun e_ => (hk_.1.2.2.2.2) e_)))) (fun k_ hk_ => ⟨hk_.1.1.1, hk_.1.1.2.1, hk_.1.1.2.2.1, hk_.1.1.2.2.2.1, hk_.1.1.2.2.2.2⟩)); replace HO_912002 := am (Kd.R_mono (ok' := fun k_ => some k_ ≠ (.slice Ao33 t889.length co33 : Value).ownBlock ∧ some k_ ≠ (.slice Ao58 t919.length co58 : Value).ownBlock) (Kd.R_keptB ((Kd.R_apart' (Kd.R_apart' HO_912002.out (Kd.R_typed HO_930003.out) (by decide)) (Kd.R_typed HO_930004.out) (by decide))) hkp (fun k_ hk_ hs_ => Or.elim hs_ (fun e_ => (hk_.1.1.2) e_) (fun e_ => Or.elim e_ (fun e_ => (hk_.1.2) e_) (fun e_ => (hk_.2) e_)))) (fun k_ hk_ => ⟨hk_.1.1.1.1, hk_.1.1.1.2⟩)); replace HO_912003 := am (Kd.R_mono (ok' := fun k_ => some k_ ≠ (.slice Ao35 t892.length co35 : Value).ownBlock ∧ some k_ ≠ (.slice Ao37 t895.length co37 : Value).ownBlock ∧ some k_ ≠ (.slice Ao49 t946.length co49 : Value).ownBlock ∧ some k_ ≠ (.slice Ao60 t922.length co60 : Value).ownBlock ∧ some k_ ≠ (.slice Ao62 t925.length co62 : Value).ownBlock) (Kd.R_keptB ((Kd.R_apart' HO_912003.out (Kd.R_typed HO_930002.out) (by decide))) hkp (fun k_ hk_ hs_ => Or.elim hs_ (fun e_ => (hk_.2) e_) (fun e_ => Or.elim e_ (fun e_ => (hk_.1.2.2.2.1) e_) (fun e_ => (hk_.1.2.2.2.2) e_)))) (fun k_ hk_ => ⟨hk_.1.1.1, hk_.1.1.2.1, hk_.1.1.2.2.1, hk_.1.1.2.2.2.1, hk_.1.1.2.2.2.2⟩)); replace HO_912004 := am (Kd.R_mono (ok' := fun k_ => some k_ ≠ (.slice Ao35 t892.length co35 : Value).ownBlock ∧ some k_ ≠ (.slice Ao37 t895.length co37 : Value).ownBlock ∧ some k_ ≠ (.slice Ao48 t945.length co48 : Value).ownBlock ∧ some k_ ≠ (.slice Ao60 t922.length co60 : Value).ownBlock ∧ some k_ ≠ (.slice Ao62 t925.length co62 : Value).ownBlock) (Kd.R_keptB ((Kd.R_apart' HO_912004.out (Kd.R_typed HO_930002.out) (by decide))) hkp (fun k_ hk_ hs_ => Or.elim hs_ (fun e_ => (hk_.2) e_) (fun e_ => Or.elim e_ (fun e_ => (hk_.1.2.2.2.1) e_) (fun e_ => (hk_.1.2.2.2.2) e_)))) (fun k_ hk_ => ⟨hk_.1.1.1, hk_.1.1.2.1, hk_.1.1.2.2.1, hk_.1.1.2.2.2.1, hk_.1.1.2.2.2.2⟩)); replace BK868 := am (blk_kept (zq BK868) hkp (fun hs_ => Or.elim hs_ (fun e_ => (fun e_ => (Kd.R_ne HO_930002.out BK868.out (by decide)) e_) e_) (fun e_ => Or.elim e_ (fun e_ => (fun e_ => (Kd.R_ne HO_930003.out BK868.out (by decide)) e_) e_) (fun e_ => (fun e_ => (Kd.R_ne HO_930004.out BK868.out (by decide)) e_) e_)))); replace BK869 := am (blk_kept (zq BK869) hkp (fun hs_ => Or.elim hs_ (fun e_ => (fun e_ => (Kd.R_ne HO_930002.out BK869.out (by decide)) e_) e_) (fun e_ => Or.elim e_ (fun e_ => (fun e_ => (Kd.R_ne HO_930003.out BK869.out (by decide)) e_) e_) (fun e_ => (fun e_ => (Kd.R_ne HO_930004.out BK869.out (by decide)) e_) e_)))); replace BK899 := am (blk_kept (zq BK899) hkp (fun hs_ => Or.elim hs_ (fun e_ => (fun e_ => (Kd.R_ne HO_930002.out BK899.out (by decide)) e_) e_) (fun e_ => Or.elim e_ (fun e_ => (fun e_ => (Kd.R_ne HO_930003.out BK899.out (by decide)) e_) e_) (fun e_ => (fun e_ => (Kd.R_ne HO_930004.out BK899.out (by decide)) e_) e_)))); replace BK911 := am (blk_kept (zq BK911) hkp (fun hs_ => Or.elim hs_ (fun e_ => (fun e_ => (Kd.R_ne HO_930002.out BK911.out (by decide)) e_) e_) (fun e_ => Or.elim e_ (fun e_ => (fun e_ => (Kd.R_ne HO_930003.out BK911.out (by decide)) e_) e_) (fun e_ => (fun e_ => (Kd.R_ne HO_930004.out BK911.out (by decide)) e_) e_)))); replace BK929 := am (blk_kept (zq BK929) hkp (fun hs_ => Or.elim hs_ (fun e_ => (fun e_ => (Kd.R_ne HO_930002.out BK929.out (by decide)) e_) e_) (fun e_ => Or.elim e_ (fun e_ => (fun e_ => (Kd.R_ne HO_930003.out BK929.out (by decide)) e_) e_) (fun e_ => (fun e_ => (Kd.R_ne HO_930004.out BK929.out (by decide)) e_) e_)))); replace HO_930002 := am (Kd.R_reok rfl hy0 (fun k_ e_ => HO_930002.out.1 k_ e_)); replace HO_930003 := am (Kd.R_reok rfl hy1 (fun k_ e_ => HO_930003.out.1 k_ e_)); replace HO_930004 := am (Kd.R_reok rfl hy2 (fun k_ e_ => HO_930004.out.1 k_ e_)); replace HB := am (hb); (try clear hb hkp hy0 hy1 hy2); have ⟨hcz226_0, hcz226_1, hcz226_2, hcz226_3, hcz226_4, hfz226_0, hfz226_1, hfz226_2, hfz226_3, hfz226_4⟩ := bc5 BK929) | ((with_reducible refine gate_callee (f := 26) rfl ?_); refine goesL_ (some 73) rfl rfl Try.func26 (by kernel_rfl) rfl #[.agg #[.int .i64 t917, .int .i64 t918, .slice Ao58 t949.length co58, .slice Ao60 t950.length co60, .slice Ao62 t951.length co62], .int .i64 1] rfl (by (try simp only [List.map_toArray, List.map_cons, List.map_nil]); first | done | (rw [show t949.length = t919.length from (Kd.R_reads' HO_930002.out).1.symm, show t950.length = t922.length from (Kd.R_reads' HO_930003.out).1.symm, show t951.length = t925.length from (Kd.R_reads' HO_930004.out).1.symm] <;> rfl) | rfl | (simp only [List.length_drop, List.length_take]; rfl)) ?_; (with_reducible refine (laws_heldSession.calls kj90 t917 t918 _ _ t949 _ _ t950 _ _ t951 1 t952 _ ?s1 ?s2 ?s3 ?s4 ?s5 ?s6 A129.out).mono ?_); (case s1 => exact cr HO_930002); (case s2 => rw [show t949.length = t919.length from (Kd.R_reads' HO_930002.out).1.symm]; exact rq1 HO_930002); (case s3 => exact cr HO_930003); (case s4 => rw [show t950.length = t922.length from (Kd.R_reads' HO_930003.out).1.symm]; exact rq1 HO_930003); (case s5 => exact cr HO_930004); (case s6 => rw [show t951.length = t925.length from (Kd.R_reads' HO_930004.out).1.symm]; exact rq1 HO_930004); rintro e w227 ⟨rfl, hb⟩; refine ⟨_, rfl, ?_⟩; replace HO_900002 := rb HO_900002 hb; replace HO_900003 := rb HO_900003 hb; replace HO_900004 := rb HO_900004 hb; replace HO_912002 := rb HO_912002 hb; replace HO_912003 := rb HO_912003 hb; replace HO_912004 := rb HO_912004 hb; replace HO_930002 := rb HO_930002 hb; replace HO_930003 := rb HO_930003 hb; replace HO_930004 := rb HO_930004 hb; replace BK868 := zb BK868 hb; replace BK869 := zb BK869 hb; replace BK899 := zb BK899 hb; replace BK911 := zb BK911 hb; replace BK929 := zb BK929 hb; replace HB := sb hb; (try clear hb)))
           go_ret
           exact ⟨eq_, bq⟩
     ·replace c89 := Bool.eq_false_iff.mpr c89
      subst c89
      rw [if_neg (show ¬ (false = true) by decide)] at H
      try dsimp only at H
      obtain rfl := Option.some.inj H
      try go_wp2
      replace HO_900002 := am (Kd.R_drew HO_900002.out)
      replace HO_900003 := am (Kd.R_drew HO_900003.out)
      replace HO_900004 := am (Kd.R_drew HO_900004.out)
      replace HO_912002 := am (Kd.R_drew HO_912002.out)
      replace HO_912003 := am (Kd.R_drew HO_912003.out)
      replace HO_912004 := am (Kd.R_drew HO_912004.out)
      replace HO_930002 := am (Kd.R_drew HO_930002.out)
      replace HO_930003 := am (Kd.R_drew HO_930003.out)
      replace HO_930004 := am (Kd.R_drew HO_930004.out)
      replace BK868 := am (blk_drew BK868.out)
      replace BK869 := am (blk_drew BK869.out)
      replace BK899 := am (blk_drew BK899.out)
      replace BK911 := am (blk_drew BK911.out)
      replace BK929 := am (blk_drew BK929.out)
      replace HB := am (below_drew1 HB.out)
      refine start_ (n := 5) (S := fun w' => w'.cell? ⟨gb911, 0, none⟩ = some (.int .i64 t900) ∧ w'.cell? ⟨gb911, 1, none⟩ = some (.int .i64 t901) ∧ w'.cell? ⟨gb911, 2, none⟩ = some (.slice Ao47 t902.length co47) ∧ w'.cell? ⟨gb911, 3, none⟩ = some (.slice Ao48 t905.length co48) ∧ w'.cell? ⟨gb911, 4, none⟩ = some (.slice Ao49 t908.length co49) ∧ w'.cell? ⟨gb868, 0, none⟩ = some (.int .i64 a0_0) ∧ w'.cell? ⟨gb868, 1, none⟩ = some (.int .i64 a0_1) ∧ w'.cell? ⟨gb868, 2, none⟩ = some (.slice A0_2 l0_2.length c0_2) ∧ w'.cell? ⟨gb868, 3, none⟩ = some (.slice A0_3 l0_3.length c0_3) ∧ w'.cell? ⟨gb868, 4, none⟩ = some (.slice A0_4 l0_4.length c0_4)) (ds := []) #[false, false, false, false, false] (by kernel_rfl) rfl rfl cl (fun hHeld => ?_)
      generalize wc.drew = w228 at HO_900002 HO_900003 HO_900004 HO_912002 HO_912003 HO_912004 HO_930002 HO_930003 HO_930004 BK868 BK869 BK899 BK911 BK929 HB hHeld ⊢
      refine take_ (i := 0) (N := some 47) (v := ?_) (a' := ?_) #[true, false, false, false, false] rfl rfl (by kernel_rfl) (fun _ _ _ h => h) (Or.inl ⟨by rfl, ?_⟩) hHeld ?_ ?_
      rotate_left
      ·rintro w' ⟨s0, s1, s2, s3, s4, s5, s6, s7, s8, s9⟩
       go_simp
       with_reducible rfl
      rotate_left
      ·simp only [Act.put, List.setIfInBounds_toArray, List.set_cons_zero, List.set_cons_succ, i64_w, i32_w]
       rfl
      refine take_ (i := 1) (N := some 48) (v := ?_) (a' := ?_) #[true, true, false, false, false] rfl rfl (by kernel_rfl) (fun _ _ _ h => h) (Or.inl ⟨by rfl, ?_⟩) hHeld ?_ ?_
      rotate_left
      ·rintro w' ⟨s0, s1, s2, s3, s4, s5, s6, s7, s8, s9⟩
       go_simp
       with_reducible rfl
      rotate_left
      ·simp only [Act.put, List.setIfInBounds_toArray, List.set_cons_zero, List.set_cons_succ, i64_w, i32_w]
       rfl
      refine one_ (i := 2) (N := some 49) #[true, true, true, false, false] rfl rfl (by kernel_rfl) (by decide) (fun K hK => ?_)
      refine goes_ Try.func16 (by kernel_rfl) rfl #[.agg #[.int .i64 a0_0, .int .i64 a0_1, .slice A0_2 l0_2.length c0_2, .slice A0_3 l0_3.length c0_3, .slice A0_4 l0_4.length c0_4]] (by rfl) rfl rfl mq ?_
      with_reducible refine (laws_toSession.calls kj15 a0_0 a0_1 _ _ l0_2 _ _ l0_3 _ _ l0_4 t931 t932 t933 t936 t939 _ ?s1 ?s2 ?s3 ?s4 ?s5 ?s6 A87.out).mono ?_
      (case s1 => exact cq (Kd.C_below HR0_2.out HB.out))
      (case s2 => exact HC0_2.out)
      (case s3 => exact cq (Kd.C_below HR0_3.out HB.out))
      (case s4 => exact HC0_3.out)
      (case s5 => exact cq (Kd.C_below HR0_4.out HB.out))
      (case s6 => exact HC0_4.out)
      rintro e w229 ⟨v934, v937, v940, rfl, ho0, ho1, ho2, hb⟩
      refine ⟨_, rfl, ?_⟩
      have HO935 := rl (Kd.R_new' (Kd.R_new' (Kd.R_new' ho0 (lw HO_900002)) (lw HO_912002)) (lw HO_930002))
      replace HO_912002 := am (Kd.R_elder' (rq HO_912002) (Kd.R_base ho0) hb)
      have HO938 := rl (Kd.R_new' (Kd.R_new' (Kd.R_new' (Kd.R_new' (Kd.R_new' (Kd.R_new' ho1 (lw HO_900003)) (lw HO_900004)) (lw HO_912003)) (lw HO_912004)) (lw HO_930003)) (lw HO_930004))
      have HO941 := rl (Kd.R_new' (Kd.R_new' (Kd.R_new' (Kd.R_new' (Kd.R_new' (Kd.R_new' ho2 (lw HO_900003)) (lw HO_900004)) (lw HO_912003)) (lw HO_912004)) (lw HO_930003)) (lw HO_930004))
      replace HO_912003 := tq2 (rq HO_912003) hb ho1 ho2
      replace HO_912004 := tq2 (rq HO_912004) hb ho1 ho2
      replace BK868 := zb BK868 hb
      replace BK869 := zb BK869 hb
      replace BK899 := zb BK899 hb
      replace BK911 := zb BK911 hb
      replace BK929 := zb BK929 hb
      replace HB := sb hb
      (try clear hb ho0 ho1 ho2)
      obtain ⟨Ao230, co230, eo230⟩ := Kd.R_slice HO935.out
      (first | subst eo230 | (injection eo230 with f1_ f2_ f3_; have f4_ := f1_.symm; have f5_ := f3_.symm; clear f1_ f2_ f3_; subst f4_; subst f5_))
      obtain ⟨Ao231, co231, eo231⟩ := Kd.R_slice HO938.out
      (first | subst eo231 | (injection eo231 with f1_ f2_ f3_; have f4_ := f1_.symm; have f5_ := f3_.symm; clear f1_ f2_ f3_; subst f4_; subst f5_))
      obtain ⟨Ao232, co232, eo232⟩ := Kd.R_slice HO941.out
      (first | subst eo232 | (injection eo232 with f1_ f2_ f3_; have f4_ := f1_.symm; have f5_ := f3_.symm; clear f1_ f2_ f3_; subst f4_; subst f5_))
      refine hK.out _ _ cl (fun hHeld => ?_)
      clear hK K
      refine norm_ (a' := ?_) ?_ ?_
      rotate_left
      ·show Act.put _ (some 49) _ = _
       simp only [Act.put, List.setIfInBounds_toArray, List.set_cons_zero, List.set_cons_succ, i64_w, i32_w]
       rfl
      refine one_ (i := 3) (N := some 50) #[true, true, true, true, false] rfl rfl (by kernel_rfl) (by decide) (fun K hK => ?_)
      refine goes_ Try.func18 (by kernel_rfl) rfl #[.agg #[.int .i64 t900, .int .i64 t901, .slice Ao47 t902.length co47, .slice Ao48 t905.length co48, .slice Ao49 t908.length co49], .agg #[.int .i64 t931, .int .i64 t932, .slice Ao230 t933.length co230, .slice Ao231 t936.length co231, .slice Ao232 t939.length co232]] (by rfl) rfl rfl mq ?_
      with_reducible refine (laws_eqSession.calls kj15 t900 t901 _ _ t902 _ _ t905 _ _ t908 t931 t932 _ _ t933 _ _ t936 _ _ t939 false _ ?s1 ?s2 ?s3 ?s4 ?s5 ?s6 ?s7 ?s8 ?s9 ?s10 ?s11 ?s12 A88.out).mono ?_
      (case s1 => exact cr HO_912002)
      (case s2 => exact rq1 HO_912002)
      (case s3 => exact cr HO_912003)
      (case s4 => exact rq1 HO_912003)
      (case s5 => exact cr HO_912004)
      (case s6 => exact rq1 HO_912004)
      (case s7 => exact cr HO935)
      (case s8 => exact rq1 HO935)
      (case s9 => exact cr HO938)
      (case s10 => exact rq1 HO938)
      (case s11 => exact cr HO941)
      (case s12 => exact rq1 HO941)
      rintro e w233 ⟨rfl, hb⟩
      refine ⟨_, rfl, ?_⟩
      replace BK868 := zb BK868 hb
      replace BK869 := zb BK869 hb
      replace BK899 := zb BK899 hb
      replace BK911 := zb BK911 hb
      replace BK929 := zb BK929 hb
      replace HB := sb hb
      (try clear hb)
      refine hK.out _ _ cl (fun hHeld => ?_)
      clear hK K
      refine norm_ (a' := ?_) ?_ ?_
      rotate_left
      ·show Act.put _ (some 50) _ = _
       simp only [Act.put, List.setIfInBounds_toArray, List.set_cons_zero, List.set_cons_succ, i64_w, i32_w]
       rfl
      refine pure_ (i := 4) (N := some 51) (v := ?_) (a' := ?_) #[true, true, true, true, true] rfl rfl (by kernel_rfl) (fun _ _ _ h => h) (Or.inl ⟨by rfl, ?_⟩) ?_ ?_
      rotate_left
      ·intro w'
       go_simp
       with_reducible rfl
      rotate_left
      ·simp only [Act.put, List.setIfInBounds_toArray, List.set_cons_zero, List.set_cons_succ, i64_w, i32_w]
       rfl
      refine done_ (by kernel_rfl) ?_
      try go_wp2
      go_ret
      exact ⟨eq_, bq⟩




end Go.Proofs.Ytkkgjljcgnegpaa.Pall
