-- written by the kit's print program, put together by a program
import Derived.Test.YtkkgjljcgnegpaaMFnExactRunSession2
namespace Go.Proofs.Ytkkgjljcgnegpaa.Pall
open Go.RowKit Go.Proofs.YtkkgjljcgnegpaaW.PrintWords Go.Proofs.YtkkgjljcgnegpaaW.PrintLast Go.Proofs.YtkkgjljcgnegpaaW.PrintMore
attribute [local go_sem] max2_int min2_int max_two min_two max_three min_three max_four min_four   -- for this text's walks alone
set_option linter.unusedVariables false
set_option linter.unusedSimpArgs false
set_option maxHeartbeats 8000000 in
set_option maxRecDepth 100000 in
theorem laws_FnExactRunSession.calls (k : Nat) (a0_0 : Int) (a0_1 : Int) (A0_2 : Option Addr) (c0_2 : Nat) (l0_2 : List (S54)) (A0_3 : Option Addr) (c0_3 : Nat) (l0_3 : List (S56)) (A0_4 : Option Addr) (c0_4 : Nat) (l0_4 : List (S56)) (A1 : Option Addr) (c1 : Nat) (l1 : List (S56)) (r : Bool) (w : World) (hr0_2 : Kd.C k54 w A0_2 l0_2.length l0_2) (hc0_2 : l0_2.length ≤ c0_2) (hr0_3 : Kd.C k56 w A0_3 l0_3.length l0_3) (hc0_3 : l0_3.length ≤ c0_3) (hr0_4 : Kd.C k56 w A0_4 l0_4.length l0_4) (hc0_4 : l0_4.length ≤ c0_4) (hr1 : Kd.C k56 w A1 l1.length l1) (hc1 : l1.length ≤ c1) (h : laws_FnExactRunSession.f k a0_0 a0_1 l0_2 l0_3 l0_4 l1 = some r) :
  Calls Try.prog 9 #[.agg #[.int .i64 a0_0, .int .i64 a0_1, .slice A0_2 l0_2.length c0_2, .slice A0_3 l0_3.length c0_3, .slice A0_4 l0_4.length c0_4], .slice A1 l1.length c1] w fun e w' => e = .returned (.bool r) ∧ Below w.heap.size w w' := by
 have hu27 := Try.underlying27
 have hu35 := Try.underlying35
 have HR0_2 := am hr0_2
 have HC0_2 := am hc0_2
 clear hr0_2 hc0_2
 have HR0_3 := am hr0_3
 have HC0_3 := am hc0_3
 clear hr0_3 hc0_3
 have HR0_4 := am hr0_4
 have HC0_4 := am hc0_4
 clear hr0_4 hc0_4
 have HR1 := am hr1
 have HC1 := am hc1
 clear hr1 hc1
 have HB := am (Below.refl w.heap.size w)
 have H : ((laws_szSession.f a0_0 a0_1 l0_2 l0_3 l0_4 1048576).bind fun t1045 => (if t1045 < 0 then (some true) else ((laws_szSessionActS.f l1 t1045).bind fun t1046 => (if t1046 < 0 then (some true) else ((laws_toSession.f k a0_0 a0_1 l0_2 l0_3 l0_4).bind fun bt1047 => ((laws_toSessionActS.f k l1).bind fun t1058 => ((spec_RunSession.f k bt1047.1 bt1047.2.1 bt1047.2.2.1 bt1047.2.2.2.1 bt1047.2.2.2.2 t1058).bind fun bt1061 => ((laws_toSession.f k a0_0 a0_1 l0_2 l0_3 l0_4).bind fun bt1075 => ((laws_toSessionActS.f k l1).bind fun t1087 => ((impl_RunSession.f k bt1075.1 bt1075.2.1 bt1075.2.2.1 bt1075.2.2.2.1 bt1075.2.2.2.2 t1087).bind fun bt1090 => ((laws_eqSession.f k bt1090.1 bt1090.2.1 bt1090.2.2.1 bt1090.2.2.2.1 bt1090.2.2.2.2.1 bt1061.1 bt1061.2.1 bt1061.2.2.1 bt1061.2.2.2.1 bt1061.2.2.2.2.1).bind fun t1104 => (if t1104 = true then (if bt1090.2.2.2.2.2.1 = bt1061.2.2.2.2.2.1 then (laws_FnExactRunSession.j0 k l1 bt1061.2.2.2.2.2.1 bt1061.2.2.2.2.2.2 t1087 bt1090.2.2.2.2.2.1 bt1090.2.2.2.2.2.2 (bt1090.2.2.2.2.2.2 != bt1061.2.2.2.2.2.2) a0_0 a0_1 l0_2 l0_3 l0_4 bt1061.1 bt1061.2.1 bt1061.2.2.1 bt1061.2.2.2.1 bt1061.2.2.2.2.1 bt1075.1 bt1075.2.1 bt1075.2.2.1 bt1075.2.2.2.1 bt1075.2.2.2.2 bt1090.1 bt1090.2.1 bt1090.2.2.1 bt1090.2.2.2.1 bt1090.2.2.2.2.1) else (laws_FnExactRunSession.j0 k l1 bt1061.2.2.2.2.2.1 bt1061.2.2.2.2.2.2 t1087 bt1090.2.2.2.2.2.1 bt1090.2.2.2.2.2.2 true a0_0 a0_1 l0_2 l0_3 l0_4 bt1061.1 bt1061.2.1 bt1061.2.2.1 bt1061.2.2.2.1 bt1061.2.2.2.2.1 bt1075.1 bt1075.2.1 bt1075.2.2.1 bt1075.2.2.2.1 bt1075.2.2.2.2 bt1090.1 bt1090.2.1 bt1090.2.2.1 bt1090.2.2.2.1 bt1090.2.2.2.2.1)) else (laws_FnExactRunSession.j0 k l1 bt1061.2.2.2.2.2.1 bt1061.2.2.2.2.2.2 t1087 bt1090.2.2.2.2.2.1 bt1090.2.2.2.2.2.2 true a0_0 a0_1 l0_2 l0_3 l0_4 bt1061.1 bt1061.2.1 bt1061.2.2.1 bt1061.2.2.2.1 bt1061.2.2.2.2.1 bt1075.1 bt1075.2.1 bt1075.2.2.1 bt1075.2.2.2.1 bt1075.2.2.2.2 bt1090.1 bt1090.2.1 bt1090.2.2.1 bt1090.2.2.2.1 bt1090.2.2.2.2.1))))))))))))) = some r := h
 clear h
 obtain ⟨t1045, A3, H⟩ := bindq H
 try dsimp only at H
 by_cases c4 : t1045 < 0
 ·rw [if_pos c4] at H
  have c4b0 : decide (t1045 < 0) = true := decide_eq_true c4
  clear c4
  obtain rfl := Option.some.inj H
  go_enter Try.func9, Try.ntmps9
  go_wp2_with (first | ((with_reducible refine gate_dst (N := 2) rfl ?_); refine box_event ?hg (N := 2) ?hd (cs := #[.int .i64 a0_0, .int .i64 a0_1, .slice A0_2 l0_2.length c0_2, .slice A0_3 l0_3.length c0_3, .slice A0_4 l0_4.length c0_4]) (t := 27) ?hr ?_; (case hd => rfl); (case hg => rfl); (case hr => first | (go_simp; done) | (go_simp; rfl)); intro gb1044 hg w5 hbox hb; have BK1044 := am (hbox); have GW1044 := am (gq hg); have GE1044 := am (gq hg); replace HB := sb hb; clear hb hbox hg; have ⟨hcz6_0, hcz6_1, hcz6_2, hcz6_3, hcz6_4, hfz6_0, hfz6_1, hfz6_2, hfz6_3, hfz6_4⟩ := bc5 BK1044) | ((with_reducible refine gate_callee (f := 14) rfl ?_); refine goesQ (some 22) Try.func14 #[.agg #[.int .i64 a0_0, .int .i64 a0_1, .slice A0_2 l0_2.length c0_2, .slice A0_3 l0_3.length c0_3, .slice A0_4 l0_4.length c0_4], .int .i64 1048576] ?_; (with_reducible refine (laws_szSession.calls a0_0 a0_1 _ _ l0_2 _ _ l0_3 _ _ l0_4 1048576 t1045 _ ?s1 ?s2 ?s3 ?s4 ?s5 ?s6 A3.out).mono ?_); (case s1 => exact cq (Kd.C_below HR0_2.out HB.out)); (case s2 => exact HC0_2.out); (case s3 => exact cq (Kd.C_below HR0_3.out HB.out)); (case s4 => exact HC0_3.out); (case s5 => exact cq (Kd.C_below HR0_4.out HB.out)); (case s6 => exact HC0_4.out); rintro e w7 ⟨rfl, hb⟩; refine ⟨_, rfl, ?_⟩; replace BK1044 := zb BK1044 hb; replace HB := sb hb; (try clear hb)))
  go_ret
  exact ⟨eq_, bq⟩
 ·rw [if_neg c4] at H
  have c4b0 : decide (t1045 < 0) = false := decide_eq_false c4
  clear c4
  obtain ⟨t1046, A8, H⟩ := bindq H
  try dsimp only at H
  by_cases c9 : t1046 < 0
  ·rw [if_pos c9] at H
   have c9b0 : decide (t1046 < 0) = true := decide_eq_true c9
   clear c9
   obtain rfl := Option.some.inj H
   go_enter Try.func9, Try.ntmps9
   go_wp2_with (first | ((with_reducible refine gate_dst (N := 2) rfl ?_); refine box_event ?hg (N := 2) ?hd (cs := #[.int .i64 a0_0, .int .i64 a0_1, .slice A0_2 l0_2.length c0_2, .slice A0_3 l0_3.length c0_3, .slice A0_4 l0_4.length c0_4]) (t := 27) ?hr ?_; (case hd => rfl); (case hg => rfl); (case hr => first | (go_simp; done) | (go_simp; rfl)); intro gb1044 hg w10 hbox hb; have BK1044 := am (hbox); have GW1044 := am (gq hg); have GE1044 := am (gq hg); replace HB := sb hb; clear hb hbox hg; have ⟨hcz11_0, hcz11_1, hcz11_2, hcz11_3, hcz11_4, hfz11_0, hfz11_1, hfz11_2, hfz11_3, hfz11_4⟩ := bc5 BK1044) | ((with_reducible refine gate_callee (f := 14) rfl ?_); refine goesQ (some 22) Try.func14 #[.agg #[.int .i64 a0_0, .int .i64 a0_1, .slice A0_2 l0_2.length c0_2, .slice A0_3 l0_3.length c0_3, .slice A0_4 l0_4.length c0_4], .int .i64 1048576] ?_; (with_reducible refine (laws_szSession.calls a0_0 a0_1 _ _ l0_2 _ _ l0_3 _ _ l0_4 1048576 t1045 _ ?s1 ?s2 ?s3 ?s4 ?s5 ?s6 A3.out).mono ?_); (case s1 => exact cq (Kd.C_below HR0_2.out HB.out)); (case s2 => exact HC0_2.out); (case s3 => exact cq (Kd.C_below HR0_3.out HB.out)); (case s4 => exact HC0_3.out); (case s5 => exact cq (Kd.C_below HR0_4.out HB.out)); (case s6 => exact HC0_4.out); rintro e w12 ⟨rfl, hb⟩; refine ⟨_, rfl, ?_⟩; replace BK1044 := zb BK1044 hb; replace HB := sb hb; (try clear hb)) | ((with_reducible refine gate_callee (f := 39) rfl ?_); refine goesQ (some 27) Try.func39 #[.slice A1 l1.length c1, .int .i64 t1045] ?_; (with_reducible refine (laws_szSessionActS.calls _ _ l1 t1045 t1046 _ ?s1 ?s2 A8.out).mono ?_); (case s1 => exact cq (Kd.C_below HR1.out HB.out)); (case s2 => exact HC1.out); rintro e w' ⟨rfl, ⟨nd, rfl⟩⟩; refine ⟨_, rfl, ?_⟩))
   go_ret
   exact ⟨eq_, bq⟩
  ·rw [if_neg c9] at H
   have c9b0 : decide (t1046 < 0) = false := decide_eq_false c9
   clear c9
   obtain ⟨⟨t1047, t1048, t1049, t1052, t1055⟩, A13, H⟩ := bindq H
   try dsimp only at H
   obtain ⟨t1058, A14, H⟩ := bindq H
   try dsimp only at H
   obtain ⟨⟨t1061, t1062, t1063, t1066, t1069, t1072, t1073⟩, A15, H⟩ := bindq H
   try dsimp only at H
   obtain ⟨⟨t1075, t1076, t1077, t1080, t1083⟩, A16, H⟩ := bindq H
   try dsimp only at H
   obtain ⟨t1087, A17, H⟩ := bindq H
   try dsimp only at H
   obtain ⟨⟨t1090, t1091, t1092, t1095, t1098, t1101, t1102⟩, A18, H⟩ := bindq H
   try dsimp only at H
   have HC19 := am H
   clear H
   go_enter Try.func9, Try.ntmps9
   go_upto_region 12 with (first | ((with_reducible refine gate_dst (N := 2) rfl ?_); refine box_event ?hg (N := 2) ?hd (cs := #[.int .i64 a0_0, .int .i64 a0_1, .slice A0_2 l0_2.length c0_2, .slice A0_3 l0_3.length c0_3, .slice A0_4 l0_4.length c0_4]) (t := 27) ?hr ?_; (case hd => rfl); (case hg => rfl); (case hr => first | (go_simp; done) | (go_simp; rfl)); intro gb1044 hg w20 hbox hb; have BK1044 := am (hbox); have GW1044 := am (gq hg); have GE1044 := am (gq hg); replace HB := sb hb; clear hb hbox hg; have ⟨hcz21_0, hcz21_1, hcz21_2, hcz21_3, hcz21_4, hfz21_0, hfz21_1, hfz21_2, hfz21_3, hfz21_4⟩ := bc5 BK1044) | ((with_reducible refine gate_callee (f := 14) rfl ?_); refine goesQ (some 22) Try.func14 #[.agg #[.int .i64 a0_0, .int .i64 a0_1, .slice A0_2 l0_2.length c0_2, .slice A0_3 l0_3.length c0_3, .slice A0_4 l0_4.length c0_4], .int .i64 1048576] ?_; (with_reducible refine (laws_szSession.calls a0_0 a0_1 _ _ l0_2 _ _ l0_3 _ _ l0_4 1048576 t1045 _ ?s1 ?s2 ?s3 ?s4 ?s5 ?s6 A3.out).mono ?_); (case s1 => exact cq (Kd.C_below HR0_2.out HB.out)); (case s2 => exact HC0_2.out); (case s3 => exact cq (Kd.C_below HR0_3.out HB.out)); (case s4 => exact HC0_3.out); (case s5 => exact cq (Kd.C_below HR0_4.out HB.out)); (case s6 => exact HC0_4.out); rintro e w22 ⟨rfl, hb⟩; refine ⟨_, rfl, ?_⟩; replace BK1044 := zb BK1044 hb; replace HB := sb hb; (try clear hb)) | ((with_reducible refine gate_callee (f := 39) rfl ?_); refine goesQ (some 27) Try.func39 #[.slice A1 l1.length c1, .int .i64 t1045] ?_; (with_reducible refine (laws_szSessionActS.calls _ _ l1 t1045 t1046 _ ?s1 ?s2 A8.out).mono ?_); (case s1 => exact cq (Kd.C_below HR1.out HB.out)); (case s2 => exact HC1.out); rintro e w' ⟨rfl, ⟨nd, rfl⟩⟩; refine ⟨_, rfl, ?_⟩; (try (rw [drewN_self w22]; generalize hq_ : World.drewN w22 _ = w22; have n0_ : Aside0 (w22.heap[gb1044]? = some (.cells #[.int .i64 a0_0, .int .i64 a0_1, .slice A0_2 l0_2.length c0_2, .slice A0_3 l0_3.length c0_3, .slice A0_4 l0_4.length c0_4] 27 (0, 0))) := ⟨by rw [← hq_]; exact (zq BK1044)⟩; have n1_ : Aside0 (Below w.heap.size w w22) := ⟨by rw [← hq_]; exact bq⟩; clear BK1044 HB hq_; have BK1044 := n0_; have HB := n1_; clear n0_ n1_)); have ⟨hcz23_0, hcz23_1, hcz23_2, hcz23_3, hcz23_4, hfz23_0, hfz23_1, hfz23_2, hfz23_3, hfz23_4⟩ := bc5 BK1044) | ((with_reducible refine gate_callee (f := 16) rfl ?_); refine goesQ (some 32) Try.func16 #[.agg #[.int .i64 a0_0, .int .i64 a0_1, .slice A0_2 l0_2.length c0_2, .slice A0_3 l0_3.length c0_3, .slice A0_4 l0_4.length c0_4]] ?_; (with_reducible refine (laws_toSession.calls k a0_0 a0_1 _ _ l0_2 _ _ l0_3 _ _ l0_4 t1047 t1048 t1049 t1052 t1055 _ ?s1 ?s2 ?s3 ?s4 ?s5 ?s6 A13.out).mono ?_); (case s1 => exact cq (Kd.C_below HR0_2.out HB.out)); (case s2 => exact HC0_2.out); (case s3 => exact cq (Kd.C_below HR0_3.out HB.out)); (case s4 => exact HC0_3.out); (case s5 => exact cq (Kd.C_below HR0_4.out HB.out)); (case s6 => exact HC0_4.out); rintro e w24 ⟨v1050, v1053, v1056, rfl, ho0, ho1, ho2, hb⟩; refine ⟨_, rfl, ?_⟩; have HO1051 := rl ho0; have HO1054 := rl ho1; have HO1057 := rl ho2; replace BK1044 := zb BK1044 hb; replace HB := sb hb; (try clear hb ho0 ho1 ho2)) | ((with_reducible refine gate_callee (f := 41) rfl ?_); refine goesQ (some 34) Try.func41 #[.slice A1 l1.length c1] ?_; (with_reducible refine (laws_toSessionActS.calls k _ _ l1 t1058 _ ?s1 ?s2 A14.out).mono ?_); (case s1 => exact cq (Kd.C_below HR1.out HB.out)); (case s2 => exact HC1.out); rintro e w25 ⟨v1059, rfl, ho0, hb⟩; refine ⟨_, rfl, ?_⟩; replace HO1051 := rb HO1051 hb; have HO1060 := rl (Kd.R_new' (Kd.R_new' ho0 (lw HO1054)) (lw HO1057)); replace HO1054 := am (Kd.R_elder' (rq HO1054) (Kd.R_base ho0) hb); replace HO1057 := am (Kd.R_elder' (rq HO1057) (Kd.R_base ho0) hb); replace BK1044 := zb BK1044 hb; replace HB := sb hb; (try clear hb ho0); obtain ⟨Ao26, co26, eo26⟩ := Kd.R_slice HO1051.out; subst eo26; obtain ⟨Ao27, co27, eo27⟩ := Kd.R_slice HO1054.out; subst eo27; obtain ⟨Ao28, co28, eo28⟩ := Kd.R_slice HO1057.out; subst eo28; obtain ⟨Ao29, co29, eo29⟩ := Kd.R_slice HO1060.out; subst eo29) | ((with_reducible refine gate_callee (f := 40) rfl ?_); refine goesQ (some 35) Try.func40 #[.agg #[.int .i64 t1047, .int .i64 t1048, .slice Ao26 t1049.length co26, .slice Ao27 t1052.length co27, .slice Ao28 t1055.length co28], .slice Ao29 t1058.length co29] ?_; (with_reducible refine (spec_RunSession.calls k t1047 t1048 _ _ t1049 _ _ t1052 _ _ t1055 _ _ t1058 t1061 t1062 t1063 t1066 t1069 t1072 t1073 _ ?s1 ?s2 ?s3 ?s4 ?s5 ?s6 ?s7 ?s8 A15.out).mono ?_); (case s1 => exact cr HO1051); (case s2 => exact rq1 HO1051); (case s3 => exact cr HO1054); (case s4 => exact rq1 HO1054); (case s5 => exact cr HO1057); (case s6 => exact rq1 HO1057); (case s7 => exact cr HO1060); (case s8 => exact rq1 HO1060); rintro e w30 ⟨v1064, v1067, v1070, rfl, ho0, ho1, ho2, hb⟩; refine ⟨_, rfl, ?_⟩; have HO1065 := rl (Kd.R_new' ho0 (lw HO1051)); replace HO1051 := am (Kd.R_elder' (rq HO1051) (Kd.R_base ho0) hb); have HO1068 := rl (Kd.R_new' (Kd.R_new' (Kd.R_new' ho1 (lw HO1054)) (lw HO1057)) (lw HO1060)); have HO1071 := rl (Kd.R_new' (Kd.R_new' (Kd.R_new' ho2 (lw HO1054)) (lw HO1057)) (lw HO1060)); replace HO1054 := tq2 (rq HO1054) hb ho1 ho2; replace HO1057 := tq2 (rq HO1057) hb ho1 ho2; replace HO1060 := tq2 (rq HO1060) hb ho1 ho2; replace BK1044 := zb BK1044 hb; replace HB := sb hb; (try clear hb ho0 ho1 ho2)) | ((with_reducible refine gate_dst (N := 6) rfl ?_); refine box_event ?hg (N := 6) ?hd (cs := #[.int .i64 0, .int .i64 0, .slice none 0 0, .slice none 0 0, .slice none 0 0]) (t := 35) ?hr ?_; (case hd => rfl); (case hg => rfl); (case hr => first | (go_simp; done) | (go_simp; rfl)); intro gb1074 hg w31 hbox hb; replace HO1051 := rb HO1051 hb; replace HO1054 := rb HO1054 hb; replace HO1057 := rb HO1057 hb; replace HO1060 := rb HO1060 hb; replace HO1065 := rb HO1065 hb; replace HO1068 := rb HO1068 hb; replace HO1071 := rb HO1071 hb; have BK1074 := am (hbox); have GW1074 := am (gq hg); have GE1074 := am (gq hg); replace HB := sb hb; have NB1044_1074 := nl hg BK1044; have NB1074_1044 := ng hg BK1044; replace BK1044 := zb BK1044 hb; clear hb hbox hg; have hnb32 := NB1074_1044.out; have hnc32 := NB1044_1074.out; have ⟨hcz33_0, hcz33_1, hcz33_2, hcz33_3, hcz33_4, hfz33_0, hfz33_1, hfz33_2, hfz33_3, hfz33_4⟩ := bc5 BK1074; obtain ⟨Ao34, co34, eo34⟩ := Kd.R_slice HO1065.out; subst eo34; obtain ⟨Ao35, co35, eo35⟩ := Kd.R_slice HO1068.out; subst eo35; obtain ⟨Ao36, co36, eo36⟩ := Kd.R_slice HO1071.out; subst eo36; have ⟨hcz37_0, hcz37_1, hcz37_2, hcz37_3, hcz37_4, hfz37_0, hfz37_1, hfz37_2, hfz37_3, hfz37_4⟩ := bc5 BK1044) | ((with_reducible refine gate_callee (f := 16) rfl ?_); refine goesQ (some 40) Try.func16 #[.agg #[.int .i64 a0_0, .int .i64 a0_1, .slice A0_2 l0_2.length c0_2, .slice A0_3 l0_3.length c0_3, .slice A0_4 l0_4.length c0_4]] ?_; (with_reducible refine (laws_toSession.calls k a0_0 a0_1 _ _ l0_2 _ _ l0_3 _ _ l0_4 t1075 t1076 t1077 t1080 t1083 _ ?s1 ?s2 ?s3 ?s4 ?s5 ?s6 A16.out).mono ?_); (case s1 => exact Kd.C_below HR0_2.out bq); (case s2 => exact HC0_2.out); (case s3 => exact Kd.C_below HR0_3.out bq); (case s4 => exact HC0_3.out); (case s5 => exact Kd.C_below HR0_4.out bq); (case s6 => exact HC0_4.out); rintro e w38 ⟨v1078, v1081, v1084, rfl, ho0, ho1, ho2, hb⟩; refine ⟨_, rfl, ?_⟩; have HO1079 := rl (Kd.R_new' (Kd.R_new' ho0 (Kd.R_lt (fq HO1051 BK1074))) (Kd.R_lt (fq HO1065 BK1074))); replace HO1051 := am (Kd.R_elder' (fq HO1051 BK1074) (Kd.R_base ho0) hb); replace HO1065 := am (Kd.R_elder' (fq HO1065 BK1074) (Kd.R_base ho0) hb); have HO1082 := rl (Kd.R_new' (Kd.R_new' (Kd.R_new' (Kd.R_new' (Kd.R_new' ho1 (Kd.R_lt (fq HO1054 BK1074))) (Kd.R_lt (fq HO1057 BK1074))) (Kd.R_lt (fq HO1060 BK1074))) (Kd.R_lt (fq HO1068 BK1074))) (Kd.R_lt (fq HO1071 BK1074))); have HO1085 := rl (Kd.R_new' (Kd.R_new' (Kd.R_new' (Kd.R_new' (Kd.R_new' ho2 (Kd.R_lt (fq HO1054 BK1074))) (Kd.R_lt (fq HO1057 BK1074))) (Kd.R_lt (fq HO1060 BK1074))) (Kd.R_lt (fq HO1068 BK1074))) (Kd.R_lt (fq HO1071 BK1074))); replace HO1054 := tq2 (fq HO1054 BK1074) hb ho1 ho2; replace HO1057 := tq2 (fq HO1057 BK1074) hb ho1 ho2; replace HO1060 := tq2 (fq HO1060 BK1074) hb ho1 ho2; replace HO1068 := tq2 (fq HO1068 BK1074) hb ho1 ho2; replace HO1071 := tq2 (fq HO1071 BK1074) hb ho1 ho2; replace BK1044 := am (blk_below (g := gb1044) (o := .cells #[.int .i64 a0_0, .int .i64 a0_1, .slice A0_2 l0_2.length c0_2, .slice A0_3 l0_3.length c0_3, .slice A0_4 l0_4.length c0_4] 27 (0, 0)) (zp BK1044) hb); replace BK1074 := am (blk_below (g := gb1074) (o := .cells #[.int .i64 t1061, .int .i64 t1062, .slice Ao34 t1063.length co34, .slice Ao35 t1066.length co35, .slice Ao36 t1069.length co36] 35 (0, 0)) (zp BK1074) hb); replace HB := sb hb; (try clear hb ho0 ho1 ho2)) | ((with_reducible refine gate_dst (N := 9) rfl ?_); refine box_event ?hg (N := 9) ?hd (cs := #[.int .i64 0, .int .i64 0, .slice none 0 0, .slice none 0 0, .slice none 0 0]) (t := 35) ?hr ?_; (case hd => rfl); (case hg => rfl); (case hr => first | (go_simp; done) | (go_simp; rfl)); intro gb1086 hg w39 hbox hb; replace HO1051 := rb HO1051 hb; replace HO1054 := rb HO1054 hb; replace HO1057 := rb HO1057 hb; replace HO1060 := rb HO1060 hb; replace HO1065 := rb HO1065 hb; replace HO1068 := rb HO1068 hb; replace HO1071 := rb HO1071 hb; replace HO1079 := rb HO1079 hb; replace HO1082 := rb HO1082 hb; replace HO1085 := rb HO1085 hb; have BK1086 := am (hbox); have GW1086 := am (gq hg); have GE1086 := am (gq hg); replace HB := sb hb; have NB1044_1086 := nl hg BK1044; have NB1086_1044 := ng hg BK1044; replace BK1044 := zb BK1044 hb; have NB1074_1086 := nl hg BK1074; have NB1086_1074 := ng hg BK1074; replace BK1074 := zb BK1074 hb; clear hb hbox hg; have hnb40 := NB1086_1044.out; have hnc40 := NB1044_1086.out; have hnb41 := NB1086_1074.out; have hnc41 := NB1074_1086.out; have ⟨hcz42_0, hcz42_1, hcz42_2, hcz42_3, hcz42_4, hfz42_0, hfz42_1, hfz42_2, hfz42_3, hfz42_4⟩ := bc5 BK1086; obtain ⟨Ao43, co43, eo43⟩ := Kd.R_slice HO1079.out; subst eo43; obtain ⟨Ao44, co44, eo44⟩ := Kd.R_slice HO1082.out; subst eo44; obtain ⟨Ao45, co45, eo45⟩ := Kd.R_slice HO1085.out; subst eo45) | ((with_reducible refine gate_callee (f := 41) rfl ?_); refine goesQ (some 42) Try.func41 #[.slice A1 l1.length c1] ?_; (with_reducible refine (laws_toSessionActS.calls k _ _ l1 t1087 _ ?s1 ?s2 A17.out).mono ?_); (case s1 => exact Kd.C_below HR1.out bq); (case s2 => exact HC1.out); rintro e w46 ⟨v1088, rfl, ho0, hb⟩; refine ⟨_, rfl, ?_⟩; replace HO1051 := am (Kd.R_below (fq HO1051 BK1086) hb); replace HO1065 := am (Kd.R_below (fq HO1065 BK1086) hb); replace HO1079 := am (Kd.R_below (fq HO1079 BK1086) hb); have HO1089 := rl (Kd.R_new' (Kd.R_new' (Kd.R_new' (Kd.R_new' (Kd.R_new' (Kd.R_new' (Kd.R_new' ho0 (Kd.R_lt (fq HO1054 BK1086))) (Kd.R_lt (fq HO1057 BK1086))) (Kd.R_lt (fq HO1060 BK1086))) (Kd.R_lt (fq HO1068 BK1086))) (Kd.R_lt (fq HO1071 BK1086))) (Kd.R_lt (fq HO1082 BK1086))) (Kd.R_lt (fq HO1085 BK1086))); replace HO1054 := am (Kd.R_elder' (fq HO1054 BK1086) (Kd.R_base ho0) hb); replace HO1057 := am (Kd.R_elder' (fq HO1057 BK1086) (Kd.R_base ho0) hb); replace HO1060 := am (Kd.R_elder' (fq HO1060 BK1086) (Kd.R_base ho0) hb); replace HO1068 := am (Kd.R_elder' (fq HO1068 BK1086) (Kd.R_base ho0) hb); replace HO1071 := am (Kd.R_elder' (fq HO1071 BK1086) (Kd.R_base ho0) hb); replace HO1082 := am (Kd.R_elder' (fq HO1082 BK1086) (Kd.R_base ho0) hb); replace HO1085 := am (Kd.R_elder' (fq HO1085 BK1086) (Kd.R_base ho0) hb); replace BK1044 := am (blk_below (g := gb1044) (o := .cells #[.int .i64 a0_0, .int .i64 a0_1, .slice A0_2 l0_2.length c0_2, .slice A0_3 l0_3.length c0_3, .slice A0_4 l0_4.length c0_4] 27 (0, 0)) (zp BK1044) hb); replace BK1074 := am (blk_below (g := gb1074) (o := .cells #[.int .i64 t1061, .int .i64 t1062, .slice Ao34 t1063.length co34, .slice Ao35 t1066.length co35, .slice Ao36 t1069.length co36] 35 (0, 0)) (zp BK1074) hb); replace BK1086 := am (blk_below (g := gb1086) (o := .cells #[.int .i64 t1075, .int .i64 t1076, .slice Ao43 t1077.length co43, .slice Ao44 t1080.length co44, .slice Ao45 t1083.length co45] 35 (0, 0)) (zp BK1086) hb); replace HB := sb hb; (try clear hb ho0); have ⟨hcz47_0, hcz47_1, hcz47_2, hcz47_3, hcz47_4, hfz47_0, hfz47_1, hfz47_2, hfz47_3, hfz47_4⟩ := bc5 BK1086; obtain ⟨Ao48, co48, eo48⟩ := Kd.R_slice HO1089.out; subst eo48) | ((with_reducible refine gate_callee (f := 42) rfl ?_); refine goesQ (some 46) Try.func42 #[.agg #[.int .i64 t1075, .int .i64 t1076, .slice Ao43 t1077.length co43, .slice Ao44 t1080.length co44, .slice Ao45 t1083.length co45], .slice Ao48 t1087.length co48] ?_; (with_reducible refine (impl_RunSession.calls k t1075 t1076 _ _ t1077 _ _ t1080 _ _ t1083 _ _ t1087 t1090 t1091 t1092 t1095 t1098 t1101 t1102 _ ?s1 ?s2 ?s3 ?s4 ?s5 ?s6 ?s7 ?s8 A18.out).mono ?_); (case s1 => exact cr HO1079); (case s2 => exact rq1 HO1079); (case s3 => exact cr HO1082); (case s4 => exact rq1 HO1082); (case s5 => exact cr HO1085); (case s6 => exact rq1 HO1085); (case s7 => exact cr HO1089); (case s8 => exact rq1 HO1089); rintro e w49 ⟨v1093, v1096, v1099, rfl, ho0, ho1, ho2, hb⟩; refine ⟨_, rfl, ?_⟩; have HO1094 := rl (Kd.R_new' (Kd.R_new' (Kd.R_new' ho0 (lw HO1051)) (lw HO1065)) (lw HO1079)); replace HO1065 := am (Kd.R_elder' (rq HO1065) (Kd.R_base ho0) hb); replace HO1079 := am (Kd.R_elder' (rq HO1079) (Kd.R_base ho0) hb); have HO1097 := rl (Kd.R_new' (Kd.R_new' (Kd.R_new' (Kd.R_new' (Kd.R_new' (Kd.R_new' (Kd.R_new' (Kd.R_new' ho1 (lw HO1054)) (lw HO1057)) (lw HO1060)) (lw HO1068)) (lw HO1071)) (lw HO1082)) (lw HO1085)) (lw HO1089)); have HO1100 := rl (Kd.R_new' (Kd.R_new' (Kd.R_new' (Kd.R_new' (Kd.R_new' (Kd.R_new' (Kd.R_new' (Kd.R_new' ho2 (lw HO1054)) (lw HO1057)) (lw HO1060)) (lw HO1068)) (lw HO1071)) (lw HO1082)) (lw HO1085)) (lw HO1089)); replace HO1068 := tq2 (rq HO1068) hb ho1 ho2; replace HO1071 := tq2 (rq HO1071) hb ho1 ho2; replace HO1082 := tq2 (rq HO1082) hb ho1 ho2; replace HO1085 := tq2 (rq HO1085) hb ho1 ho2; replace HO1089 := tq2 (rq HO1089) hb ho1 ho2; replace BK1044 := zb BK1044 hb; replace BK1074 := zb BK1074 hb; replace BK1086 := zb BK1086 hb; replace HB := sb hb; (try clear hb ho0 ho1 ho2)) | ((with_reducible refine gate_dst (N := 11) rfl ?_); refine box_event ?hg (N := 11) ?hd (cs := #[.int .i64 0, .int .i64 0, .slice none 0 0, .slice none 0 0, .slice none 0 0]) (t := 35) ?hr ?_; (case hd => rfl); (case hg => rfl); (case hr => first | (go_simp; done) | (go_simp; rfl)); intro gb1103 hg w50 hbox hb; replace HO1065 := rb HO1065 hb; replace HO1068 := rb HO1068 hb; replace HO1071 := rb HO1071 hb; replace HO1079 := rb HO1079 hb; replace HO1082 := rb HO1082 hb; replace HO1085 := rb HO1085 hb; replace HO1089 := rb HO1089 hb; replace HO1094 := rb HO1094 hb; replace HO1097 := rb HO1097 hb; replace HO1100 := rb HO1100 hb; have BK1103 := am (hbox); have GW1103 := am (gq hg); have GE1103 := am (gq hg); replace HB := sb hb; have NB1044_1103 := nl hg BK1044; have NB1103_1044 := ng hg BK1044; replace BK1044 := zb BK1044 hb; have NB1074_1103 := nl hg BK1074; have NB1103_1074 := ng hg BK1074; replace BK1074 := zb BK1074 hb; have NB1086_1103 := nl hg BK1086; have NB1103_1086 := ng hg BK1086; replace BK1086 := zb BK1086 hb; clear hb hbox hg; have hnb51 := NB1103_1044.out; have hnc51 := NB1044_1103.out; have hnb52 := NB1103_1074.out; have hnc52 := NB1074_1103.out; have hnb53 := NB1103_1086.out; have hnc53 := NB1086_1103.out; have ⟨hcz54_0, hcz54_1, hcz54_2, hcz54_3, hcz54_4, hfz54_0, hfz54_1, hfz54_2, hfz54_3, hfz54_4⟩ := bc5 BK1103; obtain ⟨Ao55, co55, eo55⟩ := Kd.R_slice HO1094.out; subst eo55; obtain ⟨Ao56, co56, eo56⟩ := Kd.R_slice HO1097.out; subst eo56; obtain ⟨Ao57, co57, eo57⟩ := Kd.R_slice HO1100.out; subst eo57))
   (try simp only [Act.put, List.setIfInBounds_toArray, List.set_cons_zero, List.set_cons_succ])
   go_cut [63] (fun v63 wc => ∃ (kq : Nat) (x63_18 : Bool), v63 = .bool x63_18 ∧ Aside0 (laws_FnExactRunSession.j0 kq l1 t1072 t1073 t1087 t1101 t1102 x63_18 a0_0 a0_1 l0_2 l0_3 l0_4 t1061 t1062 t1063 t1066 t1069 t1075 t1076 t1077 t1080 t1083 t1090 t1091 t1092 t1095 t1098 = some r) ∧ Aside0 (kq ≤ k) ∧ Aside0 (Kd.R k60 60 wc w.heap.size (fun k_ => some k_ ≠ ((.slice Ao35 t1066.length co35) : Value).ownBlock ∧ some k_ ≠ ((.slice Ao36 t1069.length co36) : Value).ownBlock ∧ some k_ ≠ ((.slice Ao44 t1080.length co44) : Value).ownBlock ∧ some k_ ≠ ((.slice Ao45 t1083.length co45) : Value).ownBlock ∧ some k_ ≠ ((.slice Ao56 t1095.length co56) : Value).ownBlock ∧ some k_ ≠ ((.slice Ao57 t1098.length co57) : Value).ownBlock) (.slice Ao48 t1087.length co48) t1087) ∧ Aside0 (Kd.R k58 58 wc w.heap.size (fun k_ => some k_ ≠ ((.slice Ao43 t1077.length co43) : Value).ownBlock ∧ some k_ ≠ ((.slice Ao55 t1092.length co55) : Value).ownBlock) (.slice Ao34 t1063.length co34) t1063) ∧ Aside0 (Kd.R k60 60 wc w.heap.size (fun k_ => some k_ ≠ ((.slice Ao48 t1087.length co48) : Value).ownBlock ∧ some k_ ≠ ((.slice Ao36 t1069.length co36) : Value).ownBlock ∧ some k_ ≠ ((.slice Ao44 t1080.length co44) : Value).ownBlock ∧ some k_ ≠ ((.slice Ao45 t1083.length co45) : Value).ownBlock ∧ some k_ ≠ ((.slice Ao56 t1095.length co56) : Value).ownBlock ∧ some k_ ≠ ((.slice Ao57 t1098.length co57) : Value).ownBlock) (.slice Ao35 t1066.length co35) t1066) ∧ Aside0 (Kd.R k60 60 wc w.heap.size (fun k_ => some k_ ≠ ((.slice Ao48 t1087.length co48) : Value).ownBlock ∧ some k_ ≠ ((.slice Ao35 t1066.length co35) : Value).ownBlock ∧ some k_ ≠ ((.slice Ao44 t1080.length co44) : Value).ownBlock ∧ some k_ ≠ ((.slice Ao45 t1083.length co45) : Value).ownBlock ∧ some k_ ≠ ((.slice Ao56 t1095.length co56) : Value).ownBlock ∧ some k_ ≠ ((.slice Ao57 t1098.length co57) : Value).ownBlock) (.slice Ao36 t1069.length co36) t1069) ∧ Aside0 (Kd.R k58 58 wc w.heap.size (fun k_ => some k_ ≠ ((.slice Ao34 t1063.length co34) : Value).ownBlock ∧ some k_ ≠ ((.slice Ao55 t1092.length co55) : Value).ownBlock) (.slice Ao43 t1077.length co43) t1077) ∧ Aside0 (Kd.R k60 60 wc w.heap.size (fun k_ => some k_ ≠ ((.slice Ao48 t1087.length co48) : Value).ownBlock ∧ some k_ ≠ ((.slice Ao35 t1066.length co35) : Value).ownBlock ∧ some k_ ≠ ((.slice Ao36 t1069.length co36) : Value).ownBlock ∧ some k_ ≠ ((.slice Ao45 t1083.length co45) : Value).ownBlock ∧ some k_ ≠ ((.slice Ao56 t1095.length co56) : Value).ownBlock ∧ some k_ ≠ ((.slice Ao57 t1098.length co57) : Value).ownBlock) (.slice Ao44 t1080.length co44) t1080) ∧ Aside0 (Kd.R k60 60 wc w.heap.size (fun k_ => some k_ ≠ ((.slice Ao48 t1087.length co48) : Value).ownBlock ∧ some k_ ≠ ((.slice Ao35 t1066.length co35) : Value).ownBlock ∧ some k_ ≠ ((.slice Ao36 t1069.length co36) : Value).ownBlock ∧ some k_ ≠ ((.slice Ao44 t1080.length co44) : Value).ownBlock ∧ some k_ ≠ ((.slice Ao56 t1095.length co56) : Value).ownBlock ∧ some k_ ≠ ((.slice Ao57 t1098.length co57) : Value).ownBlock) (.slice Ao45 t1083.length co45) t1083) ∧ Aside0 (Kd.R k58 58 wc w.heap.size (fun k_ => some k_ ≠ ((.slice Ao34 t1063.length co34) : Value).ownBlock ∧ some k_ ≠ ((.slice Ao43 t1077.length co43) : Value).ownBlock) (.slice Ao55 t1092.length co55) t1092) ∧ Aside0 (Kd.R k60 60 wc w.heap.size (fun k_ => some k_ ≠ ((.slice Ao48 t1087.length co48) : Value).ownBlock ∧ some k_ ≠ ((.slice Ao35 t1066.length co35) : Value).ownBlock ∧ some k_ ≠ ((.slice Ao36 t1069.length co36) : Value).ownBlock ∧ some k_ ≠ ((.slice Ao44 t1080.length co44) : Value).ownBlock ∧ some k_ ≠ ((.slice Ao45 t1083.length co45) : Value).ownBlock ∧ some k_ ≠ ((.slice Ao57 t1098.length co57) : Value).ownBlock) (.slice Ao56 t1095.length co56) t1095) ∧ Aside0 (Kd.R k60 60 wc w.heap.size (fun k_ => some k_ ≠ ((.slice Ao48 t1087.length co48) : Value).ownBlock ∧ some k_ ≠ ((.slice Ao35 t1066.length co35) : Value).ownBlock ∧ some k_ ≠ ((.slice Ao36 t1069.length co36) : Value).ownBlock ∧ some k_ ≠ ((.slice Ao44 t1080.length co44) : Value).ownBlock ∧ some k_ ≠ ((.slice Ao45 t1083.length co45) : Value).ownBlock ∧ some k_ ≠ ((.slice Ao56 t1095.length co56) : Value).ownBlock) (.slice Ao57 t1098.length co57) t1098) ∧ Aside0 (wc.heap[gb1044]? = some (.cells #[.int .i64 a0_0, .int .i64 a0_1, (.slice A0_2 l0_2.length c0_2), (.slice A0_3 l0_3.length c0_3), (.slice A0_4 l0_4.length c0_4)] 27 (0, 0))) ∧ Aside0 (wc.heap[gb1074]? = some (.cells #[.int .i64 t1061, .int .i64 t1062, (.slice Ao34 t1063.length co34), (.slice Ao35 t1066.length co35), (.slice Ao36 t1069.length co36)] 35 (0, 0))) ∧ Aside0 (wc.heap[gb1086]? = some (.cells #[.int .i64 t1075, .int .i64 t1076, (.slice Ao43 t1077.length co43), (.slice Ao44 t1080.length co44), (.slice Ao45 t1083.length co45)] 35 (0, 0))) ∧ Aside0 (wc.heap[gb1103]? = some (.cells #[.int .i64 t1090, .int .i64 t1091, (.slice Ao55 t1092.length co55), (.slice Ao56 t1095.length co56), (.slice Ao57 t1098.length co57)] 35 (0, 0))) ∧ Aside0 (Below w.heap.size w wc))
   case first =>
    have H := HC19.out
    clear HC19
    obtain ⟨t1104, A58, H⟩ := bindq H
    try dsimp only at H
    by_cases c59 : t1104 = true
    ·subst c59
     rw [if_pos rfl] at H
     try dsimp only at H
     by_cases c60 : t1101 = t1072
     ·rw [if_pos c60] at H
      have c60b0 : (t1101 == t1072) = true := beq_iff_eq.mpr c60
      have c60b1 : (t1101 != t1072) = false := bne_eq_false_iff_eq.mpr c60
      clear c60
      (first | rw [c60b0] | (simp only [i64_w, i32_w]; rw [c60b0]) | skip)
      have H' := am H
      clear H
      have hnb61 := NB1103_1044.out
      have hnc61 := NB1044_1103.out
      have hnb62 := NB1103_1074.out
      have hnc62 := NB1074_1103.out
      have hnb63 := NB1103_1086.out
      have hnc63 := NB1086_1103.out
      have ⟨hcz64_0, hcz64_1, hcz64_2, hcz64_3, hcz64_4, hfz64_0, hfz64_1, hfz64_2, hfz64_3, hfz64_4⟩ := bc5 BK1103
      have hnb65 := NB1074_1044.out
      have hnc65 := NB1044_1074.out
      have hnb66 := NB1074_1086.out
      have hnc66 := NB1086_1074.out
      have ⟨hcz67_0, hcz67_1, hcz67_2, hcz67_3, hcz67_4, hfz67_0, hfz67_1, hfz67_2, hfz67_3, hfz67_4⟩ := bc5 BK1074
      go_wp2_with (first | ((with_reducible refine gate_callee (f := 18) rfl ?_); refine goesQ (some 52) Try.func18 #[.agg #[.int .i64 t1090, .int .i64 t1091, .slice Ao55 t1092.length co55, .slice Ao56 t1095.length co56, .slice Ao57 t1098.length co57], .agg #[.int .i64 t1061, .int .i64 t1062, .slice Ao34 t1063.length co34, .slice Ao35 t1066.length co35, .slice Ao36 t1069.length co36]] ?_; (with_reducible refine (laws_eqSession.calls k t1090 t1091 _ _ t1092 _ _ t1095 _ _ t1098 t1061 t1062 _ _ t1063 _ _ t1066 _ _ t1069 true _ ?s1 ?s2 ?s3 ?s4 ?s5 ?s6 ?s7 ?s8 ?s9 ?s10 ?s11 ?s12 A58.out).mono ?_); (case s1 => exact cf HO1094 BK1103); (case s2 => exact rq1 HO1094); (case s3 => exact cf HO1097 BK1103); (case s4 => exact rq1 HO1097); (case s5 => exact cf HO1100 BK1103); (case s6 => exact rq1 HO1100); (case s7 => exact cf HO1065 BK1103); (case s8 => exact rq1 HO1065); (case s9 => exact cf HO1068 BK1103); (case s10 => exact rq1 HO1068); (case s11 => exact cf HO1071 BK1103); (case s12 => exact rq1 HO1071); rintro e w68 ⟨rfl, hb⟩; refine ⟨_, rfl, ?_⟩; replace HO1065 := am (Kd.R_below (fq HO1065 BK1103) hb); replace HO1068 := am (Kd.R_below (fq HO1068 BK1103) hb); replace HO1071 := am (Kd.R_below (fq HO1071 BK1103) hb); replace HO1079 := am (Kd.R_below (fq HO1079 BK1103) hb); replace HO1082 := am (Kd.R_below (fq HO1082 BK1103) hb); replace HO1085 := am (Kd.R_below (fq HO1085 BK1103) hb); replace HO1089 := am (Kd.R_below (fq HO1089 BK1103) hb); replace HO1094 := am (Kd.R_below (fq HO1094 BK1103) hb); replace HO1097 := am (Kd.R_below (fq HO1097 BK1103) hb); replace HO1100 := am (Kd.R_below (fq HO1100 BK1103) hb); replace BK1044 := am (blk_below (g := gb1044) (o := .cells #[.int .i64 a0_0, .int .i64 a0_1, .slice A0_2 l0_2.length c0_2, .slice A0_3 l0_3.length c0_3, .slice A0_4 l0_4.length c0_4] 27 (0, 0)) (zp BK1044) hb); replace BK1074 := am (blk_below (g := gb1074) (o := .cells #[.int .i64 t1061, .int .i64 t1062, .slice Ao34 t1063.length co34, .slice Ao35 t1066.length co35, .slice Ao36 t1069.length co36] 35 (0, 0)) (zp BK1074) hb); replace BK1086 := am (blk_below (g := gb1086) (o := .cells #[.int .i64 t1075, .int .i64 t1076, .slice Ao43 t1077.length co43, .slice Ao44 t1080.length co44, .slice Ao45 t1083.length co45] 35 (0, 0)) (zp BK1086) hb); replace BK1103 := am (blk_below (g := gb1103) (o := .cells #[.int .i64 t1090, .int .i64 t1091, .slice Ao55 t1092.length co55, .slice Ao56 t1095.length co56, .slice Ao57 t1098.length co57] 35 (0, 0)) (zp BK1103) hb); replace HB := sb hb; (try clear hb)))
      go_meet
      case rel => exact ⟨_, ((t1102 != t1073)), sq, H', ⟨by first | omega | exact Nat.le_refl _⟩, ⟨rm HO1089⟩, ⟨rm HO1065⟩, ⟨rm HO1068⟩, ⟨rm HO1071⟩, ⟨rm HO1079⟩, ⟨rm HO1082⟩, ⟨rm HO1085⟩, ⟨rm HO1094⟩, ⟨rm HO1097⟩, ⟨rm HO1100⟩, ⟨zq BK1044⟩, ⟨zq BK1074⟩, ⟨zq BK1086⟩, ⟨zq BK1103⟩, ⟨bq⟩⟩
     ·rw [if_neg c60] at H
      have c60b0 : (t1101 == t1072) = false := beq_eq_false_iff_ne.mpr c60
      have c60b1 : (t1101 != t1072) = true := bne_iff_ne.mpr c60
      (first | rw [c60b0] | (simp only [i64_w, i32_w]; rw [c60b0]) | skip)
      have H' := am H
      clear H
      have hnb69 := NB1103_1044.out
      have hnc69 := NB1044_1103.out
      have hnb70 := NB1103_1074.out
      have hnc70 := NB1074_1103.out
      have hnb71 := NB1103_1086.out
      have hnc71 := NB1086_1103.out
      have ⟨hcz72_0, hcz72_1, hcz72_2, hcz72_3, hcz72_4, hfz72_0, hfz72_1, hfz72_2, hfz72_3, hfz72_4⟩ := bc5 BK1103
      have hnb73 := NB1074_1044.out
      have hnc73 := NB1044_1074.out
      have hnb74 := NB1074_1086.out
      have hnc74 := NB1086_1074.out
      have ⟨hcz75_0, hcz75_1, hcz75_2, hcz75_3, hcz75_4, hfz75_0, hfz75_1, hfz75_2, hfz75_3, hfz75_4⟩ := bc5 BK1074
      go_wp2_with (first | ((with_reducible refine gate_callee (f := 18) rfl ?_); refine goesQ (some 52) Try.func18 #[.agg #[.int .i64 t1090, .int .i64 t1091, .slice Ao55 t1092.length co55, .slice Ao56 t1095.length co56, .slice Ao57 t1098.length co57], .agg #[.int .i64 t1061, .int .i64 t1062, .slice Ao34 t1063.length co34, .slice Ao35 t1066.length co35, .slice Ao36 t1069.length co36]] ?_; (with_reducible refine (laws_eqSession.calls k t1090 t1091 _ _ t1092 _ _ t1095 _ _ t1098 t1061 t1062 _ _ t1063 _ _ t1066 _ _ t1069 true _ ?s1 ?s2 ?s3 ?s4 ?s5 ?s6 ?s7 ?s8 ?s9 ?s10 ?s11 ?s12 A58.out).mono ?_); (case s1 => exact cf HO1094 BK1103); (case s2 => exact rq1 HO1094); (case s3 => exact cf HO1097 BK1103); (case s4 => exact rq1 HO1097); (case s5 => exact cf HO1100 BK1103); (case s6 => exact rq1 HO1100); (case s7 => exact cf HO1065 BK1103); (case s8 => exact rq1 HO1065); (case s9 => exact cf HO1068 BK1103); (case s10 => exact rq1 HO1068); (case s11 => exact cf HO1071 BK1103); (case s12 => exact rq1 HO1071); rintro e w76 ⟨rfl, hb⟩; refine ⟨_, rfl, ?_⟩; replace HO1065 := am (Kd.R_below (fq HO1065 BK1103) hb); replace HO1068 := am (Kd.R_below (fq HO1068 BK1103) hb); replace HO1071 := am (Kd.R_below (fq HO1071 BK1103) hb); replace HO1079 := am (Kd.R_below (fq HO1079 BK1103) hb); replace HO1082 := am (Kd.R_below (fq HO1082 BK1103) hb); replace HO1085 := am (Kd.R_below (fq HO1085 BK1103) hb); replace HO1089 := am (Kd.R_below (fq HO1089 BK1103) hb); replace HO1094 := am (Kd.R_below (fq HO1094 BK1103) hb); replace HO1097 := am (Kd.R_below (fq HO1097 BK1103) hb); replace HO1100 := am (Kd.R_below (fq HO1100 BK1103) hb); replace BK1044 := am (blk_below (g := gb1044) (o := .cells #[.int .i64 a0_0, .int .i64 a0_1, .slice A0_2 l0_2.length c0_2, .slice A0_3 l0_3.length c0_3, .slice A0_4 l0_4.length c0_4] 27 (0, 0)) (zp BK1044) hb); replace BK1074 := am (blk_below (g := gb1074) (o := .cells #[.int .i64 t1061, .int .i64 t1062, .slice Ao34 t1063.length co34, .slice Ao35 t1066.length co35, .slice Ao36 t1069.length co36] 35 (0, 0)) (zp BK1074) hb); replace BK1086 := am (blk_below (g := gb1086) (o := .cells #[.int .i64 t1075, .int .i64 t1076, .slice Ao43 t1077.length co43, .slice Ao44 t1080.length co44, .slice Ao45 t1083.length co45] 35 (0, 0)) (zp BK1086) hb); replace BK1103 := am (blk_below (g := gb1103) (o := .cells #[.int .i64 t1090, .int .i64 t1091, .slice Ao55 t1092.length co55, .slice Ao56 t1095.length co56, .slice Ao57 t1098.length co57] 35 (0, 0)) (zp BK1103) hb); replace HB := sb hb; (try clear hb)))
      go_meet
      case rel => exact ⟨_, (true), sq, H', ⟨by first | omega | exact Nat.le_refl _⟩, ⟨rm HO1089⟩, ⟨rm HO1065⟩, ⟨rm HO1068⟩, ⟨rm HO1071⟩, ⟨rm HO1079⟩, ⟨rm HO1082⟩, ⟨rm HO1085⟩, ⟨rm HO1094⟩, ⟨rm HO1097⟩, ⟨rm HO1100⟩, ⟨zq BK1044⟩, ⟨zq BK1074⟩, ⟨zq BK1086⟩, ⟨zq BK1103⟩, ⟨bq⟩⟩
    ·replace c59 := Bool.eq_false_iff.mpr c59
     subst c59
     rw [if_neg (show ¬ (false = true) by decide)] at H
     try dsimp only at H
     have H' := am H
     clear H
     have hnb77 := NB1103_1044.out
     have hnc77 := NB1044_1103.out
     have hnb78 := NB1103_1074.out
     have hnc78 := NB1074_1103.out
     have hnb79 := NB1103_1086.out
     have hnc79 := NB1086_1103.out
     have ⟨hcz80_0, hcz80_1, hcz80_2, hcz80_3, hcz80_4, hfz80_0, hfz80_1, hfz80_2, hfz80_3, hfz80_4⟩ := bc5 BK1103
     have hnb81 := NB1074_1044.out
     have hnc81 := NB1044_1074.out
     have hnb82 := NB1074_1086.out
     have hnc82 := NB1086_1074.out
     have ⟨hcz83_0, hcz83_1, hcz83_2, hcz83_3, hcz83_4, hfz83_0, hfz83_1, hfz83_2, hfz83_3, hfz83_4⟩ := bc5 BK1074
     go_wp2_with (first | ((with_reducible refine gate_callee (f := 18) rfl ?_); refine goesQ (some 52) Try.func18 #[.agg #[.int .i64 t1090, .int .i64 t1091, .slice Ao55 t1092.length co55, .slice Ao56 t1095.length co56, .slice Ao57 t1098.length co57], .agg #[.int .i64 t1061, .int .i64 t1062, .slice Ao34 t1063.length co34, .slice Ao35 t1066.length co35, .slice Ao36 t1069.length co36]] ?_; (with_reducible refine (laws_eqSession.calls k t1090 t1091 _ _ t1092 _ _ t1095 _ _ t1098 t1061 t1062 _ _ t1063 _ _ t1066 _ _ t1069 false _ ?s1 ?s2 ?s3 ?s4 ?s5 ?s6 ?s7 ?s8 ?s9 ?s10 ?s11 ?s12 A58.out).mono ?_); (case s1 => exact cf HO1094 BK1103); (case s2 => exact rq1 HO1094); (case s3 => exact cf HO1097 BK1103); (case s4 => exact rq1 HO1097); (case s5 => exact cf HO1100 BK1103); (case s6 => exact rq1 HO1100); (case s7 => exact cf HO1065 BK1103); (case s8 => exact rq1 HO1065); (case s9 => exact cf HO1068 BK1103); (case s10 => exact rq1 HO1068); (case s11 => exact cf HO1071 BK1103); (case s12 => exact rq1 HO1071); rintro e w84 ⟨rfl, hb⟩; refine ⟨_, rfl, ?_⟩; replace HO1065 := am (Kd.R_below (fq HO1065 BK1103) hb); replace HO1068 := am (Kd.R_below (fq HO1068 BK1103) hb); replace HO1071 := am (Kd.R_below (fq HO1071 BK1103) hb); replace HO1079 := am (Kd.R_below (fq HO1079 BK1103) hb); replace HO1082 := am (Kd.R_below (fq HO1082 BK1103) hb); replace HO1085 := am (Kd.R_below (fq HO1085 BK1103) hb); replace HO1089 := am (Kd.R_below (fq HO1089 BK1103) hb); replace HO1094 := am (Kd.R_below (fq HO1094 BK1103) hb); replace HO1097 := am (Kd.R_below (fq HO1097 BK1103) hb); replace HO1100 := am (Kd.R_below (fq HO1100 BK1103) hb); replace BK1044 := am (blk_below (g := gb1044) (o := .cells #[.int .i64 a0_0, .int .i64 a0_1, .slice A0_2 l0_2.length c0_2, .slice A0_3 l0_3.length c0_3, .slice A0_4 l0_4.length c0_4] 27 (0, 0)) (zp BK1044) hb); replace BK1074 := am (blk_below (g := gb1074) (o := .cells #[.int .i64 t1061, .int .i64 t1062, .slice Ao34 t1063.length co34, .slice Ao35 t1066.length co35, .slice Ao36 t1069.length co36] 35 (0, 0)) (zp BK1074) hb); replace BK1086 := am (blk_below (g := gb1086) (o := .cells #[.int .i64 t1075, .int .i64 t1076, .slice Ao43 t1077.length co43, .slice Ao44 t1080.length co44, .slice Ao45 t1083.length co45] 35 (0, 0)) (zp BK1086) hb); replace BK1103 := am (blk_below (g := gb1103) (o := .cells #[.int .i64 t1090, .int .i64 t1091, .slice Ao55 t1092.length co55, .slice Ao56 t1095.length co56, .slice Ao57 t1098.length co57] 35 (0, 0)) (zp BK1103) hb); replace HB := sb hb; (try clear hb)))
     go_meet
     case rel => exact ⟨_, (true), sq, H', ⟨by first | omega | exact Nat.le_refl _⟩, ⟨rm HO1089⟩, ⟨rm HO1065⟩, ⟨rm HO1068⟩, ⟨rm HO1071⟩, ⟨rm HO1079⟩, ⟨rm HO1082⟩, ⟨rm HO1085⟩, ⟨rm HO1094⟩, ⟨rm HO1097⟩, ⟨rm HO1100⟩, ⟨zq BK1044⟩, ⟨zq BK1074⟩, ⟨zq BK1086⟩, ⟨zq BK1103⟩, ⟨bq⟩⟩
   case rest =>
    clear HC19
    try clear c4b0
    try clear c9b0
    try clear c59
    try clear c60b0
    try clear c60b1
    try clear hcz11_0 hcz11_1 hcz11_2 hcz11_3 hcz11_4 hfz11_0 hfz11_1 hfz11_2 hfz11_3 hfz11_4
    try clear hcz21_0 hcz21_1 hcz21_2 hcz21_3 hcz21_4 hfz21_0 hfz21_1 hfz21_2 hfz21_3 hfz21_4
    try clear hcz23_0 hcz23_1 hcz23_2 hcz23_3 hcz23_4 hfz23_0 hfz23_1 hfz23_2 hfz23_3 hfz23_4
    try clear hcz33_0 hcz33_1 hcz33_2 hcz33_3 hcz33_4 hfz33_0 hfz33_1 hfz33_2 hfz33_3 hfz33_4
    try clear hcz37_0 hcz37_1 hcz37_2 hcz37_3 hcz37_4 hfz37_0 hfz37_1 hfz37_2 hfz37_3 hfz37_4
    try clear hcz42_0 hcz42_1 hcz42_2 hcz42_3 hcz42_4 hfz42_0 hfz42_1 hfz42_2 hfz42_3 hfz42_4
    try clear hcz47_0 hcz47_1 hcz47_2 hcz47_3 hcz47_4 hfz47_0 hfz47_1 hfz47_2 hfz47_3 hfz47_4
    try clear hcz54_0 hcz54_1 hcz54_2 hcz54_3 hcz54_4 hfz54_0 hfz54_1 hfz54_2 hfz54_3 hfz54_4
    try clear hcz64_0 hcz64_1 hcz64_2 hcz64_3 hcz64_4 hfz64_0 hfz64_1 hfz64_2 hfz64_3 hfz64_4
    try clear hcz67_0 hcz67_1 hcz67_2 hcz67_3 hcz67_4 hfz67_0 hfz67_1 hfz67_2 hfz67_3 hfz67_4
    try clear hcz6_0 hcz6_1 hcz6_2 hcz6_3 hcz6_4 hfz6_0 hfz6_1 hfz6_2 hfz6_3 hfz6_4
    try clear hcz72_0 hcz72_1 hcz72_2 hcz72_3 hcz72_4 hfz72_0 hfz72_1 hfz72_2 hfz72_3 hfz72_4
    try clear hcz75_0 hcz75_1 hcz75_2 hcz75_3 hcz75_4 hfz75_0 hfz75_1 hfz75_2 hfz75_3 hfz75_4
    try clear hcz80_0 hcz80_1 hcz80_2 hcz80_3 hcz80_4 hfz80_0 hfz80_1 hfz80_2 hfz80_3 hfz80_4
    try clear hcz83_0 hcz83_1 hcz83_2 hcz83_3 hcz83_4 hfz83_0 hfz83_1 hfz83_2 hfz83_3 hfz83_4
    obtain ⟨kq, x63_18, rfl, HA, HJ18, HO_10, HO_1075002, HO_1075003, HO_1075004, HO_1087002, HO_1087003, HO_1087004, HO_1104002, HO_1104003, HO_1104004, BK1044, BK1074, BK1086, BK1103, HB⟩ := hcut
    cases kq with
    | zero => exact absurd HA.out (by simp [laws_FnExactRunSession.j0])
    | succ kj18 =>
     have H := HA.out
     clear HA
     simp only [laws_FnExactRunSession.j0] at H
     by_cases c85 : x63_18 = true
     ·subst c85
      rw [if_pos rfl] at H
      try dsimp only at H
      obtain rfl := Option.some.inj H
      go_wp2
      go_ret
      exact ⟨eq_, bq⟩
     ·replace c85 := Bool.eq_false_iff.mpr c85
      subst c85
      rw [if_neg (show ¬ (false = true) by decide)] at H
      try dsimp only at H
      obtain ⟨⟨t1105, t1106, t1107, t1110, t1113⟩, A86, H⟩ := bindq H
      try dsimp only at H
      obtain ⟨t1116, A87, H⟩ := bindq H
      try dsimp only at H
      by_cases c88 : t1116 = true
      ·subst c88
       rw [if_pos rfl] at H
       try dsimp only at H
       obtain ⟨t1117, A89, H⟩ := bindq H
       try dsimp only at H
       obtain ⟨t1120, A90, H⟩ := bindq H
       try dsimp only at H
       by_cases c91 : t1120 = true
       ·subst c91
        rw [if_pos rfl] at H
        try dsimp only at H
        obtain ⟨⟨t1121, t1122, t1123, t1124⟩, A92, H⟩ := bindq H
        try dsimp only at H
        obtain ⟨⟨t1125, t1126⟩, A93, H⟩ := bindq H
        try dsimp only at H
        have HC94 := am H
        clear H
        try go_wp2
        replace HO_10 := am (Kd.R_drew HO_10.out)
        replace HO_1075002 := am (Kd.R_drew HO_1075002.out)
        replace HO_1075003 := am (Kd.R_drew HO_1075003.out)
        replace HO_1075004 := am (Kd.R_drew HO_1075004.out)
        replace HO_1087002 := am (Kd.R_drew HO_1087002.out)
        replace HO_1087003 := am (Kd.R_drew HO_1087003.out)
        replace HO_1087004 := am (Kd.R_drew HO_1087004.out)
        replace HO_1104002 := am (Kd.R_drew HO_1104002.out)
        replace HO_1104003 := am (Kd.R_drew HO_1104003.out)
        replace HO_1104004 := am (Kd.R_drew HO_1104004.out)
        replace BK1044 := am (blk_drew BK1044.out)
        replace BK1074 := am (blk_drew BK1074.out)
        replace BK1086 := am (blk_drew BK1086.out)
        replace BK1103 := am (blk_drew BK1103.out)
        replace HB := am (below_drew1 HB.out)
        refine start_ (n := 5) (S := fun w' => w'.cell? ⟨gb1086, 0, none⟩ = some (.int .i64 t1075) ∧ w'.cell? ⟨gb1086, 1, none⟩ = some (.int .i64 t1076) ∧ w'.cell? ⟨gb1086, 2, none⟩ = some (.slice Ao43 t1077.length co43) ∧ w'.cell? ⟨gb1086, 3, none⟩ = some (.slice Ao44 t1080.length co44) ∧ w'.cell? ⟨gb1086, 4, none⟩ = some (.slice Ao45 t1083.length co45) ∧ w'.cell? ⟨gb1044, 0, none⟩ = some (.int .i64 a0_0) ∧ w'.cell? ⟨gb1044, 1, none⟩ = some (.int .i64 a0_1) ∧ w'.cell? ⟨gb1044, 2, none⟩ = some (.slice A0_2 l0_2.length c0_2) ∧ w'.cell? ⟨gb1044, 3, none⟩ = some (.slice A0_3 l0_3.length c0_3) ∧ w'.cell? ⟨gb1044, 4, none⟩ = some (.slice A0_4 l0_4.length c0_4)) (ds := []) #[false, false, false, false, false] (by kernel_rfl) rfl rfl cl (fun hHeld => ?_)
        generalize wc.drew = w95 at HO_10 HO_1075002 HO_1075003 HO_1075004 HO_1087002 HO_1087003 HO_1087004 HO_1104002 HO_1104003 HO_1104004 BK1044 BK1074 BK1086 BK1103 HB hHeld ⊢
        refine take_ (i := 0) (N := some 64) (v := ?_) (a' := ?_) #[true, false, false, false, false] rfl rfl (by kernel_rfl) (fun _ _ _ h => h) (Or.inl ⟨by rfl, ?_⟩) hHeld ?_ ?_
        rotate_left
        ·rintro w' ⟨s0, s1, s2, s3, s4, s5, s6, s7, s8, s9⟩
         go_simp
         with_reducible rfl
        rotate_left
        ·simp only [Act.put, List.setIfInBounds_toArray, List.set_cons_zero, List.set_cons_succ, i64_w, i32_w]
         rfl
        refine take_ (i := 1) (N := some 65) (v := ?_) (a' := ?_) #[true, true, false, false, false] rfl rfl (by kernel_rfl) (fun _ _ _ h => h) (Or.inl ⟨by rfl, ?_⟩) hHeld ?_ ?_
        rotate_left
        ·rintro w' ⟨s0, s1, s2, s3, s4, s5, s6, s7, s8, s9⟩
         go_simp
         with_reducible rfl
        rotate_left
        ·simp only [Act.put, List.setIfInBounds_toArray, List.set_cons_zero, List.set_cons_succ, i64_w, i32_w]
         rfl
        refine one_ (i := 2) (N := some 66) #[true, true, true, false, false] rfl rfl (by kernel_rfl) (by decide) (fun K hK => ?_)
        refine goes_ Try.func16 (by kernel_rfl) rfl #[.agg #[.int .i64 a0_0, .int .i64 a0_1, .slice A0_2 l0_2.length c0_2, .slice A0_3 l0_3.length c0_3, .slice A0_4 l0_4.length c0_4]] (by rfl) rfl rfl mq ?_
        with_reducible refine (laws_toSession.calls kj18 a0_0 a0_1 _ _ l0_2 _ _ l0_3 _ _ l0_4 t1105 t1106 t1107 t1110 t1113 _ ?s1 ?s2 ?s3 ?s4 ?s5 ?s6 A86.out).mono ?_
        (case s1 => exact cq (Kd.C_below HR0_2.out HB.out))
        (case s2 => exact HC0_2.out)
        (case s3 => exact cq (Kd.C_below HR0_3.out HB.out))
        (case s4 => exact HC0_3.out)
        (case s5 => exact cq (Kd.C_below HR0_4.out HB.out))
        (case s6 => exact HC0_4.out)
        rintro e w96 ⟨v1108, v1111, v1114, rfl, ho0, ho1, ho2, hb⟩
        refine ⟨_, rfl, ?_⟩
        have HO1109 := rl (Kd.R_new' (Kd.R_new' (Kd.R_new' ho0 (lw HO_1075002)) (lw HO_1087002)) (lw HO_1104002))
        replace HO_1075002 := am (Kd.R_elder' (rq HO_1075002) (Kd.R_base ho0) hb)
        replace HO_1087002 := am (Kd.R_elder' (rq HO_1087002) (Kd.R_base ho0) hb)
        replace HO_1104002 := am (Kd.R_elder' (rq HO_1104002) (Kd.R_base ho0) hb)
        have HO1112 := rl (Kd.R_new' (Kd.R_new' (Kd.R_new' (Kd.R_new' (Kd.R_new' (Kd.R_new' (Kd.R_new' ho1 (lw HO_10)) (lw HO_1075003)) (lw HO_1075004)) (lw HO_1087003)) (lw HO_1087004)) (lw HO_1104003)) (lw HO_1104004))
        have HO1115 := rl (Kd.R_new' (Kd.R_new' (Kd.R_new' (Kd.R_new' (Kd.R_new' (Kd.R_new' (Kd.R_new' ho2 (lw HO_10)) (lw HO_1075003)) (lw HO_1075004)) (lw HO_1087003)) (lw HO_1087004)) (lw HO_1104003)) (lw HO_1104004))
        replace HO_10 := tq2 (rq HO_10) hb ho1 ho2
        replace HO_1075003 := tq2 (rq HO_1075003) hb ho1 ho2
        replace HO_1075004 := tq2 (rq HO_1075004) hb ho1 ho2
        replace HO_1087003 := tq2 (rq HO_1087003) hb ho1 ho2
        replace HO_1087004 := tq2 (rq HO_1087004) hb ho1 ho2
        replace HO_1104003 := tq2 (rq HO_1104003) hb ho1 ho2
        replace HO_1104004 := tq2 (rq HO_1104004) hb ho1 ho2
        replace BK1044 := zb BK1044 hb
        replace BK1074 := zb BK1074 hb
        replace BK1086 := zb BK1086 hb
        replace BK1103 := zb BK1103 hb
        replace HB := sb hb
        (try clear hb ho0 ho1 ho2)
        obtain ⟨Ao97, co97, eo97⟩ := Kd.R_slice HO1109.out
        (first | subst eo97 | (injection eo97 with f1_ f2_ f3_; have f4_ := f1_.symm; have f5_ := f3_.symm; clear f1_ f2_ f3_; subst f4_; subst f5_))
        obtain ⟨Ao98, co98, eo98⟩ := Kd.R_slice HO1112.out
        (first | subst eo98 | (injection eo98 with f1_ f2_ f3_; have f4_ := f1_.symm; have f5_ := f3_.symm; clear f1_ f2_ f3_; subst f4_; subst f5_))
        obtain ⟨Ao99, co99, eo99⟩ := Kd.R_slice HO1115.out
        (first | subst eo99 | (injection eo99 with f1_ f2_ f3_; have f4_ := f1_.symm; have f5_ := f3_.symm; clear f1_ f2_ f3_; subst f4_; subst f5_))
        refine hK.out _ _ cl (fun hHeld => ?_)
        clear hK K
        refine norm_ (a' := ?_) ?_ ?_
        rotate_left
        ·show Act.put _ (some 66) _ = _
         simp only [Act.put, List.setIfInBounds_toArray, List.set_cons_zero, List.set_cons_succ, i64_w, i32_w]
         rfl
        refine one_ (i := 3) (N := some 67) #[true, true, true, true, false] rfl rfl (by kernel_rfl) (by decide) (fun K hK => ?_)
        refine goes_ Try.func18 (by kernel_rfl) rfl #[.agg #[.int .i64 t1075, .int .i64 t1076, .slice Ao43 t1077.length co43, .slice Ao44 t1080.length co44, .slice Ao45 t1083.length co45], .agg #[.int .i64 t1105, .int .i64 t1106, .slice Ao97 t1107.length co97, .slice Ao98 t1110.length co98, .slice Ao99 t1113.length co99]] (by rfl) rfl rfl mq ?_
        with_reducible refine (laws_eqSession.calls kj18 t1075 t1076 _ _ t1077 _ _ t1080 _ _ t1083 t1105 t1106 _ _ t1107 _ _ t1110 _ _ t1113 true _ ?s1 ?s2 ?s3 ?s4 ?s5 ?s6 ?s7 ?s8 ?s9 ?s10 ?s11 ?s12 A87.out).mono ?_
        (case s1 => exact cr HO_1087002)
        (case s2 => exact rq1 HO_1087002)
        (case s3 => exact cr HO_1087003)
        (case s4 => exact rq1 HO_1087003)
        (case s5 => exact cr HO_1087004)
        (case s6 => exact rq1 HO_1087004)
        (case s7 => exact cr HO1109)
        (case s8 => exact rq1 HO1109)
        (case s9 => exact cr HO1112)
        (case s10 => exact rq1 HO1112)
        (case s11 => exact cr HO1115)
        (case s12 => exact rq1 HO1115)
        rintro e w100 ⟨rfl, hb⟩
        refine ⟨_, rfl, ?_⟩
        replace HO_10 := rb HO_10 hb
        replace HO_1075002 := rb HO_1075002 hb
        replace HO_1075003 := rb HO_1075003 hb
        replace HO_1075004 := rb HO_1075004 hb
        replace HO_1087002 := rb HO_1087002 hb
        replace HO_1087003 := rb HO_1087003 hb
        replace HO_1087004 := rb HO_1087004 hb
        replace HO_1104002 := rb HO_1104002 hb
        replace HO_1104003 := rb HO_1104003 hb
        replace HO_1104004 := rb HO_1104004 hb
        replace HO1109 := rb HO1109 hb
        replace HO1112 := rb HO1112 hb
        replace HO1115 := rb HO1115 hb
        replace BK1044 := zb BK1044 hb
        replace BK1074 := zb BK1074 hb
        replace BK1086 := zb BK1086 hb
        replace BK1103 := zb BK1103 hb
        replace HB := sb hb
        (try clear hb)
        refine hK.out _ _ cl (fun hHeld => ?_)
        clear hK K
        refine norm_ (a' := ?_) ?_ ?_
        rotate_left
        ·show Act.put _ (some 67) _ = _
         simp only [Act.put, List.setIfInBounds_toArray, List.set_cons_zero, List.set_cons_succ, i64_w, i32_w]
         rfl
        refine pure_ (i := 4) (N := some 68) (v := ?_) (a' := ?_) #[true, true, true, true, true] rfl rfl (by kernel_rfl) (fun _ _ _ h => h) (Or.inl ⟨by rfl, ?_⟩) ?_ ?_
        rotate_left
        ·intro w'
         go_simp
         with_reducible rfl
        rotate_left
        ·simp only [Act.put, List.setIfInBounds_toArray, List.set_cons_zero, List.set_cons_succ, i64_w, i32_w]
         rfl
        refine done_ (by kernel_rfl) ?_
        go_upto_region 21 with (first | ((with_reducible refine gate_callee (f := 41) rfl ?_); refine goesQ (some 71) Try.func41 #[.slice A1 l1.length c1] ?_; (with_reducible refine (laws_toSessionActS.calls kj18 _ _ l1 t1117 _ ?s1 ?s2 A89.out).mono ?_); (case s1 => exact cq (Kd.C_below HR1.out HB.out)); (case s2 => exact HC1.out); rintro e w101 ⟨v1118, rfl, ho0, hb⟩; refine ⟨_, rfl, ?_⟩; replace HO_1075002 := rb HO_1075002 hb; replace HO_1087002 := rb HO_1087002 hb; replace HO_1104002 := rb HO_1104002 hb; replace HO1109 := rb HO1109 hb; have HO1119 := rl (Kd.R_new' (Kd.R_new' (Kd.R_new' (Kd.R_new' (Kd.R_new' (Kd.R_new' (Kd.R_new' (Kd.R_new' (Kd.R_new' ho0 (lw HO_10)) (lw HO_1075003)) (lw HO_1075004)) (lw HO_1087003)) (lw HO_1087004)) (lw HO_1104003)) (lw HO_1104004)) (lw HO1112)) (lw HO1115)); replace HO_10 := am (Kd.R_elder' (rq HO_10) (Kd.R_base ho0) hb); replace HO_1075003 := am (Kd.R_elder' (rq HO_1075003) (Kd.R_base ho0) hb); replace HO_1075004 := am (Kd.R_elder' (rq HO_1075004) (Kd.R_base ho0) hb); replace HO_1087003 := am (Kd.R_elder' (rq HO_1087003) (Kd.R_base ho0) hb); replace HO_1087004 := am (Kd.R_elder' (rq HO_1087004) (Kd.R_base ho0) hb); replace HO_1104003 := am (Kd.R_elder' (rq HO_1104003) (Kd.R_base ho0) hb); replace HO_1104004 := am (Kd.R_elder' (rq HO_1104004) (Kd.R_base ho0) hb); replace HO1112 := am (Kd.R_elder' (rq HO1112) (Kd.R_base ho0) hb); replace HO1115 := am (Kd.R_elder' (rq HO1115) (Kd.R_base ho0) hb); replace BK1044 := zb BK1044 hb; replace BK1074 := zb BK1074 hb; replace BK1086 := zb BK1086 hb; replace BK1103 := zb BK1103 hb; replace HB := sb hb; (try clear hb ho0); obtain ⟨Ao102, co102, eo102⟩ := Kd.R_slice HO1119.out; subst eo102) | ((with_reducible refine gate_callee (f := 43) rfl ?_); refine goesQ (some 72) Try.func43 #[.slice Ao48 t1087.length co48, .slice Ao102 t1117.length co102] ?_; (with_reducible refine (laws_eqSessionActS.calls kj18 _ _ t1087 _ _ t1117 true _ ?s1 ?s2 ?s3 ?s4 A90.out).mono ?_); (case s1 => exact cr HO_10); (case s2 => exact rq1 HO_10); (case s3 => exact cr HO1119); (case s4 => exact rq1 HO1119); rintro e w103 ⟨rfl, hb⟩; refine ⟨_, rfl, ?_⟩; replace HO_10 := rb HO_10 hb; replace HO_1075002 := rb HO_1075002 hb; replace HO_1075003 := rb HO_1075003 hb; replace HO_1075004 := rb HO_1075004 hb; replace HO_1087002 := rb HO_1087002 hb; replace HO_1087003 := rb HO_1087003 hb; replace HO_1087004 := rb HO_1087004 hb; replace HO_1104002 := rb HO_1104002 hb; replace HO_1104003 := rb HO_1104003 hb; replace HO_1104004 := rb HO_1104004 hb; replace HO1109 := rb HO1109 hb; replace HO1112 := rb HO1112 hb; replace HO1115 := rb HO1115 hb; replace HO1119 := rb HO1119 hb; replace BK1044 := zb BK1044 hb; replace BK1074 := zb BK1074 hb; replace BK1086 := zb BK1086 hb; replace BK1103 := zb BK1103 hb; replace HB := sb hb; (try clear hb); have hnb104 := NB1086_1044.out; have hnc104 := NB1044_1086.out; have hnb105 := NB1086_1074.out; have hnc105 := NB1074_1086.out; have hnb106 := NB1086_1103.out; have hnc106 := NB1103_1086.out; have ⟨hcz107_0, hcz107_1, hcz107_2, hcz107_3, hcz107_4, hfz107_0, hfz107_1, hfz107_2, hfz107_3, hfz107_4⟩ := bc5 BK1086) | ((with_reducible refine gate_callee (f := 25) rfl ?_); refine goesQ (some 76) Try.func25 #[.agg #[.int .i64 t1075, .int .i64 t1076, .slice Ao43 t1077.length co43, .slice Ao44 t1080.length co44, .slice Ao45 t1083.length co45], .int .i64 1] ?_; (with_reducible refine (laws_markSession.calls kj18 t1075 t1076 (fun k_ => some k_ = (.slice Ao43 t1077.length co43 : Value).ownBlock) (.slice Ao43 t1077.length co43) t1077 (fun k_ => some k_ = (.slice Ao44 t1080.length co44 : Value).ownBlock) (.slice Ao44 t1080.length co44) t1080 (fun k_ => some k_ = (.slice Ao45 t1083.length co45 : Value).ownBlock) (.slice Ao45 t1083.length co45) t1083 1 t1121 t1122 t1123 t1124 w _ ?s1 ?s2 ?s3 ?s4 ?s5 ?s6 A92.out).mono ?_); (case s1 => repeat (first | (with_reducible first | exact HB.out | apply below_alloc | apply pw_below_drewN | apply below_drew1 | refine below_set ?_ GE1044.out | refine below_set ?_ GE1074.out | refine below_set ?_ GE1086.out | refine below_set ?_ GE1103.out) | exact HB.out)); (case s2 => exact Kd.R_tight rfl HO_1087002.out); (case s3 => exact Kd.R_tight rfl HO_1087003.out); (case s4 => exact fun k_ e_ => (HO_1087003.out.1 k_ e_.symm).1.1.1.2.2.2.1); (case s5 => exact Kd.R_tight rfl HO_1087004.out); (case s6 => exact fun k_ e_ => (HO_1087004.out.1 k_ e_.symm).1.1.1.2.2.2.1); rintro e w108 ⟨rfl, hy0, hy1, hy2, hb, hkp⟩; refine ⟨_, rfl, ?_⟩; replace HO_10 := am (Kd.R_mono (ok' := fun k_ => some k_ ≠ (.slice Ao35 t1066.length co35 : Value).ownBlock ∧ some k_ ≠ (.slice Ao36 t1069.length co36 : Value).ownBlock ∧ some k_ ≠ (.slice Ao44 t1080.length co44 : Value).ownBlock ∧ some k_ ≠ (.slice Ao45 t1083.length co45 : Value).ownBlock ∧ some k_ ≠ (.slice Ao56 t1095.length co56 : Value).ownBlock ∧ some k_ ≠ (.slice Ao57 t1098.length co57 : Value).ownBlock ∧ some k_ ≠ (.slice Ao98 t1110.length co98 : Value).ownBlock ∧ some k_ ≠ (.slice Ao99 t1113.length co99 : Value).ownBlock ∧ some k_ ≠ (.slice Ao102 t1117.length co102 : Value).ownBlock) (Kd.R_keptB ((Kd.R_apart' HO_10.out (Kd.R_typed HO_1087002.out) (by decide))) hkp (fun k_ hk_ hs_ => Or.elim hs_ (fun e_ => (hk_.2) e_) (fun e_ => Or.elim e_ (fun e_ => (hk_.1.1.1.1.2.2.1) e_) (fun e_ => (hk_.1.1.1.1.2.2.2.1) e_)))) (fun k_ hk_ => ⟨hk_.1.1.1.1.1.1, hk_.1.1.1.1.1.2.1, hk_.1.1.1.1.1.2.2.1, hk_.1.1.1.1.1.2.2.2.1, hk_.1.1.1.1.1.2.2.2.2.1, hk_.1.1.1.1.1.2.2.2.2.2, hk_.1.1.1.1.2, hk_.1.1.1.2, hk_.1.1.2⟩)); replace HO_1075002 := am (Kd.R_mono (ok' := fun k_ => some k_ ≠ (.slice Ao43 t1077.length co43 : Value).ownBlock ∧ some k_ ≠ (.slice Ao55 t1092.length co55 : Value).ownBlock ∧ some k_ ≠ (.slice Ao97 t1107.length co97 : Value).ownBlock) (Kd.R_keptB ((Kd.R_apart' (Kd.R_apart' HO_1075002.out (Kd.R_typed HO_1087003.out) (by decide)) (Kd.R_typed HO_1087004.out) (by decide))) hkp (fun k_ hk_ hs_ => Or.elim hs_ (fun e_ => (hk_.1.1.1.1) e_) (fun e_ => Or.elim e_ (fun e_ => (hk_.1.2) e_) (fun e_ => (hk_.2) e_)))) (fun k_ hk_ => ⟨hk_.1.1.1.1.1, hk_.1.1.1.1.2, hk_.1.1.1.2⟩)); replace HO_1075003 := am (Kd.R_mono (ok' := fun k_ => some k_ ≠ (.slice Ao48 t1087.length co48 : Value).ownBlock ∧ some k_ ≠ (.slice Ao36 t1069.length co36 : Value).ownBlock ∧ some k_ ≠ (.slice Ao44 t1080.length co44 : Value).ownBlock ∧ some k_ ≠ (.slice Ao45 t1083.length co45 : Value).ownBlock ∧ some k_ ≠ (.slice Ao56 t1095.length co56 : Value).ownBlock ∧ some k_ ≠ (.slice Ao57 t1098.length co57 : Value).ownBlock ∧ some k_ ≠ (.slice Ao98 t1110.length co98 : Value).ownBlock ∧ some k_ ≠ (.slice Ao99 t1113.length co99 : Value).ownBlock ∧ some k_ ≠ (.slice Ao102 t1117.length co102 : Value).ownBlock) (Kd.R_keptB ((Kd.R_apart' HO_1075003.out (Kd.R_typed HO_1087002.out) (by decide))) hkp (fun k_ hk_ hs_ => Or.elim hs_ (fun e_ => (hk_.2) e_) (fun e_ => Or.elim e_ (fun e_ => (hk_.1.1.1.1.2.2.1) e_) (fun e_ => (hk_.1.1.1.1.2.2.2.1) e_)))) (fun k_ hk_ => ⟨hk_.1.1.1.1.1.1, hk_.1.1.1.1.1.2.1, hk_.1.1.1.1.1.2.2.1, hk_.1.1.1.1.1.2.2.2.1, hk_.1.1.1.1.1.2.2.2.2.1, hk_.1.1.1.1.1.2.2.2.2.2, hk_.1.1.1.1.2, hk_.1.1.1.2, hk_.1.1.2⟩)); replace HO_1075004 := am (Kd.R_mono (ok' := fun k_ => some k_ ≠ (.slice Ao48 t1087.length co48 : Value).ownBlock ∧ some k_ ≠ (.slice Ao35 t1066.length co35 : Value).ownBlock ∧ some k_ ≠ (.slice Ao44 t1080.length co44 : Value).ownBlock ∧ some k_ ≠ (.slice Ao45 t1083.length co45 : Value).ownBlock ∧ some k_ ≠ (.slice Ao56 t1095.length co56 : Value).ownBlock ∧ some k_ ≠ (.slice Ao57 t1098.length co57 : Value).ownBlock ∧ some k_ ≠ (.slice Ao98 t1110.length co98 : Value).ownBlock ∧ some k_ ≠ (.slice Ao99 t1113.length co99 : Value).ownBlock ∧ some k_ ≠ (.slice Ao102 t1117.length co102 : Value).ownBlock) (Kd.R_keptB ((Kd.R_apart' HO_1075004.out (Kd.R_typed HO_1087002.out) (by decide))) hkp (fun k_ hk_ hs_ => Or.elim hs_ (fun e_ => (hk_.2) e_) (fun e_ => Or.elim e_ (fun e_ => (hk_.1.1.1.1.2.2.1) e_) (fun e_ => (hk_.1.1.1.1.2.2.2.1) e_)))) (fun k_ hk_ => ⟨hk_.1.1.1.1.1.1, hk_.1.1.1.1.1.2.1, hk_.1.1.1.1.1.2.2.1, hk_.1.1.1.1.1.2.2.2.1, hk_.1.1.1.1.1.2.2.2.2.1, hk_.1.1.1.1.1.2.2.2.2.2, hk_.1.1.1.1.2, hk_.1.1.1.2, hk_.1.1.2⟩)); replace HO_1104002 := am (Kd.R_mono (ok' := fun k_ => some k_ ≠ (.slice Ao34 t1063.length co34 : Value).ownBlock ∧ some k_ ≠ (.slice Ao43 t1077.length co43 : Value).ownBlock ∧ some k_ ≠ (.slice Ao97 t1107.length co97 : Value).ownBlock) (Kd.R_keptB ((Kd.R_apart' (Kd.R_apart' HO_1104002.out (Kd.R_typed HO_1087003.out) (by decide)) (Kd.R_typed HO_1087004.out) (by decide))) hkp (fun k_ hk_ hs_ => Or.elim hs_ (fun e_ => (hk_.1.1.1.2) e_) (fun e_ => Or.elim e_ (fun e_ => (hk_.1.2) e_) (fun e_ => (hk_.2) e_)))) (fun k_ hk_ => ⟨hk_.1.1.1.1.1, hk_.1.1.1.1.2, hk_.1.1.1.2⟩)); replace HO_1104003 := am (Kd.R_mono (ok' := fun k_ => some k_ ≠ (.slice Ao48 t1087.length co48 : Value).ownBlock ∧ some k_ ≠ (.slice Ao35 t1066.length co35 : Value).ownBlock ∧ some k_ ≠ (.slice Ao36 t1069.length co36 : Value).ownBlock ∧ some k_ ≠ (.slice Ao44 t1080.length co44 : Value).ownBlock ∧ some k_ ≠ (.slice Ao45 t1083.length co45 : Value).ownBlock ∧ some k_ ≠ (.slice Ao57 t1098.length co57 : Value).ownBlock ∧ some k_ ≠ (.slice Ao98 t1110.length co98 : Value).ownBlock ∧ some k_ ≠ (.slice Ao99 t1113.length co99 : Value).ownBlock ∧ some k_ ≠ (.slice Ao102 t1117.length co102 : Value).ownBlock) (Kd.R_keptB ((Kd.R_apart' HO_1104003.out (Kd.R_typed HO_1087002.out) (by decide))) hkp (fun k_ hk_ hs_ => Or.elim hs_ (fun e_ => (hk_.2) e_) (fun e_ => Or.elim e_ (fun e_ => (hk_.1.1.1.1.2.2.2.1) e_) (fun e_ => (hk_.1.1.1.1.2.2.2.2.1) e_)))) (fun k_ hk_ => ⟨hk_.1.1.1.1.1.1, hk_.1.1.1.1.1.2.1, hk_.1.1.1.1.1.2.2.1, hk_.1.1.1.1.1.2.2.2.1, hk_.1.1.1.1.1.2.2.2.2.1, hk_.1.1.1.1.1.2.2.2.2.2, hk_.1.1.1.1.2, hk_.1.1.1.2, hk_.1.1.2⟩)); replace HO_1104004 := am (Kd.R_mono (ok' := fun k_ => some k_ ≠ (.slice Ao48 t1087.length co48 : Value).ownBlock ∧ some k_ ≠ (.slice Ao35 t1066.length co35 : Value).ownBlock ∧ some k_ ≠ (.slice Ao36 t1069.length co36 : Value).ownBlock ∧ some k_ ≠ (.slice Ao44 t1080.length co44 : Value).ownBlock ∧ some k_ ≠ (.slice Ao45 t1083.length co45 : Value).ownBlock ∧ some k_ ≠ (.slice Ao56 t1095.length co56 : Value).ownBlock ∧ some k_ ≠ (.slice Ao98 t1110.length co98 : Value).ownBlock ∧ some k_ ≠ (.slice Ao99 t1113.length co99 : Value).ownBlock ∧ some k_ ≠ (.slice Ao102 t1117.length co102 : Value).ownBlock) (Kd.R_keptB ((Kd.R_apart' HO_1104004.out (Kd.R_typed HO_1087002.out) (by decide))) hkp (fun k_ hk_ hs_ => Or.elim hs_ (fun e_ => (hk_.2) e_) (fun e_ => Or.elim e_ (fun e_ => (hk_.1.1.1.1.2.2.2.1) e_) (fun e_ => (hk_.1.1.1.1.2.2.2.2.1) e_)))) (fun k_ hk_ => ⟨hk_.1.1.1.1.1.1, hk_.1.1.1.1.1.2.1, hk_.1.1.1.1.1.2.2.1, hk_.1.1.1.1.1.2.2.2.1, hk_.1.1.1.1.1.2.2.2.2.1, hk_.1.1.1.1.1.2.2.2.2.2, hk_.1.1.1.1.2, hk_.1.1.1.2, hk_.1.1.2⟩)); replace BK1044 := am (blk_kept (zq BK1044) hkp (fun hs_ => Or.elim hs_ (fun e_ => (fun e_ => (Kd.R_ne HO_1087002.out BK1044.out (by decide)) e_) e_) (fun e_ => Or.elim e_ (fun e_ => (fun e_ => (Kd.R_ne HO_1087003.out BK1044.out (by decide)) e_) e_) (fun e_ => (fun e_ => (Kd.R_ne HO_1087004.out BK1044.out (by decide)) e_) e_)))); replace BK1074 := am (blk_kept (zq BK1074) hkp (fun hs_ => Or.elim hs_ (fun e_ => (fun e_ => (Kd.R_ne HO_1087002.out BK1074.out (by decide)) e_) e_) (fun e_ => Or.elim e_ (fun e_ => (fun e_ => (Kd.R_ne HO_1087003.out BK1074.out (by decide)) e_) e_) (fun e_ => (fun e_ => (Kd.R_ne HO_1087004.out BK1074.out (by decide)) e_) e_)))); replace BK1086 := am (blk_kept (zq BK1086) hkp (fun hs_ => Or.elim hs_ (fun e_ => (fun e_ => (Kd.R_ne HO_1087002.out BK1086.out (by decide)) e_) e_) (fun e_ => Or.elim e_ (fun e_ => (fun e_ => (Kd.R_ne HO_1087003.out BK1086.out (by decide)) e_) e_) (fun e_ => (fun e_ => (Kd.R_ne HO_1087004.out BK1086.out (by decide)) e_) e_)))); replace BK1103 := am (blk_kept (zq BK1103) hkp (fun hs_ => Or.elim hs_ (fun e_ => (fun e_ => (Kd.R_ne HO_1087002.out BK1103.out (by decide)) e_) e_) (fun e_ => Or.elim e_ (fun e_ => (fun e_ => (Kd.R_ne HO_1087003.out BK1103.out (by decide)) e_) e_) (fun e_ => (fun e_ => (Kd.R_ne HO_1087004.out BK1103.out (by decide)) e_) e_)))); replace HO1109 := am (Kd.R_mono (ok' := fun k_ => some k_ ≠ (.slice Ao34 t1063.length co34 : Value).ownBlock ∧ some k_ ≠ (.slice Ao43 t1077.length co43 : Value).ownBlock ∧ some k_ ≠ (.slice Ao55 t1092.length co55 : Value).ownBlock) (Kd.R_keptB ((Kd.R_apart' (Kd.R_apart' HO1109.out (Kd.R_typed HO_1087003.out) (by decide)) (Kd.R_typed HO_1087004.out) (by decide))) hkp (fun k_ hk_ hs_ => Or.elim hs_ (fun e_ => (hk_.1.1.1.2) e_) (fun e_ => Or.elim e_ (fun e_ => (hk_.1.2) e_) (fun e_ => (hk_.2) e_)))) (fun k_ hk_ => ⟨hk_.1.1.1.1.1.2, hk_.1.1.1.1.2, hk_.1.1.1.2⟩)); replace HO_1087003 := am (Kd.R_reok rfl hy1 (fun k_ e_ => HO_1087003.out.1 k_ e_)); replace HO_1087004 := am (Kd.R_reok rfl hy2 (fun k_ e_ => HO_1087004.out.1 k_ e_)); replace HO1112 := am (Kd.R_mono (ok' := fun k_ => some k_ ≠ (.slice Ao48 t1087.length co48 : Value).ownBlock ∧ some k_ ≠ (.slice Ao35 t1066.length co35 : Value).ownBlock ∧ some k_ ≠ (.slice Ao36 t1069.length co36 : Value).ownBlock ∧ some k_ ≠ (.slice Ao44 t1080.length co44 : Value).ownBlock ∧ some k_ ≠ (.slice Ao45 t1083.length co45 : Value).ownBlock ∧ some k_ ≠ (.slice Ao56 t1095.length co56 : Value).ownBlock ∧ some k_ ≠ (.slice Ao57 t1098.length co57 : Value).ownBlock ∧ some k_ ≠ (.slice Ao99 t1113.length co99 : Value).ownBlock ∧ some k_ ≠ (.slice Ao102 t1117.length co102 : Value).ownBlock) (Kd.R_keptB ((Kd.R_apart' HO1112.out (Kd.R_typed HO_1087002.out) (by decide))) hkp (fun k_ hk_ hs_ => Or.elim hs_ (fun e_ => (hk_.2) e_) (fun e_ => Or.elim e_ (fun e_ => (hk_.1.1.1.1.1.2) e_) (fun e_ => (hk_.1.1.1.1.2) e_)))) (fun k_ hk_ => ⟨hk_.1.1.1.1.1.1.1.1.1.2, hk_.1.1.1.1.1.1.1.1.2, hk_.1.1.1.1.1.1.1.2, hk_.1.1.1.1.1.1.2, hk_.1.1.1.1.1.2, hk_.1.1.1.1.2, hk_.1.1.1.2, hk_.1.1.1.1.1.1.1.1.1.1, hk_.1.1.2⟩)); replace HO1115 := am (Kd.R_mono (ok' := fun k_ => some k_ ≠ (.slice Ao48 t1087.length co48 : Value).ownBlock ∧ some k_ ≠ (.slice Ao35 t1066.length co35 : Value).ownBlock ∧ some k_ ≠ (.slice Ao36 t1069.length co36 : Value).ownBlock ∧ some k_ ≠ (.slice Ao44 t1080.length co44 : Value).ownBlock ∧ some k_ ≠ (.slice Ao45 t1083.length co45 : Value).ownBlock ∧ some k_ ≠ (.slice Ao56 t1095.length co56 : Value).ownBlock ∧ some k_ ≠ (.slice Ao57 t1098.length co57 : Value).ownBlock ∧ some k_ ≠ (.slice Ao98 t1110.length co98 : Value).ownBlock ∧ some k_ ≠ (.slice Ao102 t1117.length co102 : Value).ownBlock) (Kd.R_keptB ((Kd.R_apart' HO1115.out (Kd.R_typed HO_1087002.out) (by decide))) hkp (fun k_ hk_ hs_ => Or.elim hs_ (fun e_ => (hk_.2) e_) (fun e_ => Or.elim e_ (fun e_ => (hk_.1.1.1.1.1.2) e_) (fun e_ => (hk_.1.1.1.1.2) e_)))) (fun k_ hk_ => ⟨hk_.1.1.1.1.1.1.1.1.1.2, hk_.1.1.1.1.1.1.1.1.2, hk_.1.1.1.1.1.1.1.2, hk_.1.1.1.1.1.1.2, hk_.1.1.1.1.1.2, hk_.1.1.1.1.2, hk_.1.1.1.2, hk_.1.1.1.1.1.1.1.1.1.1, hk_.1.1.2⟩)); replace HO1119 := am (Kd.R_mono (ok' := fun k_ => some k_ ≠ (.slice Ao48 t1087.length co48 : Value).ownBlock ∧ some k_ ≠ (.slice Ao35 t1066.length co35 : Value).ownBlock ∧ some k_ ≠ (.slice Ao36 t1069.length co36 : Value).ownBlock ∧ some k_ ≠ (.slice Ao44 t1080.length co44 : Value).ownBlock ∧ some k_ ≠ (.slice Ao45 t1083.length co45 : Value).ownBlock ∧ some k_ ≠ (.slice Ao56 t1095.length co56 : Value).ownBlock ∧ some k_ ≠ (.slice Ao57 t1098.length co57 : Value).ownBlock ∧ some k_ ≠ (.slice Ao98 t1110.length co98 : Value).ownBlock ∧ some k_ ≠ (.slice Ao99 t1113.length co99 : Value).ownBlock) (Kd.R_keptB ((Kd.R_apart' HO1119.out (Kd.R_typed HO_1087002.out) (by decide))) hkp (fun k_ hk_ hs_ => Or.elim hs_ (fun e_ => (hk_.2) e_) (fun e_ => Or.elim e_ (fun e_ => (hk_.1.1.1.1.1.1.2) e_) (fun e_ => (hk_.1.1.1.1.1.2) e_)))) (fun k_ hk_ => ⟨hk_.1.1.1.1.1.1.1.1.1.1.2, hk_.1.1.1.1.1.1.1.1.1.2, hk_.1.1.1.1.1.1.1.1.2, hk_.1.1.1.1.1.1.1.2, hk_.1.1.1.1.1.1.2, hk_.1.1.1.1.1.2, hk_.1.1.1.1.2, hk_.1.1.1.2, hk_.1.1.2⟩)); replace HO_1087002 := am (Kd.R_reok rfl hy0 (fun k_ e_ => HO_1087002.out.1 k_ e_)); replace HB := am (hb); (try clear hb hkp hy0 hy1 hy2)) | ((with_reducible refine gate_callee (f := 44) rfl ?_); refine goesQ (some 79) Try.func44 #[.slice Ao48 t1087.length co48, .int .i64 t1121] ?_; (with_reducible refine (laws_markSessionActS.calls kj18 (fun k_ => some k_ = (.slice Ao48 t1087.length co48 : Value).ownBlock) (.slice Ao48 t1087.length co48) t1087 t1121 t1125 t1126 w _ ?s1 ?s2 A93.out).mono ?_); (case s1 => repeat (first | (with_reducible first | exact HB.out | apply below_alloc | apply pw_below_drewN | apply below_drew1 | refine below_set ?_ GE1044.out | refine below_set ?_ GE1074.out | refine below_set ?_ GE1086.out | refine below_set ?_ GE1103.out) | exact HB.out)); (case s2 => exact Kd.R_tight rfl HO_10.out); rintro e w109 ⟨rfl, hy0, hb, hkp⟩; refine ⟨_, rfl, ?_⟩; replace HO_1075002 := am (Kd.R_mono (ok' := fun k_ => some k_ ≠ (.slice Ao43 t1077.length co43 : Value).ownBlock ∧ some k_ ≠ (.slice Ao55 t1092.length co55 : Value).ownBlock ∧ some k_ ≠ (.slice Ao97 t1107.length co97 : Value).ownBlock) (Kd.R_keptB ((Kd.R_apart' HO_1075002.out (Kd.R_typed HO_10.out) (by decide))) hkp (fun k_ hk_ hs_ => (hk_.2) hs_)) (fun k_ hk_ => ⟨hk_.1.1.1, hk_.1.1.2.1, hk_.1.1.2.2⟩)); replace HO_1075003 := am (Kd.R_mono (ok' := fun k_ => some k_ ≠ (.slice Ao48 t1087.length co48 : Value).ownBlock ∧ some k_ ≠ (.slice Ao36 t1069.length co36 : Value).ownBlock ∧ some k_ ≠ (.slice Ao44 t1080.length co44 : Value).ownBlock ∧ some k_ ≠ (.slice Ao45 t1083.length co45 : Value).ownBlock ∧ some k_ ≠ (.slice Ao56 t1095.length co56 : Value).ownBlock ∧ some k_ ≠ (.slice Ao57 t1098.length co57 : Value).ownBlock ∧ some k_ ≠ (.slice Ao98 t1110.length co98 : Value).ownBlock ∧ some k_ ≠ (.slice Ao99 t1113.length co99 : Value).ownBlock ∧ some k_ ≠ (.slice Ao102 t1117.length co102 : Value).ownBlock) (Kd.R_keptB (HO_1075003.out) hkp (fun k_ hk_ hs_ => (hk_.1) hs_)) (fun k_ hk_ => ⟨hk_.1.1, hk_.1.2.1, hk_.1.2.2.1, hk_.1.2.2.2.1, hk_.1.2.2.2.2.1, hk_.1.2.2.2.2.2.1, hk_.1.2.2.2.2.2.2.1, hk_.1.2.2.2.2.2.2.2.1, hk_.1.2.2.2.2.2.2.2.2⟩)); replace HO_1075004 := am (Kd.R_mono (ok' := fun k_ => some k_ ≠ (.slice Ao48 t1087.length co48 : Value).ownBlock ∧ some k_ ≠ (.slice Ao35 t1066.length co35 : Value).ownBlock ∧ some k_ ≠ (.slice Ao44 t1080.length co44 : Value).ownBlock ∧ some k_ ≠ (.slice Ao45 t1083.length co45 : Value).ownBlock ∧ some k_ ≠ (.slice Ao56 t1095.length co56 : Value).ownBlock ∧ some k_ ≠ (.slice Ao57 t1098.length co57 : Value).ownBlock ∧ some k_ ≠ (.slice Ao98 t1110.length co98 : Value).ownBlock ∧ some k_ ≠ (.slice Ao99 t1113.length co99 : Value).ownBlock ∧ some k_ ≠ (.slice Ao102 t1117.length co102 : Value).ownBlock) (Kd.R_keptB (HO_1075004.out) hkp (fun k_ hk_ hs_ => (hk_.1) hs_)) (fun k_ hk_ => ⟨hk_.1.1, hk_.1.2.1, hk_.1.2.2.1, hk_.1.2.2.2.1, hk_.1.2.2.2.2.1, hk_.1.2.2.2.2.2.1, hk_.1.2.2.2.2.2.2.1, hk_.1.2.2.2.2.2.2.2.1, hk_.1.2.2.2.2.2.2.2.2⟩)); replace HO_1087002 := am (Kd.R_mono (ok' := fun k_ => some k_ ≠ (.slice Ao34 t1063.length co34 : Value).ownBlock ∧ some k_ ≠ (.slice Ao55 t1092.length co55 : Value).ownBlock ∧ some k_ ≠ (.slice Ao97 t1107.length co97 : Value).ownBlock) (Kd.R_keptB ((Kd.R_apart' HO_1087002.out (Kd.R_typed HO_10.out) (by decide))) hkp (fun k_ hk_ hs_ => (hk_.2) hs_)) (fun k_ hk_ => ⟨hk_.1.1.1.1, hk_.1.1.1.2, hk_.1.1.2⟩)); replace HO_1087003 := am (Kd.R_mono (ok' := fun k_ => some k_ ≠ (.slice Ao48 t1087.length co48 : Value).ownBlock ∧ some k_ ≠ (.slice Ao35 t1066.length co35 : Value).ownBlock ∧ some k_ ≠ (.slice Ao36 t1069.length co36 : Value).ownBlock ∧ some k_ ≠ (.slice Ao45 t1083.length co45 : Value).ownBlock ∧ some k_ ≠ (.slice Ao56 t1095.length co56 : Value).ownBlock ∧ some k_ ≠ (.slice Ao57 t1098.length co57 : Value).ownBlock ∧ some k_ ≠ (.slice Ao98 t1110.length co98 : Value).ownBlock ∧ some k_ ≠ (.slice Ao99 t1113.length co99 : Value).ownBlock ∧ some k_ ≠ (.slice Ao102 t1117.length co102 : Value).ownBlock) (Kd.R_keptB (HO_1087003.out) hkp (fun k_ hk_ hs_ => (hk_.1.1.1.1) hs_)) (fun k_ hk_ => ⟨hk_.1.1.1.1.1, hk_.1.1.1.1.2.1, hk_.1.1.1.1.2.2.1, hk_.1.1.1.1.2.2.2.1, hk_.1.1.1.1.2.2.2.2.1, hk_.1.1.1.1.2.2.2.2.2, hk_.1.1.1.2, hk_.1.1.2, hk_.1.2⟩)); replace HO_1087004 := am (Kd.R_mono (ok' := fun k_ => some k_ ≠ (.slice Ao48 t1087.length co48 : Value).ownBlock ∧ some k_ ≠ (.slice Ao35 t1066.length co35 : Value).ownBlock ∧ some k_ ≠ (.slice Ao36 t1069.length co36 : Value).ownBlock ∧ some k_ ≠ (.slice Ao44 t1080.length co44 : Value).ownBlock ∧ some k_ ≠ (.slice Ao56 t1095.length co56 : Value).ownBlock ∧ some k_ ≠ (.slice Ao57 t1098.length co57 : Value).ownBlock ∧ some k_ ≠ (.slice Ao98 t1110.length co98 : Value).ownBlock ∧ some k_ ≠ (.slice Ao99 t1113.length co99 : Value).ownBlock ∧ some k_ ≠ (.slice Ao102 t1117.length co102 : Value).ownBlock) (Kd.R_keptB (HO_1087004.out) hkp (fun k_ hk_ hs_ => (hk_.1.1.1.1) hs_)) (fun k_ hk_ => ⟨hk_.1.1.1.1.1, hk_.1.1.1.1.2.1, hk_.1.1.1.1.2.2.1, hk_.1.1.1.1.2.2.2.1, hk_.1.1.1.1.2.2.2.2.1, hk_.1.1.1.1.2.2.2.2.2, hk_.1.1.1.2, hk_.1.1.2, hk_.1.2⟩)); replace HO_1104002 := am (Kd.R_mono (ok' := fun k_ => some k_ ≠ (.slice Ao34 t1063.length co34 : Value).ownBlock ∧ some k_ ≠ (.slice Ao43 t1077.length co43 : Value).ownBlock ∧ some k_ ≠ (.slice Ao97 t1107.length co97 : Value).ownBlock) (Kd.R_keptB ((Kd.R_apart' HO_1104002.out (Kd.R_typed HO_10.out) (by decide))) hkp (fun k_ hk_ hs_ => (hk_.2) hs_)) (fun k_ hk_ => ⟨hk_.1.1.1, hk_.1.1.2.1, hk_.1.1.2.2⟩)); replace HO_1104003 := am (Kd.R_mono (ok' := fun k_ => some k_ ≠ (.slice Ao48 t1087.length co48 : Value).ownBlock ∧ some k_ ≠ (.slice Ao35 t1066.length co35 : Value).ownBlock ∧ some k_ ≠ (.slice Ao36 t1069.length co36 : Value).ownBlock ∧ some k_ ≠ (.slice Ao44 t1080.length co44 : Value).ownBlock ∧ some k_ ≠ (.slice Ao45 t1083.length co45 : Value).ownBlock ∧ some k_ ≠ (.slice Ao57 t1098.length co57 : Value).ownBlock ∧ some k_ ≠ (.slice Ao98 t1110.length co98 : Value).ownBlock ∧ some k_ ≠ (.slice Ao99 t1113.length co99 : Value).ownBlock ∧ some k_ ≠ (.slice Ao102 t1117.length co102 : Value).ownBlock) (Kd.R_keptB (HO_1104003.out) hkp (fun k_ hk_ hs_ => (hk_.1) hs_)) (fun k_ hk_ => ⟨hk_.1.1, hk_.1.2.1, hk_.1.2.2.1, hk_.1.2.2.2.1, hk_.1.2.2.2.2.1, hk_.1.2.2.2.2.2.1, hk_.1.2.2.2.2.2.2.1, hk_.1.2.2.2.2.2.2.2.1, hk_.1.2.2.2.2.2.2.2.2⟩)); replace HO_1104004 := am (Kd.R_mono (ok' := fun k_ => some k_ ≠ (.slice Ao48 t1087.length co48 : Value).ownBlock ∧ some k_ ≠ (.slice Ao35 t1066.length co35 : Value).ownBlock ∧ some k_ ≠ (.slice Ao36 t1069.length co36 : Value).ownBlock ∧ some k_ ≠ (.slice Ao44 t1080.length co44 : Value).ownBlock ∧ some k_ ≠ (.slice Ao45 t1083.length co45 : Value).ownBlock ∧ some k_ ≠ (.slice Ao56 t1095.length co56 : Value).ownBlock ∧ some k_ ≠ (.slice Ao98 t1110.length co98 : Value).ownBlock ∧ some k_ ≠ (.slice Ao99 t1113.length co99 : Value).ownBlock ∧ some k_ ≠ (.slice Ao102 t1117.length co102 : Value).ownBlock) (Kd.R_keptB (HO_1104004.out) hkp (fun k_ hk_ hs_ => (hk_.1) hs_)) (fun k_ hk_ => ⟨hk_.1.1, hk_.1.2.1, hk_.1.2.2.1, hk_.1.2.2.2.1, hk_.1.2.2.2.2.1, hk_.1.2.2.2.2.2.1, hk_.1.2.2.2.2.2.2.1, hk_.1.2.2.2.2.2.2.2.1, hk_.1.2.2.2.2.2.2.2.2⟩)); replace BK1044 := am (blk_kept (zq BK1044) hkp (fun hs_ => (fun e_ => (Kd.R_ne HO_10.out BK1044.out (by decide)) e_) hs_)); replace BK1074 := am (blk_kept (zq BK1074) hkp (fun hs_ => (fun e_ => (Kd.R_ne HO_10.out BK1074.out (by decide)) e_) hs_)); replace BK1086 := am (blk_kept (zq BK1086) hkp (fun hs_ => (fun e_ => (Kd.R_ne HO_10.out BK1086.out (by decide)) e_) hs_)); replace BK1103 := am (blk_kept (zq BK1103) hkp (fun hs_ => (fun e_ => (Kd.R_ne HO_10.out BK1103.out (by decide)) e_) hs_)); replace HO1109 := am (Kd.R_mono (ok' := fun k_ => some k_ ≠ (.slice Ao34 t1063.length co34 : Value).ownBlock ∧ some k_ ≠ (.slice Ao43 t1077.length co43 : Value).ownBlock ∧ some k_ ≠ (.slice Ao55 t1092.length co55 : Value).ownBlock) (Kd.R_keptB ((Kd.R_apart' HO1109.out (Kd.R_typed HO_10.out) (by decide))) hkp (fun k_ hk_ hs_ => (hk_.2) hs_)) (fun k_ hk_ => ⟨hk_.1.1.1, hk_.1.1.2.1, hk_.1.1.2.2⟩)); replace HO_10 := am (Kd.R_reok rfl hy0 (fun k_ e_ => HO_10.out.1 k_ e_)); replace HO1112 := am (Kd.R_mono (ok' := fun k_ => some k_ ≠ (.slice Ao48 t1087.length co48 : Value).ownBlock ∧ some k_ ≠ (.slice Ao35 t1066.length co35 : Value).ownBlock ∧ some k_ ≠ (.slice Ao36 t1069.length co36 : Value).ownBlock ∧ some k_ ≠ (.slice Ao44 t1080.length co44 : Value).ownBlock ∧ some k_ ≠ (.slice Ao45 t1083.length co45 : Value).ownBlock ∧ some k_ ≠ (.slice Ao56 t1095.length co56 : Value).ownBlock ∧ some k_ ≠ (.slice Ao57 t1098.length co57 : Value).ownBlock ∧ some k_ ≠ (.slice Ao99 t1113.length co99 : Value).ownBlock ∧ some k_ ≠ (.slice Ao102 t1117.length co102 : Value).ownBlock) (Kd.R_keptB (HO1112.out) hkp (fun k_ hk_ hs_ => (hk_.1) hs_)) (fun k_ hk_ => ⟨hk_.1.1, hk_.1.2.1, hk_.1.2.2.1, hk_.1.2.2.2.1, hk_.1.2.2.2.2.1, hk_.1.2.2.2.2.2.1, hk_.1.2.2.2.2.2.2.1, hk_.1.2.2.2.2.2.2.2.1, hk_.1.2.2.2.2.2.2.2.2⟩)); replace HO1115 := am (Kd.R_mono (ok' := fun k_ => some k_ ≠ (.slice Ao48 t1087.length co48 : Value).ownBlock ∧ some k_ ≠ (.slice Ao35 t1066.length co35 : Value).ownBlock ∧ some k_ ≠ (.slice Ao36 t1069.length co36 : Value).ownBlock ∧ some k_ ≠ (.slice Ao44 t1080.length co44 : Value).ownBlock ∧ some k_ ≠ (.slice Ao45 t1083.length co45 : Value).ownBlock ∧ some k_ ≠ (.slice Ao56 t1095.length co56 : Value).ownBlock ∧ some k_ ≠ (.slice Ao57 t1098.length co57 : Value).ownBlock ∧ some k_ ≠ (.slice Ao98 t1110.length co98 : Value).ownBlock ∧ some k_ ≠ (.slice Ao102 t1117.length co102 : Value).ownBlock) (Kd.R_keptB (HO1115.out) hkp (fun k_ hk_ hs_ => (hk_.1) hs_)) (fun k_ hk_ => ⟨hk_.1.1, hk_.1.2.1, hk_.1.2.2.1, hk_.1.2.2.2.1, hk_.1.2.2.2.2.1, hk_.1.2.2.2.2.2.1, hk_.1.2.2.2.2.2.2.1, hk_.1.2.2.2.2.2.2.2.1, hk_.1.2.2.2.2.2.2.2.2⟩)); replace HO1119 := am (Kd.R_mono (ok' := fun k_ => some k_ ≠ (.slice Ao48 t1087.length co48 : Value).ownBlock ∧ some k_ ≠ (.slice Ao35 t1066.length co35 : Value).ownBlock ∧ some k_ ≠ (.slice Ao36 t1069.length co36 : Value).ownBlock ∧ some k_ ≠ (.slice Ao44 t1080.length co44 : Value).ownBlock ∧ some k_ ≠ (.slice Ao45 t1083.length co45 : Value).ownBlock ∧ some k_ ≠ (.slice Ao56 t1095.length co56 : Value).ownBlock ∧ some k_ ≠ (.slice Ao57 t1098.length co57 : Value).ownBlock ∧ some k_ ≠ (.slice Ao98 t1110.length co98 : Value).ownBlock ∧ some k_ ≠ (.slice Ao99 t1113.length co99 : Value).ownBlock) (Kd.R_keptB (HO1119.out) hkp (fun k_ hk_ hs_ => (hk_.1) hs_)) (fun k_ hk_ => ⟨hk_.1.1, hk_.1.2.1, hk_.1.2.2.1, hk_.1.2.2.2.1, hk_.1.2.2.2.2.1, hk_.1.2.2.2.2.2.1, hk_.1.2.2.2.2.2.2.1, hk_.1.2.2.2.2.2.2.2.1, hk_.1.2.2.2.2.2.2.2.2⟩)); replace HB := am (hb); (try clear hb hkp hy0)))
        (try simp only [Act.put, List.setIfInBounds_toArray, List.set_cons_zero, List.set_cons_succ])
        go_cut [97] (fun v97 wc => ∃ (kq : Nat) (x97_93 : Bool), v97 = .bool x97_93 ∧ Aside0 (laws_FnExactRunSession.j1 kq l1 t1072 t1073 x97_93 a0_0 a0_1 l0_2 l0_3 l0_4 t1061 t1062 t1063 t1066 t1069 t1090 t1091 t1092 t1095 t1098 = some r) ∧ Aside0 (kq ≤ kj18) ∧ Aside0 (Kd.R k58 58 wc w.heap.size (fun k_ => some k_ ≠ ((.slice Ao43 t1077.length co43) : Value).ownBlock ∧ some k_ ≠ ((.slice Ao55 t1092.length co55) : Value).ownBlock) (.slice Ao34 t1063.length co34) t1063) ∧ Aside0 (Kd.R k60 60 wc w.heap.size (fun k_ => some k_ ≠ ((.slice Ao36 t1069.length co36) : Value).ownBlock ∧ some k_ ≠ ((.slice Ao44 t1080.length co44) : Value).ownBlock ∧ some k_ ≠ ((.slice Ao45 t1083.length co45) : Value).ownBlock ∧ some k_ ≠ ((.slice Ao56 t1095.length co56) : Value).ownBlock ∧ some k_ ≠ ((.slice Ao57 t1098.length co57) : Value).ownBlock) (.slice Ao35 t1066.length co35) t1066) ∧ Aside0 (Kd.R k60 60 wc w.heap.size (fun k_ => some k_ ≠ ((.slice Ao35 t1066.length co35) : Value).ownBlock ∧ some k_ ≠ ((.slice Ao44 t1080.length co44) : Value).ownBlock ∧ some k_ ≠ ((.slice Ao45 t1083.length co45) : Value).ownBlock ∧ some k_ ≠ ((.slice Ao56 t1095.length co56) : Value).ownBlock ∧ some k_ ≠ ((.slice Ao57 t1098.length co57) : Value).ownBlock) (.slice Ao36 t1069.length co36) t1069) ∧ Aside0 (Kd.R k58 58 wc w.heap.size (fun k_ => some k_ ≠ ((.slice Ao34 t1063.length co34) : Value).ownBlock ∧ some k_ ≠ ((.slice Ao55 t1092.length co55) : Value).ownBlock) (.slice Ao43 t1077.length co43) t1122) ∧ Aside0 (Kd.R k60 60 wc w.heap.size (fun k_ => some k_ ≠ ((.slice Ao35 t1066.length co35) : Value).ownBlock ∧ some k_ ≠ ((.slice Ao36 t1069.length co36) : Value).ownBlock ∧ some k_ ≠ ((.slice Ao45 t1083.length co45) : Value).ownBlock ∧ some k_ ≠ ((.slice Ao56 t1095.length co56) : Value).ownBlock ∧ some k_ ≠ ((.slice Ao57 t1098.length co57) : Value).ownBlock) (.slice Ao44 t1080.length co44) t1123) ∧ Aside0 (Kd.R k60 60 wc w.heap.size (fun k_ => some k_ ≠ ((.slice Ao35 t1066.length co35) : Value).ownBlock ∧ some k_ ≠ ((.slice Ao36 t1069.length co36) : Value).ownBlock ∧ some k_ ≠ ((.slice Ao44 t1080.length co44) : Value).ownBlock ∧ some k_ ≠ ((.slice Ao56 t1095.length co56) : Value).ownBlock ∧ some k_ ≠ ((.slice Ao57 t1098.length co57) : Value).ownBlock) (.slice Ao45 t1083.length co45) t1124) ∧ Aside0 (Kd.R k58 58 wc w.heap.size (fun k_ => some k_ ≠ ((.slice Ao34 t1063.length co34) : Value).ownBlock ∧ some k_ ≠ ((.slice Ao43 t1077.length co43) : Value).ownBlock) (.slice Ao55 t1092.length co55) t1092) ∧ Aside0 (Kd.R k60 60 wc w.heap.size (fun k_ => some k_ ≠ ((.slice Ao35 t1066.length co35) : Value).ownBlock ∧ some k_ ≠ ((.slice Ao36 t1069.length co36) : Value).ownBlock ∧ some k_ ≠ ((.slice Ao44 t1080.length co44) : Value).ownBlock ∧ some k_ ≠ ((.slice Ao45 t1083.length co45) : Value).ownBlock ∧ some k_ ≠ ((.slice Ao57 t1098.length co57) : Value).ownBlock) (.slice Ao56 t1095.length co56) t1095) ∧ Aside0 (Kd.R k60 60 wc w.heap.size (fun k_ => some k_ ≠ ((.slice Ao35 t1066.length co35) : Value).ownBlock ∧ some k_ ≠ ((.slice Ao36 t1069.length co36) : Value).ownBlock ∧ some k_ ≠ ((.slice Ao44 t1080.length co44) : Value).ownBlock ∧ some k_ ≠ ((.slice Ao45 t1083.length co45) : Value).ownBlock ∧ some k_ ≠ ((.slice Ao56 t1095.length co56) : Value).ownBlock) (.slice Ao57 t1098.length co57) t1098) ∧ Aside0 (wc.heap[gb1044]? = some (.cells #[.int .i64 a0_0, .int .i64 a0_1, (.slice A0_2 l0_2.length c0_2), (.slice A0_3 l0_3.length c0_3), (.slice A0_4 l0_4.length c0_4)] 27 (0, 0))) ∧ Aside0 (wc.heap[gb1074]? = some (.cells #[.int .i64 t1061, .int .i64 t1062, (.slice Ao34 t1063.length co34), (.slice Ao35 t1066.length co35), (.slice Ao36 t1069.length co36)] 35 (0, 0))) ∧ Aside0 (wc.heap[gb1086]? = some (.cells #[.int .i64 t1075, .int .i64 t1076, (.slice Ao43 t1077.length co43), (.slice Ao44 t1080.length co44), (.slice Ao45 t1083.length co45)] 35 (0, 0))) ∧ Aside0 (wc.heap[gb1103]? = some (.cells #[.int .i64 t1090, .int .i64 t1091, (.slice Ao55 t1092.length co55), (.slice Ao56 t1095.length co56), (.slice Ao57 t1098.length co57)] 35 (0, 0))) ∧ Aside0 (Below w.heap.size w wc))
        case first =>
         have H := HC94.out
         clear HC94
         by_cases c110 : t1125 < 0
         ·rw [if_pos c110] at H
          have c110b0 : decide (t1125 < 0) = true := decide_eq_true c110
          clear c110
          (first | rw [c110b0] | (simp only [i64_w, i32_w]; rw [c110b0]) | skip)
          have H' := am H
          clear H
          go_wp2
          go_meet
          case rel => exact ⟨_, (true), sq, H', ⟨by have := HJ18.out; first | omega | exact Nat.le_refl _⟩, ⟨rm HO_1075002⟩, ⟨rm HO_1075003⟩, ⟨rm HO_1075004⟩, ⟨rm HO_1087002⟩, ⟨rm HO_1087003⟩, ⟨rm HO_1087004⟩, ⟨rm HO_1104002⟩, ⟨rm HO_1104003⟩, ⟨rm HO_1104004⟩, ⟨zq BK1044⟩, ⟨zq BK1074⟩, ⟨zq BK1086⟩, ⟨zq BK1103⟩, ⟨bq⟩⟩
         ·rw [if_neg c110] at H
          have c110b0 : decide (t1125 < 0) = false := decide_eq_false c110
          clear c110
          (first | rw [c110b0] | (simp only [i64_w, i32_w]; rw [c110b0]) | skip)
          obtain ⟨t1127, A111, H⟩ := bindq H
          try dsimp only at H
          by_cases c112 : t1127 = true
          ·subst c112
           rw [if_pos rfl] at H
           try dsimp only at H
           by_cases c113 : t1101 = t1072
           ·rw [if_pos c113] at H
            have c113b0 : (t1101 == t1072) = true := beq_iff_eq.mpr c113
            have c113b1 : (t1101 != t1072) = false := bne_eq_false_iff_eq.mpr c113
            clear c113
            have H' := am H
            clear H
            have hnb114 := NB1103_1044.out
            have hnc114 := NB1044_1103.out
            have hnb115 := NB1103_1074.out
            have hnc115 := NB1074_1103.out
            have hnb116 := NB1103_1086.out
            have hnc116 := NB1086_1103.out
            have ⟨hcz117_0, hcz117_1, hcz117_2, hcz117_3, hcz117_4, hfz117_0, hfz117_1, hfz117_2, hfz117_3, hfz117_4⟩ := bc5 BK1103
            have hnb118 := NB1074_1044.out
            have hnc118 := NB1044_1074.out
            have hnb119 := NB1074_1086.out
            have hnc119 := NB1086_1074.out
            have ⟨hcz120_0, hcz120_1, hcz120_2, hcz120_3, hcz120_4, hfz120_0, hfz120_1, hfz120_2, hfz120_3, hfz120_4⟩ := bc5 BK1074
            go_wp2_with (first | (go_at_call 18; (with_reducible refine (laws_eqSession.calls kj18 t1090 t1091 _ _ t1092 _ _ t1095 _ _ t1098 t1061 t1062 _ _ t1063 _ _ t1066 _ _ t1069 true _ ?s1 ?s2 ?s3 ?s4 ?s5 ?s6 ?s7 ?s8 ?s9 ?s10 ?s11 ?s12 A111.out).mono ?_); (case s1 => exact cr HO_1104002); (case s2 => exact rq1 HO_1104002); (case s3 => exact cr HO_1104003); (case s4 => exact rq1 HO_1104003); (case s5 => exact cr HO_1104004); (case s6 => exact rq1 HO_1104004); (case s7 => exact cr HO_1075002); (case s8 => exact rq1 HO_1075002); (case s9 => exact cr HO_1075003); (case s10 => exact rq1 HO_1075003); (case s11 => exact cr HO_1075004); (case s12 => exact rq1 HO_1075004); rintro e w121 ⟨rfl, hb⟩; replace HO_10 := rb HO_10 hb; replace HO_1075002 := rb HO_1075002 hb; replace HO_1075003 := rb HO_1075003 hb; replace HO_1075004 := rb HO_1075004 hb; replace HO_1087002 := rb HO_1087002 hb; replace HO_1087003 := rb HO_1087003 hb; replace HO_1087004 := rb HO_1087004 hb; replace HO_1104002 := rb HO_1104002 hb; replace HO_1104003 := rb HO_1104003 hb; replace HO_1104004 := rb HO_1104004 hb; replace HO1109 := rb HO1109 hb; replace HO1112 := rb HO1112 hb; replace HO1115 := rb HO1115 hb; replace HO1119 := rb HO1119 hb; replace BK1044 := zb BK1044 hb; replace BK1074 := zb BK1074 hb; replace BK1086 := zb BK1086 hb; replace BK1103 := zb BK1103 hb; replace HB := sb hb; (try clear hb)))
            go_meet
            case rel => exact ⟨_, ((t1102 != t1073)), sq, H', ⟨by have := HJ18.out; first | omega | exact Nat.le_refl _⟩, ⟨rm HO_1075002⟩, ⟨rm HO_1075003⟩, ⟨rm HO_1075004⟩, ⟨rm HO_1087002⟩, ⟨rm HO_1087003⟩, ⟨rm HO_1087004⟩, ⟨rm HO_1104002⟩, ⟨rm HO_1104003⟩, ⟨rm HO_1104004⟩, ⟨zq BK1044⟩, ⟨zq BK1074⟩, ⟨zq BK1086⟩, ⟨zq BK1103⟩, ⟨bq⟩⟩
           ·rw [if_neg c113] at H
            have c113b0 : (t1101 == t1072) = false := beq_eq_false_iff_ne.mpr c113
            have c113b1 : (t1101 != t1072) = true := bne_iff_ne.mpr c113
            have H' := am H
            clear H
            have hnb122 := NB1103_1044.out
            have hnc122 := NB1044_1103.out
            have hnb123 := NB1103_1074.out
            have hnc123 := NB1074_1103.out
            have hnb124 := NB1103_1086.out
            have hnc124 := NB1086_1103.out
            have ⟨hcz125_0, hcz125_1, hcz125_2, hcz125_3, hcz125_4, hfz125_0, hfz125_1, hfz125_2, hfz125_3, hfz125_4⟩ := bc5 BK1103
            have hnb126 := NB1074_1044.out
            have hnc126 := NB1044_1074.out
            have hnb127 := NB1074_1086.out
            have hnc127 := NB1086_1074.out
            have ⟨hcz128_0, hcz128_1, hcz128_2, hcz128_3, hcz128_4, hfz128_0, hfz128_1, hfz128_2, hfz128_3, hfz128_4⟩ := bc5 BK1074
            go_wp2_with (first | (go_at_call 18; (with_reducible refine (laws_eqSession.calls kj18 t1090 t1091 _ _ t1092 _ _ t1095 _ _ t1098 t1061 t1062 _ _ t1063 _ _ t1066 _ _ t1069 true _ ?s1 ?s2 ?s3 ?s4 ?s5 ?s6 ?s7 ?s8 ?s9 ?s10 ?s11 ?s12 A111.out).mono ?_); (case s1 => exact cr HO_1104002); (case s2 => exact rq1 HO_1104002); (case s3 => exact cr HO_1104003); (case s4 => exact rq1 HO_1104003); (case s5 => exact cr HO_1104004); (case s6 => exact rq1 HO_1104004); (case s7 => exact cr HO_1075002); (case s8 => exact rq1 HO_1075002); (case s9 => exact cr HO_1075003); (case s10 => exact rq1 HO_1075003); (case s11 => exact cr HO_1075004); (case s12 => exact rq1 HO_1075004); rintro e w129 ⟨rfl, hb⟩; replace HO_10 := rb HO_10 hb; replace HO_1075002 := rb HO_1075002 hb; replace HO_1075003 := rb HO_1075003 hb; replace HO_1075004 := rb HO_1075004 hb; replace HO_1087002 := rb HO_1087002 hb; replace HO_1087003 := rb HO_1087003 hb; replace HO_1087004 := rb HO_1087004 hb; replace HO_1104002 := rb HO_1104002 hb; replace HO_1104003 := rb HO_1104003 hb; replace HO_1104004 := rb HO_1104004 hb; replace HO1109 := rb HO1109 hb; replace HO1112 := rb HO1112 hb; replace HO1115 := rb HO1115 hb; replace HO1119 := rb HO1119 hb; replace BK1044 := zb BK1044 hb; replace BK1074 := zb BK1074 hb; replace BK1086 := zb BK1086 hb; replace BK1103 := zb BK1103 hb; replace HB := sb hb; (try clear hb)))
            go_meet
            case rel => exact ⟨_, (true), sq, H', ⟨by have := HJ18.out; first | omega | exact Nat.le_refl _⟩, ⟨rm HO_1075002⟩, ⟨rm HO_1075003⟩, ⟨rm HO_1075004⟩, ⟨rm HO_1087002⟩, ⟨rm HO_1087003⟩, ⟨rm HO_1087004⟩, ⟨rm HO_1104002⟩, ⟨rm HO_1104003⟩, ⟨rm HO_1104004⟩, ⟨zq BK1044⟩, ⟨zq BK1074⟩, ⟨zq BK1086⟩, ⟨zq BK1103⟩, ⟨bq⟩⟩
          ·replace c112 := Bool.eq_false_iff.mpr c112
           subst c112
           rw [if_neg (show ¬ (false = true) by decide)] at H
           try dsimp only at H
           have H' := am H
           clear H
           have hnb130 := NB1103_1044.out
           have hnc130 := NB1044_1103.out
           have hnb131 := NB1103_1074.out
           have hnc131 := NB1074_1103.out
           have hnb132 := NB1103_1086.out
           have hnc132 := NB1086_1103.out
           have ⟨hcz133_0, hcz133_1, hcz133_2, hcz133_3, hcz133_4, hfz133_0, hfz133_1, hfz133_2, hfz133_3, hfz133_4⟩ := bc5 BK1103
           have hnb134 := NB1074_1044.out
           have hnc134 := NB1044_1074.out
           have hnb135 := NB1074_1086.out
           have hnc135 := NB1086_1074.out
           have ⟨hcz136_0, hcz136_1, hcz136_2, hcz136_3, hcz136_4, hfz136_0, hfz136_1, hfz136_2, hfz136_3, hfz136_4⟩ := bc5 BK1074
           go_wp2_with (first | (go_at_call 18; (with_reducible refine (laws_eqSession.calls kj18 t1090 t1091 _ _ t1092 _ _ t1095 _ _ t1098 t1061 t1062 _ _ t1063 _ _ t1066 _ _ t1069 false _ ?s1 ?s2 ?s3 ?s4 ?s5 ?s6 ?s7 ?s8 ?s9 ?s10 ?s11 ?s12 A111.out).mono ?_); (case s1 => exact cr HO_1104002); (case s2 => exact rq1 HO_1104002); (case s3 => exact cr HO_1104003); (case s4 => exact rq1 HO_1104003); (case s5 => exact cr HO_1104004); (case s6 => exact rq1 HO_1104004); (case s7 => exact cr HO_1075002); (case s8 => exact rq1 HO_1075002); (case s9 => exact cr HO_1075003); (case s10 => exact rq1 HO_1075003); (case s11 => exact cr HO_1075004); (case s12 => exact rq1 HO_1075004); rintro e w137 ⟨rfl, hb⟩; replace HO_10 := rb HO_10 hb; replace HO_1075002 := rb HO_1075002 hb; replace HO_1075003 := rb HO_1075003 hb; replace HO_1075004 := rb HO_1075004 hb; replace HO_1087002 := rb HO_1087002 hb; replace HO_1087003 := rb HO_1087003 hb; replace HO_1087004 := rb HO_1087004 hb; replace HO_1104002 := rb HO_1104002 hb; replace HO_1104003 := rb HO_1104003 hb; replace HO_1104004 := rb HO_1104004 hb; replace HO1109 := rb HO1109 hb; replace HO1112 := rb HO1112 hb; replace HO1115 := rb HO1115 hb; replace HO1119 := rb HO1119 hb; replace BK1044 := zb BK1044 hb; replace BK1074 := zb BK1074 hb; replace BK1086 := zb BK1086 hb; replace BK1103 := zb BK1103 hb; replace HB := sb hb; (try clear hb)))
           go_meet
           case rel => exact ⟨_, (true), sq, H', ⟨by have := HJ18.out; first | omega | exact Nat.le_refl _⟩, ⟨rm HO_1075002⟩, ⟨rm HO_1075003⟩, ⟨rm HO_1075004⟩, ⟨rm HO_1087002⟩, ⟨rm HO_1087003⟩, ⟨rm HO_1087004⟩, ⟨rm HO_1104002⟩, ⟨rm HO_1104003⟩, ⟨rm HO_1104004⟩, ⟨zq BK1044⟩, ⟨zq BK1074⟩, ⟨zq BK1086⟩, ⟨zq BK1103⟩, ⟨bq⟩⟩
        case rest =>
         clear HC94
         try clear c85
         try clear c88
         try clear c91
         try clear c110b0
         try clear c112
         try clear c113b0
         try clear c113b1
         try clear hcz107_0 hcz107_1 hcz107_2 hcz107_3 hcz107_4 hfz107_0 hfz107_1 hfz107_2 hfz107_3 hfz107_4
         try clear hcz117_0 hcz117_1 hcz117_2 hcz117_3 hcz117_4 hfz117_0 hfz117_1 hfz117_2 hfz117_3 hfz117_4
         try clear hcz120_0 hcz120_1 hcz120_2 hcz120_3 hcz120_4 hfz120_0 hfz120_1 hfz120_2 hfz120_3 hfz120_4
         try clear hcz125_0 hcz125_1 hcz125_2 hcz125_3 hcz125_4 hfz125_0 hfz125_1 hfz125_2 hfz125_3 hfz125_4
         try clear hcz128_0 hcz128_1 hcz128_2 hcz128_3 hcz128_4 hfz128_0 hfz128_1 hfz128_2 hfz128_3 hfz128_4
         try clear hcz133_0 hcz133_1 hcz133_2 hcz133_3 hcz133_4 hfz133_0 hfz133_1 hfz133_2 hfz133_3 hfz133_4
         try clear hcz136_0 hcz136_1 hcz136_2 hcz136_3 hcz136_4 hfz136_0 hfz136_1 hfz136_2 hfz136_3 hfz136_4
         try clear hcz21_4 hfz21_0 hfz21_1 hfz21_2 hfz21_3 hfz21_4
         try clear hcz23_0 hcz23_1 hcz23_2 hcz23_3 hcz23_4 hfz23_0 hfz23_1 hfz23_2 hfz23_3 hfz23_4
         try clear hcz33_0 hcz33_1 hcz33_2 hcz33_3 hcz33_4 hfz33_0 hfz33_1 hfz33_2 hfz33_3 hfz33_4
         try clear hcz37_0 hcz37_1 hcz37_2 hcz37_3 hcz37_4 hfz37_0 hfz37_1 hfz37_2 hfz37_3 hfz37_4
         try clear hcz42_0 hcz42_1 hcz42_2 hcz42_3 hcz42_4 hfz42_0 hfz42_1 hfz42_2 hfz42_3 hfz42_4
         try clear hcz47_0 hcz47_1 hcz47_2 hcz47_3 hcz47_4 hfz47_0 hfz47_1 hfz47_2 hfz47_3 hfz47_4
         try clear hcz54_0 hcz54_1 hcz54_2 hcz54_3 hcz54_4 hfz54_0 hfz54_1 hfz54_2 hfz54_3 hfz54_4
         try clear hcz64_0 hcz64_1 hcz64_2 hcz64_3 hcz64_4 hfz64_0 hfz64_1 hfz64_2 hfz64_3 hfz64_4
         try clear hcz67_0 hcz67_1 hcz67_2 hcz67_3 hcz67_4 hfz67_0 hfz67_1 hfz67_2 hfz67_3 hfz67_4
         try clear hcz6_0 hcz6_1 hcz6_2 hcz6_3 hcz6_4 hfz6_0 hfz6_1 hfz6_2 hfz6_3 hfz6_4
         try clear hcz72_0 hcz72_1 hcz72_2 hcz72_3 hcz72_4 hfz72_0 hfz72_1 hfz72_2 hfz72_3 hfz72_4
         try clear hcz75_0 hcz75_1 hcz75_2 hcz75_3 hcz75_4 hfz75_0 hfz75_1 hfz75_2 hfz75_3 hfz75_4
         try clear hcz80_0 hcz80_1 hcz80_2 hcz80_3 hcz80_4 hfz80_0 hfz80_1 hfz80_2 hfz80_3 hfz80_4
         try clear hcz83_0 hcz83_1 hcz83_2 hcz83_3 hcz83_4 hfz83_0 hfz83_1 hfz83_2 hfz83_3 hfz83_4
         try clear hfz11_0 hfz11_1 hfz11_2 hfz11_3 hfz11_4
         obtain ⟨kq, x97_93, rfl, HA, HJ93, HO_1075002, HO_1075003, HO_1075004, HO_1087002, HO_1087003, HO_1087004, HO_1104002, HO_1104003, HO_1104004, BK1044, BK1074, BK1086, BK1103, HB⟩ := hcut
         have hl1087002_93 := (Kd.R_reads' HO_1087002.out).1
         rw [hl1087002_93] at HO_1087002
         (try simp only [hl1087002_93])
         (try simp only [hl1087002_93] at BK1044)
         (try simp only [hl1087002_93] at BK1074)
         (try simp only [hl1087002_93] at BK1086)
         (try simp only [hl1087002_93] at BK1103)
         (try simp only [hl1087002_93] at HO_1075002)
         (try simp only [hl1087002_93] at HO_1075003)
         (try simp only [hl1087002_93] at HO_1075004)
         (try simp only [hl1087002_93] at HO_1087003)
         (try simp only [hl1087002_93] at HO_1087004)
         (try simp only [hl1087002_93] at HO_1104002)
         (try simp only [hl1087002_93] at HO_1104003)
         (try simp only [hl1087002_93] at HO_1104004)
         have hl1087003_93 := (Kd.R_reads' HO_1087003.out).1
         rw [hl1087003_93] at HO_1087003
         (try simp only [hl1087003_93])
         (try simp only [hl1087003_93] at BK1044)
         (try simp only [hl1087003_93] at BK1074)
         (try simp only [hl1087003_93] at BK1086)
         (try simp only [hl1087003_93] at BK1103)
         (try simp only [hl1087003_93] at HO_1075002)
         (try simp only [hl1087003_93] at HO_1075003)
         (try simp only [hl1087003_93] at HO_1075004)
         (try simp only [hl1087003_93] at HO_1087002)
         (try simp only [hl1087003_93] at HO_1087004)
         (try simp only [hl1087003_93] at HO_1104002)
         (try simp only [hl1087003_93] at HO_1104003)
         (try simp only [hl1087003_93] at HO_1104004)
         have hl1087004_93 := (Kd.R_reads' HO_1087004.out).1
         rw [hl1087004_93] at HO_1087004
         (try simp only [hl1087004_93])
         (try simp only [hl1087004_93] at BK1044)
         (try simp only [hl1087004_93] at BK1074)
         (try simp only [hl1087004_93] at BK1086)
         (try simp only [hl1087004_93] at BK1103)
         (try simp only [hl1087004_93] at HO_1075002)
         (try simp only [hl1087004_93] at HO_1075003)
         (try simp only [hl1087004_93] at HO_1075004)
         (try simp only [hl1087004_93] at HO_1087002)
         (try simp only [hl1087004_93] at HO_1087003)
         (try simp only [hl1087004_93] at HO_1104002)
         (try simp only [hl1087004_93] at HO_1104003)
         (try simp only [hl1087004_93] at HO_1104004)
         cases kq with
         | zero => exact absurd HA.out (by simp [laws_FnExactRunSession.j1])
         | succ kj93 =>
          have H := HA.out
          clear HA
          simp only [laws_FnExactRunSession.j1] at H
          by_cases c138 : x97_93 = true
          ·subst c138
           rw [if_pos rfl] at H
           try dsimp only at H
           obtain rfl := Option.some.inj H
           go_wp2
           go_ret
           exact ⟨eq_, bq⟩
          ·replace c138 := Bool.eq_false_iff.mpr c138
           subst c138
           rw [if_neg (show ¬ (false = true) by decide)] at H
           try dsimp only at H
           obtain ⟨⟨t1128, t1129, t1130, t1131⟩, A139, H⟩ := bindq H
           try dsimp only at H
           obtain ⟨t1132, A140, H⟩ := bindq H
           try dsimp only at H
           by_cases c141 : t1132 < 0
           ·rw [if_pos c141] at H
            have c141b0 : decide (t1132 < 0) = true := decide_eq_true c141
            clear c141
            obtain rfl := Option.some.inj H
            have hnb142 := NB1103_1044.out
            have hnc142 := NB1044_1103.out
            have hnb143 := NB1103_1074.out
            have hnc143 := NB1074_1103.out
            have hnb144 := NB1103_1086.out
            have hnc144 := NB1086_1103.out
            have ⟨hcz145_0, hcz145_1, hcz145_2, hcz145_3, hcz145_4, hfz145_0, hfz145_1, hfz145_2, hfz145_3, hfz145_4⟩ := bc5 BK1103
            go_wp2_with (first | ((with_reducible refine gate_callee (f := 25) rfl ?_); refine goesQ (some 100) Try.func25 #[.agg #[.int .i64 t1090, .int .i64 t1091, .slice Ao55 t1092.length co55, .slice Ao56 t1095.length co56, .slice Ao57 t1098.length co57], .int .i64 1] ?_; (with_reducible refine (laws_markSession.calls kj93 t1090 t1091 (fun k_ => some k_ = (.slice Ao55 t1092.length co55 : Value).ownBlock) (.slice Ao55 t1092.length co55) t1092 (fun k_ => some k_ = (.slice Ao56 t1095.length co56 : Value).ownBlock) (.slice Ao56 t1095.length co56) t1095 (fun k_ => some k_ = (.slice Ao57 t1098.length co57 : Value).ownBlock) (.slice Ao57 t1098.length co57) t1098 1 t1128 t1129 t1130 t1131 w _ ?s1 ?s2 ?s3 ?s4 ?s5 ?s6 A139.out).mono ?_); (case s1 => repeat (first | (with_reducible first | exact HB.out | apply below_alloc | apply pw_below_drewN | apply below_drew1 | refine below_set ?_ GE1044.out | refine below_set ?_ GE1074.out | refine below_set ?_ GE1086.out | refine below_set ?_ GE1103.out) | exact HB.out)); (case s2 => exact Kd.R_tight rfl HO_1104002.out); (case s3 => exact Kd.R_tight rfl HO_1104003.out); (case s4 => exact fun k_ e_ => (HO_1104003.out.1 k_ e_.symm).2.2.2.2); (case s5 => exact Kd.R_tight rfl HO_1104004.out); (case s6 => exact fun k_ e_ => (HO_1104004.out.1 k_ e_.symm).2.2.2.2); rintro e w146 ⟨rfl, hy0, hy1, hy2, hb, hkp⟩; refine ⟨_, rfl, ?_⟩; replace HO_1075002 := am (Kd.R_mono (ok' := fun k_ => some k_ ≠ (.slice Ao43 t1122.length co43 : Value).ownBlock ∧ some k_ ≠ (.slice Ao55 t1092.length co55 : Value).ownBlock) (Kd.R_keptB ((Kd.R_apart' (Kd.R_apart' HO_1075002.out (Kd.R_typed HO_1104003.out) (by decide)) (Kd.R_typed HO_1104004.out) (by decide))) hkp (fun k_ hk_ hs_ => Or.elim hs_ (fun e_ => (hk_.1.1.2) e_) (fun e_ => Or.elim e_ (fun e_ => (hk_.1.2) e_) (fun e_ => (hk_.2) e_)))) (fun k_ hk_ => ⟨hk_.1.1.1.1, hk_.1.1.1.2⟩)); replace HO_1075003 := am (Kd.R_mono (ok' := fun k_ => some k_ ≠ (.slice Ao36 t1069.length co36 : Value).ownBlock ∧ some k_ ≠ (.slice Ao44 t1123.length co44 : Value).ownBlock ∧ some k_ ≠ (.slice Ao45 t1124.length co45 : Value).ownBlock ∧ some k_ ≠ (.slice Ao56 t1095.length co56 : Value).ownBlock ∧ some k_ ≠ (.slice Ao57 t1098.length co57 : Value).ownBlock) (Kd.R_keptB ((Kd.R_apart' HO_1075003.out (Kd.R_typed HO_1104002.out) (by decide))) hkp (fun k_ hk_ hs_ => Or.elim hs_ (fun e_ => (hk_.2) e_) (fun e_ => Or.elim e_ (fun e_ => (hk_.1.2.2.2.1) e_) (fun e_ => (hk_.1.2.2.2.2) e_)))) (fun k_ hk_ => ⟨hk_.1.1.1, hk_.1.1.2.1, hk_.1.1.2.2.1, hk_.1.1.2.2.2.1, hk_.1.1.2.2.2.2⟩)); replace HO_1075004 := am (Kd.R_mono (ok' := fun k_ => some k_ ≠ (.slice Ao35 t1066.length co35 : Value).ownBlock ∧ some k_ ≠ (.slice Ao44 t1123.length co44 : Value).ownBlock ∧ some k_ ≠ (.slice Ao45 t1124.length co45 : Value).ownBlock ∧ some k_ ≠ (.slice Ao56 t1095.length co56 : Value).ownBlock ∧ some k_ ≠ (.slice Ao57 t1098.length co57 : Value).ownBlock) (Kd.R_keptB ((Kd.R_apart' HO_1075004.out (Kd.R_typed HO_1104002.out) (by decide))) hkp (fun k_ hk_ hs_ => Or.elim hs_ (fun e_ => (hk_.2) e_) (fun e_ => Or.elim e_ (fun e_ => (hk_.1.2.2.2.1) e_) (fun e_ => (hk_.1.2.2.2.2) e_)))) (fun k_ hk_ => ⟨hk_.1.1.1, hk_.1.1.2.1, hk_.1.1.2.2.1, hk_.1.1.2.2.2.1, hk_.1.1.2.2.2.2⟩)); replace HO_1087002 := am (Kd.R_mono (ok' := fun k_ => some k_ ≠ (.slice Ao34 t1063.length co34 : Value).ownBlock ∧ some k_ ≠ (.slice Ao55 t1092.length co55 : Value).ownBlock) (Kd.R_keptB ((Kd.R_apart' (Kd.R_apart' HO_1087002.out (Kd.R_typed HO_1104003.out) (by decide)) (Kd.R_typed HO_1104004.out) (by decide))) hkp (fun k_ hk_ hs_ => Or.elim hs_ (fun e_ => (hk_.1.1.2) e_) (fun e_ => Or.elim e_ (fun e_ => (hk_.1.2) e_) (fun e_ => (hk_.2) e_)))) (fun k_ hk_ => ⟨hk_.1.1.1.1, hk_.1.1.1.2⟩)); replace HO_1087003 := am (Kd.R_mono (ok' := fun k_ => some k_ ≠ (.slice Ao35 t1066.length co35 : Value).ownBlock ∧ some k_ ≠ (.slice Ao36 t1069.length co36 : Value).ownBlock ∧ some k_ ≠ (.slice Ao45 t1124.length co45 : Value).ownBlock ∧ some k_ ≠ (.slice Ao56 t1095.length co56 : Value).ownBlock ∧ some k_ ≠ (.slice Ao57 t1098.length co57 : Value).ownBlock) (Kd.R_keptB ((Kd.R_apart' HO_1087003.out (Kd.R_typed HO_1104002.out) (by decide))) hkp (fun k_ hk_ hs_ => Or.elim hs_ (fun e_ => (hk_.2) e_) (fun e_ => Or.elim e_ (fun e_ => (hk_.1.2.2.2.1) e_) (fun e_ => (hk_.1.2.2.2.2) e_)))) (fun k_ hk_ => ⟨hk_.1.1.1, hk_.1.1.2.1, hk_.1.1.2.2.1, hk_.1.1.2.2.2.1, hk_.1.1.2.2.2.2⟩)); replace HO_1087004 := am (Kd.R_mono (ok' := fun k_ => some k_ ≠ (.slice Ao35 t1066.length co35 : Value).ownBlock ∧ some k_ ≠ (.slice Ao36 t1069.length co36 : Value).ownBlock ∧ some k_ ≠ (.slice Ao44 t1123.length co44 : Value).ownBlock ∧ some k_ ≠ (.slice Ao56 t1095.length co56 : Value).ownBlock ∧ some k_ ≠ (.slice Ao57 t1098.length co57 : Value).ownBlock) (Kd.R_keptB ((Kd.R_apart' HO_1087004.out (Kd.R_typed HO_1104002.out) (by decide))) hkp (fun k_ hk_ hs_ => Or.elim hs_ (fun e_ => (hk_.2) e_) (fun e_ => Or.elim e_ (fun e_ => (hk_.1.2.2.2.1) e_) (fun e_ => (hk_.1.2.2.2.2) e_)))) (fun k_ hk_ => ⟨hk_.1.1.1, hk_.1.1.2.1, hk_.1.1.2.2.1, hk_.1.1.2.2.2.1, hk_.1.1.2.2.2.2⟩)); replace BK1044 := am (blk_kept (zq BK1044) hkp (fun hs_ => Or.elim hs_ (fun e_ => (fun e_ => (Kd.R_ne HO_1104002.out BK1044.out (by decide)) e_) e_) (fun e_ => Or.elim e_ (fun e_ => (fun e_ => (Kd.R_ne HO_1104003.out BK1044.out (by decide)) e_) e_) (fun e_ => (fun e_ => (Kd.R_ne HO_1104004.out BK1044.out (by decide)) e_) e_)))); replace BK1074 := am (blk_kept (zq BK1074) hkp (fun hs_ => Or.elim hs_ (fun e_ => (fun e_ => (Kd.R_ne HO_1104002.out BK1074.out (by decide)) e_) e_) (fun e_ => Or.elim e_ (fun e_ => (fun e_ => (Kd.R_ne HO_1104003.out BK1074.out (by decide)) e_) e_) (fun e_ => (fun e_ => (Kd.R_ne HO_1104004.out BK1074.out (by decide)) e_) e_)))); replace BK1086 := am (blk_kept (zq BK1086) hkp (fun hs_ => Or.elim hs_ (fun e_ => (fun e_ => (Kd.R_ne HO_1104002.out BK1086.out (by decide)) e_) e_) (fun e_ => Or.elim e_ (fun e_ => (fun e_ => (Kd.R_ne HO_1104003.out BK1086.out (by decide)) e_) e_) (fun e_ => (fun e_ => (Kd.R_ne HO_1104004.out BK1086.out (by decide)) e_) e_)))); replace BK1103 := am (blk_kept (zq BK1103) hkp (fun hs_ => Or.elim hs_ (fun e_ => (fun e_ => (Kd.R_ne HO_1104002.out BK1103.out (by decide)) e_) e_) (fun e_ => Or.elim e_ (fun e_ => (fun e_ => (Kd.R_ne HO_1104003.out BK1103.out (by decide)) e_) e_) (fun e_ => (fun e_ => (Kd.R_ne HO_1104004.out BK1103.out (by decide)) e_) e_)))); replace HO_1104002 := am (Kd.R_reok rfl hy0 (fun k_ e_ => HO_1104002.out.1 k_ e_)); replace HO_1104003 := am (Kd.R_reok rfl hy1 (fun k_ e_ => HO_1104003.out.1 k_ e_)); replace HO_1104004 := am (Kd.R_reok rfl hy2 (fun k_ e_ => HO_1104004.out.1 k_ e_)); replace HB := am (hb); (try clear hb hkp hy0 hy1 hy2); have ⟨hcz147_0, hcz147_1, hcz147_2, hcz147_3, hcz147_4, hfz147_0, hfz147_1, hfz147_2, hfz147_3, hfz147_4⟩ := bc5 BK1103) | ((with_reducible refine gate_callee (f := 26) rfl ?_); refine goesL_ (some 103) rfl rfl Try.func26 (by kernel_rfl) rfl #[.agg #[.int .i64 t1090, .int .i64 t1091, .slice Ao55 t1129.length co55, .slice Ao56 t1130.length co56, .slice Ao57 t1131.length co57], .int .i64 1] rfl (by (try simp only [List.map_toArray, List.map_cons, List.map_nil]); first | done | (rw [show t1129.length = t1092.length from (Kd.R_reads' HO_1104002.out).1.symm, show t1130.length = t1095.length from (Kd.R_reads' HO_1104003.out).1.symm, show t1131.length = t1098.length from (Kd.R_reads' HO_1104004.out).1.symm] <;> rfl) | rfl | (simp only [List.length_drop, List.length_take]; rfl)) ?_; (with_reducible refine (laws_heldSession.calls kj93 t1090 t1091 _ _ t1129 _ _ t1130 _ _ t1131 1 t1132 _ ?s1 ?s2 ?s3 ?s4 ?s5 ?s6 A140.out).mono ?_); (case s1 => exact cr HO_1104002); (case s2 => rw [show t1129.length = t1092.length from (Kd.R_reads' HO_1104002.out).1.symm]; exact rq1 HO_1104002); (case s3 => exact cr HO_1104003); (case s4 => rw [show t1130.length = t1095.length from (Kd.R_reads' HO_1104003.out).1.symm]; exact rq1 HO_1104003); (case s5 => exact cr HO_1104004); (case s6 => rw [show t1131.length = t1098.length from (Kd.R_reads' HO_1104004.out).1.symm]; exact rq1 HO_1104004); rintro e w148 ⟨rfl, hb⟩; refine ⟨_, rfl, ?_⟩; replace HO_1075002 := rb HO_1075002 hb; replace HO_1075003 := rb HO_1075003 hb; replace HO_1075004 := rb HO_1075004 hb; replace HO_1087002 := rb HO_1087002 hb; replace HO_1087003 := rb HO_1087003 hb; replace HO_1087004 := rb HO_1087004 hb; replace HO_1104002 := rb HO_1104002 hb; replace HO_1104003 := rb HO_1104003 hb; replace HO_1104004 := rb HO_1104004 hb; replace BK1044 := zb BK1044 hb; replace BK1074 := zb BK1074 hb; replace BK1086 := zb BK1086 hb; replace BK1103 := zb BK1103 hb; replace HB := sb hb; (try clear hb)))
            go_ret
            exact ⟨eq_, bq⟩
           ·rw [if_neg c141] at H
            have c141b0 : decide (t1132 < 0) = false := decide_eq_false c141
            clear c141
            by_cases c149 : t1132 = t1128
            ·rw [if_pos c149] at H
             have c149b0 : (t1132 == t1128) = true := beq_iff_eq.mpr c149
             have c149b1 : (t1132 != t1128) = false := bne_eq_false_iff_eq.mpr c149
             clear c149
             obtain ⟨⟨t1133, t1134, t1135, t1138, t1141⟩, A150, H⟩ := bindq H
             try dsimp only at H
             obtain ⟨t1144, A151, H⟩ := bindq H
             try dsimp only at H
             obtain ⟨⟨t1147, t1148, t1149, t1152, t1155, t1158, t1159⟩, A152, H⟩ := bindq H
             try dsimp only at H
             have HC153 := am H
             clear H
             have hnb154 := NB1103_1044.out
             have hnc154 := NB1044_1103.out
             have hnb155 := NB1103_1074.out
             have hnc155 := NB1074_1103.out
             have hnb156 := NB1103_1086.out
             have hnc156 := NB1086_1103.out
             have ⟨hcz157_0, hcz157_1, hcz157_2, hcz157_3, hcz157_4, hfz157_0, hfz157_1, hfz157_2, hfz157_3, hfz157_4⟩ := bc5 BK1103
             go_upto_region 32 with (first | ((with_reducible refine gate_callee (f := 25) rfl ?_); refine goesQ (some 100) Try.func25 #[.agg #[.int .i64 t1090, .int .i64 t1091, .slice Ao55 t1092.length co55, .slice Ao56 t1095.length co56, .slice Ao57 t1098.length co57], .int .i64 1] ?_; (with_reducible refine (laws_markSession.calls kj93 t1090 t1091 (fun k_ => some k_ = (.slice Ao55 t1092.length co55 : Value).ownBlock) (.slice Ao55 t1092.length co55) t1092 (fun k_ => some k_ = (.slice Ao56 t1095.length co56 : Value).ownBlock) (.slice Ao56 t1095.length co56) t1095 (fun k_ => some k_ = (.slice Ao57 t1098.length co57 : Value).ownBlock) (.slice Ao57 t1098.length co57) t1098 1 t1128 t1129 t1130 t1131 w _ ?s1 ?s2 ?s3 ?s4 ?s5 ?s6 A139.out).mono ?_); (case s1 => repeat (first | (with_reducible first | exact HB.out | apply below_alloc | apply pw_below_drewN | apply below_drew1 | refine below_set ?_ GE1044.out | refine below_set ?_ GE1074.out | refine below_set ?_ GE1086.out | refine below_set ?_ GE1103.out) | exact HB.out)); (case s2 => exact Kd.R_tight rfl HO_1104002.out); (case s3 => exact Kd.R_tight rfl HO_1104003.out); (case s4 => exact fun k_ e_ => (HO_1104003.out.1 k_ e_.symm).2.2.2.2); (case s5 => exact Kd.R_tight rfl HO_1104004.out); (case s6 => exact fun k_ e_ => (HO_1104004.out.1 k_ e_.symm).2.2.2.2); rintro e w158 ⟨rfl, hy0, hy1, hy2, hb, hkp⟩; refine ⟨_, rfl, ?_⟩; replace HO_1075002 := am (Kd.R_mono (ok' := fun k_ => some k_ ≠ (.slice Ao43 t1122.length co43 : Value).ownBlock ∧ some k_ ≠ (.slice Ao55 t1092.length co55 : Value).ownBlock) (Kd.R_keptB ((Kd.R_apart' (Kd.R_apart' HO_1075002.out (Kd.R_typed HO_1104003.out) (by decide)) (Kd.R_typed HO_1104004.out) (by decide))) hkp (fun k_ hk_ hs_ => Or.elim hs_ (fun e_ => (hk_.1.1.2) e_) (fun e_ => Or.elim e_ (fun e_ => (hk_.1.2) e_) (fun e_ => (hk_.2) e_)))) (fun k_ hk_ => ⟨hk_.1.1.1.1, hk_.1.1.1.2⟩)); replace HO_1075003 := am (Kd.R_mono (ok' := fun k_ => some k_ ≠ (.slice Ao36 t1069.length co36 : Value).ownBlock ∧ some k_ ≠ (.slice Ao44 t1123.length co44 : Value).ownBlock ∧ some k_ ≠ (.slice Ao45 t1124.length co45 : Value).ownBlock ∧ some k_ ≠ (.slice Ao56 t1095.length co56 : Value).ownBlock ∧ some k_ ≠ (.slice Ao57 t1098.length co57 : Value).ownBlock) (Kd.R_keptB ((Kd.R_apart' HO_1075003.out (Kd.R_typed HO_1104002.out) (by decide))) hkp (fun k_ hk_ hs_ => Or.elim hs_ (fun e_ => (hk_.2) e_) (fun e_ => Or.elim e_ (fun e_ => (hk_.1.2.2.2.1) e_) (fun e_ => (hk_.1.2.2.2.2) e_)))) (fun k_ hk_ => ⟨hk_.1.1.1, hk_.1.1.2.1, hk_.1.1.2.2.1, hk_.1.1.2.2.2.1, hk_.1.1.2.2.2.2⟩)); replace HO_1075004 := am (Kd.R_mono (ok' := fun k_ => some k_ ≠ (.slice Ao35 t1066.length co35 : Value).ownBlock ∧ some k_ ≠ (.slice Ao44 t1123.length co44 : Value).ownBlock ∧ some k_ ≠ (.slice Ao45 t1124.length co45 : Value).ownBlock ∧ some k_ ≠ (.slice Ao56 t1095.length co56 : Value).ownBlock ∧ some k_ ≠ (.slice Ao57 t1098.length co57 : Value).ownBlock) (Kd.R_keptB ((Kd.R_apart' HO_1075004.out (Kd.R_typed HO_1104002.out) (by decide))) hkp (fun k_ hk_ hs_ => Or.elim hs_ (fun e_ => (hk_.2) e_) (fun e_ => Or.elim e_ (fun e_ => (hk_.1.2.2.2.1) e_) (fun e_ => (hk_.1.2.2.2.2) e_)))) (fun k_ hk_ => ⟨hk_.1.1.1, hk_.1.1.2.1, hk_.1.1.2.2.1, hk_.1.1.2.2.2.1, hk_.1.1.2.2.2.2⟩)); replace HO_1087002 := am (Kd.R_mono (ok' := fun k_ => some k_ ≠ (.slice Ao34 t1063.length co34 : Value).ownBlock ∧ some k_ ≠ (.slice Ao55 t1092.length co55 : Value).ownBlock) (Kd.R_keptB ((Kd.R_apart' (Kd.R_apart' HO_1087002.out (Kd.R_typed HO_1104003.out) (by decide)) (Kd.R_typed HO_1104004.out) (by decide))) hkp (fun k_ hk_ hs_ => Or.elim hs_ (fun e_ => (hk_.1.1.2) e_) (fun e_ => Or.elim e_ (fun e_ => (hk_.1.2) e_) (fun e_ => (hk_.2) e_)))) (fun k_ hk_ => ⟨hk_.1.1.1.1, hk_.1.1.1.2⟩)); replace HO_1087003 := am (Kd.R_mono (ok' := fun k_ => some k_ ≠ (.slice Ao35 t1066.length co35 : Value).ownBlock ∧ some k_ ≠ (.slice Ao36 t1069.length co36 : Value).ownBlock ∧ some k_ ≠ (.slice Ao45 t1124.length co45 : Value).ownBlock ∧ some k_ ≠ (.slice Ao56 t1095.length co56 : Value).ownBlock ∧ some k_ ≠ (.slice Ao57 t1098.length co57 : Value).ownBlock) (Kd.R_keptB ((Kd.R_apart' HO_1087003.out (Kd.R_typed HO_1104002.out) (by decide))) hkp (fun k_ hk_ hs_ => Or.elim hs_ (fun e_ => (hk_.2) e_) (fun e_ => Or.elim e_ (fun e_ => (hk_.1.2.2.2.1) e_) (fun e_ => (hk_.1.2.2.2.2) e_)))) (fun k_ hk_ => ⟨hk_.1.1.1, hk_.1.1.2.1, hk_.1.1.2.2.1, hk_.1.1.2.2.2.1, hk_.1.1.2.2.2.2⟩)); replace HO_1087004 := am (Kd.R_mono (ok' := fun k_ => some k_ ≠ (.slice Ao35 t1066.length co35 : Value).ownBlock ∧ some k_ ≠ (.slice Ao36 t1069.length co36 : Value).ownBlock ∧ some k_ ≠ (.slice Ao44 t1123.length co44 : Value).ownBlock ∧ some k_ ≠ (.slice Ao56 t1095.length co56 : Value).ownBlock ∧ some k_ ≠ (.slice Ao57 t1098.length co57 : Value).ownBlock) (Kd.R_keptB ((Kd.R_apart' HO_1087004.out (Kd.R_typed HO_1104002.out) (by decide))) hkp (fun k_ hk_ hs_ => Or.elim hs_ (fun e_ => (hk_.2) e_) (fun e_ => Or.elim e_ (fun e_ => (hk_.1.2.2.2.1) e_) (fun e_ => (hk_.1.2.2.2.2) e_)))) (fun k_ hk_ => ⟨hk_.1.1.1, hk_.1.1.2.1, hk_.1.1.2.2.1, hk_.1.1.2.2.2.1, hk_.1.1.2.2.2.2⟩)); replace BK1044 := am (blk_kept (zq BK1044) hkp (fun hs_ => Or.elim hs_ (fun e_ => (fun e_ => (Kd.R_ne HO_1104002.out BK1044.out (by decide)) e_) e_) (fun e_ => Or.elim e_ (fun e_ => (fun e_ => (Kd.R_ne HO_1104003.out BK1044.out (by decide)) e_) e_) (fun e_ => (fun e_ => (Kd.R_ne HO_1104004.out BK1044.out (by decide)) e_) e_)))); replace BK1074 := am (blk_kept (zq BK1074) hkp (fun hs_ => Or.elim hs_ (fun e_ => (fun e_ => (Kd.R_ne HO_1104002.out BK1074.out (by decide)) e_) e_) (fun e_ => Or.elim e_ (fun e_ => (fun e_ => (Kd.R_ne HO_1104003.out BK1074.out (by decide)) e_) e_) (fun e_ => (fun e_ => (Kd.R_ne HO_1104004.out BK1074.out (by decide)) e_) e_)))); replace BK1086 := am (blk_kept (zq BK1086) hkp (fun hs_ => Or.elim hs_ (fun e_ => (fun e_ => (Kd.R_ne HO_1104002.out BK1086.out (by decide)) e_) e_) (fun e_ => Or.elim e_ (fun e_ => (fun e_ => (Kd.R_ne HO_1104003.out BK1086.out (by decide)) e_) e_) (fun e_ => (fun e_ => (Kd.R_ne HO_1104004.out BK1086.out (by decide)) e_) e_)))); replace BK1103 := am (blk_kept (zq BK1103) hkp (fun hs_ => Or.elim hs_ (fun e_ => (fun e_ => (Kd.R_ne HO_1104002.out BK1103.out (by decide)) e_) e_) (fun e_ => Or.elim e_ (fun e_ => (fun e_ => (Kd.R_ne HO_1104003.out BK1103.out (by decide)) e_) e_) (fun e_ => (fun e_ => (Kd.R_ne HO_1104004.out BK1103.out (by decide)) e_) e_)))); replace HO_1104002 := am (Kd.R_reok rfl hy0 (fun k_ e_ => HO_1104002.out.1 k_ e_)); replace HO_1104003 := am (Kd.R_reok rfl hy1 (fun k_ e_ => HO_1104003.out.1 k_ e_)); replace HO_1104004 := am (Kd.R_reok rfl hy2 (fun k_ e_ => HO_1104004.out.1 k_ e_)); replace HB := am (hb); (try clear hb hkp hy0 hy1 hy2); have ⟨hcz159_0, hcz159_1, hcz159_2, hcz159_3, hcz159_4, hfz159_0, hfz159_1, hfz159_2, hfz159_3, hfz159_4⟩ := bc5 BK1103) | ((with_reducible refine gate_callee (f := 26) rfl ?_); refine goesL_ (some 103) rfl rfl Try.func26 (by kernel_rfl) rfl #[.agg #[.int .i64 t1090, .int .i64 t1091, .slice Ao55 t1129.length co55, .slice Ao56 t1130.length co56, .slice Ao57 t1131.length co57], .int .i64 1] rfl (by (try simp only [List.map_toArray, List.map_cons, List.map_nil]); first | done | (rw [show t1129.length = t1092.length from (Kd.R_reads' HO_1104002.out).1.symm, show t1130.length = t1095.length from (Kd.R_reads' HO_1104003.out).1.symm, show t1131.length = t1098.length from (Kd.R_reads' HO_1104004.out).1.symm] <;> rfl) | rfl | (simp only [List.length_drop, List.length_take]; rfl)) ?_; (with_reducible refine (laws_heldSession.calls kj93 t1090 t1091 _ _ t1129 _ _ t1130 _ _ t1131 1 t1132 _ ?s1 ?s2 ?s3 ?s4 ?s5 ?s6 A140.out).mono ?_); (case s1 => exact cr HO_1104002); (case s2 => rw [show t1129.length = t1092.length from (Kd.R_reads' HO_1104002.out).1.symm]; exact rq1 HO_1104002); (case s3 => exact cr HO_1104003); (case s4 => rw [show t1130.length = t1095.length from (Kd.R_reads' HO_1104003.out).1.symm]; exact rq1 HO_1104003); (case s5 => exact cr HO_1104004); (case s6 => rw [show t1131.length = t1098.length from (Kd.R_reads' HO_1104004.out).1.symm]; exact rq1 HO_1104004); rintro e w160 ⟨rfl, hb⟩; refine ⟨_, rfl, ?_⟩; replace HO_1075002 := rb HO_1075002 hb; replace HO_1075003 := rb HO_1075003 hb; replace HO_1075004 := rb HO_1075004 hb; replace HO_1087002 := rb HO_1087002 hb; replace HO_1087003 := rb HO_1087003 hb; replace HO_1087004 := rb HO_1087004 hb; replace HO_1104002 := rb HO_1104002 hb; replace HO_1104003 := rb HO_1104003 hb; replace HO_1104004 := rb HO_1104004 hb; replace BK1044 := zb BK1044 hb; replace BK1074 := zb BK1074 hb; replace BK1086 := zb BK1086 hb; replace BK1103 := zb BK1103 hb; replace HB := sb hb; (try clear hb); have hnb161 := NB1044_1074.out; have hnc161 := NB1074_1044.out; have hnb162 := NB1044_1086.out; have hnc162 := NB1086_1044.out; have ⟨hcz163_0, hcz163_1, hcz163_2, hcz163_3, hcz163_4, hfz163_0, hfz163_1, hfz163_2, hfz163_3, hfz163_4⟩ := bc5 BK1044) | ((with_reducible refine gate_callee (f := 16) rfl ?_); refine goesQ (some 111) Try.func16 #[.agg #[.int .i64 a0_0, .int .i64 a0_1, .slice A0_2 l0_2.length c0_2, .slice A0_3 l0_3.length c0_3, .slice A0_4 l0_4.length c0_4]] ?_; (with_reducible refine (laws_toSession.calls kj93 a0_0 a0_1 _ _ l0_2 _ _ l0_3 _ _ l0_4 t1133 t1134 t1135 t1138 t1141 _ ?s1 ?s2 ?s3 ?s4 ?s5 ?s6 A150.out).mono ?_); (case s1 => exact cq (Kd.C_below HR0_2.out HB.out)); (case s2 => exact HC0_2.out); (case s3 => exact cq (Kd.C_below HR0_3.out HB.out)); (case s4 => exact HC0_3.out); (case s5 => exact cq (Kd.C_below HR0_4.out HB.out)); (case s6 => exact HC0_4.out); rintro e w164 ⟨v1136, v1139, v1142, rfl, ho0, ho1, ho2, hb⟩; refine ⟨_, rfl, ?_⟩; have HO1137 := rl (Kd.R_new' (Kd.R_new' (Kd.R_new' ho0 (lw HO_1075002)) (lw HO_1087002)) (lw HO_1104002)); replace HO_1075002 := am (Kd.R_elder' (rq HO_1075002) (Kd.R_base ho0) hb); replace HO_1087002 := am (Kd.R_elder' (rq HO_1087002) (Kd.R_base ho0) hb); replace HO_1104002 := am (Kd.R_elder' (rq HO_1104002) (Kd.R_base ho0) hb); have HO1140 := rl (Kd.R_new' (Kd.R_new' (Kd.R_new' (Kd.R_new' (Kd.R_new' (Kd.R_new' ho1 (lw HO_1075003)) (lw HO_1075004)) (lw HO_1087003)) (lw HO_1087004)) (lw HO_1104003)) (lw HO_1104004)); have HO1143 := rl (Kd.R_new' (Kd.R_new' (Kd.R_new' (Kd.R_new' (Kd.R_new' (Kd.R_new' ho2 (lw HO_1075003)) (lw HO_1075004)) (lw HO_1087003)) (lw HO_1087004)) (lw HO_1104003)) (lw HO_1104004)); replace HO_1075003 := tq2 (rq HO_1075003) hb ho1 ho2; replace HO_1075004 := tq2 (rq HO_1075004) hb ho1 ho2; replace HO_1087003 := tq2 (rq HO_1087003) hb ho1 ho2; replace HO_1087004 := tq2 (rq HO_1087004) hb ho1 ho2; replace HO_1104003 := tq2 (rq HO_1104003) hb ho1 ho2; replace HO_1104004 := tq2 (rq HO_1104004) hb ho1 ho2; replace BK1044 := zb BK1044 hb; replace BK1074 := zb BK1074 hb; replace BK1086 := zb BK1086 hb; replace BK1103 := zb BK1103 hb; replace HB := sb hb; (try clear hb ho0 ho1 ho2)) | ((with_reducible refine gate_callee (f := 41) rfl ?_); refine goesQ (some 113) Try.func41 #[.slice A1 l1.length c1] ?_; (with_reducible refine (laws_toSessionActS.calls kj93 _ _ l1 t1144 _ ?s1 ?s2 A151.out).mono ?_); (case s1 => exact cq (Kd.C_below HR1.out HB.out)); (case s2 => exact HC1.out); rintro e w165 ⟨v1145, rfl, ho0, hb⟩; refine ⟨_, rfl, ?_⟩; replace HO_1075002 := rb HO_1075002 hb; replace HO_1087002 := rb HO_1087002 hb; replace HO_1104002 := rb HO_1104002 hb; replace HO1137 := rb HO1137 hb; have HO1146 := rl (Kd.R_new' (Kd.R_new' (Kd.R_new' (Kd.R_new' (Kd.R_new' (Kd.R_new' (Kd.R_new' (Kd.R_new' ho0 (lw HO_1075003)) (lw HO_1075004)) (lw HO_1087003)) (lw HO_1087004)) (lw HO_1104003)) (lw HO_1104004)) (lw HO1140)) (lw HO1143)); replace HO_1075003 := am (Kd.R_elder' (rq HO_1075003) (Kd.R_base ho0) hb); replace HO_1075004 := am (Kd.R_elder' (rq HO_1075004) (Kd.R_base ho0) hb); replace HO_1087003 := am (Kd.R_elder' (rq HO_1087003) (Kd.R_base ho0) hb); replace HO_1087004 := am (Kd.R_elder' (rq HO_1087004) (Kd.R_base ho0) hb); replace HO_1104003 := am (Kd.R_elder' (rq HO_1104003) (Kd.R_base ho0) hb); replace HO_1104004 := am (Kd.R_elder' (rq HO_1104004) (Kd.R_base ho0) hb); replace HO1140 := am (Kd.R_elder' (rq HO1140) (Kd.R_base ho0) hb); replace HO1143 := am (Kd.R_elder' (rq HO1143) (Kd.R_base ho0) hb); replace BK1044 := zb BK1044 hb; replace BK1074 := zb BK1074 hb; replace BK1086 := zb BK1086 hb; replace BK1103 := zb BK1103 hb; replace HB := sb hb; (try clear hb ho0); obtain ⟨Ao166, co166, eo166⟩ := Kd.R_slice HO1137.out; subst eo166; obtain ⟨Ao167, co167, eo167⟩ := Kd.R_slice HO1140.out; subst eo167; obtain ⟨Ao168, co168, eo168⟩ := Kd.R_slice HO1143.out; subst eo168; obtain ⟨Ao169, co169, eo169⟩ := Kd.R_slice HO1146.out; subst eo169) | ((with_reducible refine gate_callee (f := 42) rfl ?_); refine goesQ (some 114) Try.func42 #[.agg #[.int .i64 t1133, .int .i64 t1134, .slice Ao166 t1135.length co166, .slice Ao167 t1138.length co167, .slice Ao168 t1141.length co168], .slice Ao169 t1144.length co169] ?_; (with_reducible refine (impl_RunSession.calls kj93 t1133 t1134 _ _ t1135 _ _ t1138 _ _ t1141 _ _ t1144 t1147 t1148 t1149 t1152 t1155 t1158 t1159 _ ?s1 ?s2 ?s3 ?s4 ?s5 ?s6 ?s7 ?s8 A152.out).mono ?_); (case s1 => exact cr HO1137); (case s2 => exact rq1 HO1137); (case s3 => exact cr HO1140); (case s4 => exact rq1 HO1140); (case s5 => exact cr HO1143); (case s6 => exact rq1 HO1143); (case s7 => exact cr HO1146); (case s8 => exact rq1 HO1146); rintro e w170 ⟨v1150, v1153, v1156, rfl, ho0, ho1, ho2, hb⟩; refine ⟨_, rfl, ?_⟩; have HO1151 := rl (Kd.R_new' (Kd.R_new' (Kd.R_new' (Kd.R_new' ho0 (lw HO_1075002)) (lw HO_1087002)) (lw HO_1104002)) (lw HO1137)); replace HO_1075002 := am (Kd.R_elder' (rq HO_1075002) (Kd.R_base ho0) hb); replace HO_1087002 := am (Kd.R_elder' (rq HO_1087002) (Kd.R_base ho0) hb); replace HO_1104002 := am (Kd.R_elder' (rq HO_1104002) (Kd.R_base ho0) hb); have HO1154 := rl (Kd.R_new' (Kd.R_new' (Kd.R_new' (Kd.R_new' (Kd.R_new' (Kd.R_new' (Kd.R_new' (Kd.R_new' (Kd.R_new' ho1 (lw HO_1075003)) (lw HO_1075004)) (lw HO_1087003)) (lw HO_1087004)) (lw HO_1104003)) (lw HO_1104004)) (lw HO1140)) (lw HO1143)) (lw HO1146)); have HO1157 := rl (Kd.R_new' (Kd.R_new' (Kd.R_new' (Kd.R_new' (Kd.R_new' (Kd.R_new' (Kd.R_new' (Kd.R_new' (Kd.R_new' ho2 (lw HO_1075003)) (lw HO_1075004)) (lw HO_1087003)) (lw HO_1087004)) (lw HO_1104003)) (lw HO_1104004)) (lw HO1140)) (lw HO1143)) (lw HO1146)); replace HO_1075003 := tq2 (rq HO_1075003) hb ho1 ho2; replace HO_1075004 := tq2 (rq HO_1075004) hb ho1 ho2; replace HO_1087003 := tq2 (rq HO_1087003) hb ho1 ho2; replace HO_1087004 := tq2 (rq HO_1087004) hb ho1 ho2; replace HO_1104003 := tq2 (rq HO_1104003) hb ho1 ho2; replace HO_1104004 := tq2 (rq HO_1104004) hb ho1 ho2; replace BK1044 := zb BK1044 hb; replace BK1074 := zb BK1074 hb; replace BK1086 := zb BK1086 hb; replace BK1103 := zb BK1103 hb; replace HB := sb hb; (try clear hb ho0 ho1 ho2)) | ((with_reducible refine gate_dst (N := 17) rfl ?_); refine box_event ?hg (N := 17) ?hd (cs := #[.int .i64 0, .int .i64 0, .slice none 0 0, .slice none 0 0, .slice none 0 0]) (t := 35) ?hr ?_; (case hd => rfl); (case hg => rfl); (case hr => first | (go_simp; done) | (go_simp; rfl)); intro gb1160 hg w171 hbox hb; replace HO_1075002 := rb HO_1075002 hb; replace HO_1075003 := rb HO_1075003 hb; replace HO_1075004 := rb HO_1075004 hb; replace HO_1087002 := rb HO_1087002 hb; replace HO_1087003 := rb HO_1087003 hb; replace HO_1087004 := rb HO_1087004 hb; replace HO_1104002 := rb HO_1104002 hb; replace HO_1104003 := rb HO_1104003 hb; replace HO_1104004 := rb HO_1104004 hb; replace HO1151 := rb HO1151 hb; replace HO1154 := rb HO1154 hb; replace HO1157 := rb HO1157 hb; have BK1160 := am (hbox); have GW1160 := am (gq hg); have GE1160 := am (gq hg); replace HB := sb hb; have NB1044_1160 := nl hg BK1044; have NB1160_1044 := ng hg BK1044; replace BK1044 := zb BK1044 hb; have NB1074_1160 := nl hg BK1074; have NB1160_1074 := ng hg BK1074; replace BK1074 := zb BK1074 hb; have NB1086_1160 := nl hg BK1086; have NB1160_1086 := ng hg BK1086; replace BK1086 := zb BK1086 hb; have NB1103_1160 := nl hg BK1103; have NB1160_1103 := ng hg BK1103; replace BK1103 := zb BK1103 hb; clear hb hbox hg; have hnb172 := NB1160_1044.out; have hnc172 := NB1044_1160.out; have hnb173 := NB1160_1074.out; have hnc173 := NB1074_1160.out; have hnb174 := NB1160_1086.out; have hnc174 := NB1086_1160.out; have hnb175 := NB1160_1103.out; have hnc175 := NB1103_1160.out; have ⟨hcz176_0, hcz176_1, hcz176_2, hcz176_3, hcz176_4, hfz176_0, hfz176_1, hfz176_2, hfz176_3, hfz176_4⟩ := bc5 BK1160; obtain ⟨Ao177, co177, eo177⟩ := Kd.R_slice HO1151.out; subst eo177; obtain ⟨Ao178, co178, eo178⟩ := Kd.R_slice HO1154.out; subst eo178; obtain ⟨Ao179, co179, eo179⟩ := Kd.R_slice HO1157.out; subst eo179))
             (try simp only [Act.put, List.setIfInBounds_toArray, List.set_cons_zero, List.set_cons_succ])
             go_cut [131] (fun v131 wc => ∃ (kq : Nat) (x131_152 : Bool), v131 = .bool x131_152 ∧ Aside0 (laws_FnExactRunSession.j2 kq t1128 x131_152 t1090 t1091 t1129 t1130 t1131 = some r) ∧ Aside0 (kq ≤ kj93) ∧ Aside0 (Kd.R k58 58 wc w.heap.size (fun k_ => some k_ ≠ ((.slice Ao43 t1122.length co43) : Value).ownBlock ∧ some k_ ≠ ((.slice Ao55 t1092.length co55) : Value).ownBlock ∧ some k_ ≠ ((.slice Ao177 t1149.length co177) : Value).ownBlock) (.slice Ao34 t1063.length co34) t1063) ∧ Aside0 (Kd.R k60 60 wc w.heap.size (fun k_ => some k_ ≠ ((.slice Ao36 t1069.length co36) : Value).ownBlock ∧ some k_ ≠ ((.slice Ao44 t1123.length co44) : Value).ownBlock ∧ some k_ ≠ ((.slice Ao45 t1124.length co45) : Value).ownBlock ∧ some k_ ≠ ((.slice Ao56 t1095.length co56) : Value).ownBlock ∧ some k_ ≠ ((.slice Ao57 t1098.length co57) : Value).ownBlock ∧ some k_ ≠ ((.slice Ao178 t1152.length co178) : Value).ownBlock ∧ some k_ ≠ ((.slice Ao179 t1155.length co179) : Value).ownBlock) (.slice Ao35 t1066.length co35) t1066) ∧ Aside0 (Kd.R k60 60 wc w.heap.size (fun k_ => some k_ ≠ ((.slice Ao35 t1066.length co35) : Value).ownBlock ∧ some k_ ≠ ((.slice Ao44 t1123.length co44) : Value).ownBlock ∧ some k_ ≠ ((.slice Ao45 t1124.length co45) : Value).ownBlock ∧ some k_ ≠ ((.slice Ao56 t1095.length co56) : Value).ownBlock ∧ some k_ ≠ ((.slice Ao57 t1098.length co57) : Value).ownBlock ∧ some k_ ≠ ((.slice Ao178 t1152.length co178) : Value).ownBlock ∧ some k_ ≠ ((.slice Ao179 t1155.length co179) : Value).ownBlock) (.slice Ao36 t1069.length co36) t1069) ∧ Aside0 (Kd.R k58 58 wc w.heap.size (fun k_ => some k_ ≠ ((.slice Ao34 t1063.length co34) : Value).ownBlock ∧ some k_ ≠ ((.slice Ao55 t1092.length co55) : Value).ownBlock ∧ some k_ ≠ ((.slice Ao177 t1149.length co177) : Value).ownBlock) (.slice Ao43 t1122.length co43) t1122) ∧ Aside0 (Kd.R k60 60 wc w.heap.size (fun k_ => some k_ ≠ ((.slice Ao35 t1066.length co35) : Value).ownBlock ∧ some k_ ≠ ((.slice Ao36 t1069.length co36) : Value).ownBlock ∧ some k_ ≠ ((.slice Ao45 t1124.length co45) : Value).ownBlock ∧ some k_ ≠ ((.slice Ao56 t1095.length co56) : Value).ownBlock ∧ some k_ ≠ ((.slice Ao57 t1098.length co57) : Value).ownBlock ∧ some k_ ≠ ((.slice Ao178 t1152.length co178) : Value).ownBlock ∧ some k_ ≠ ((.slice Ao179 t1155.length co179) : Value).ownBlock) (.slice Ao44 t1123.length co44) t1123) ∧ Aside0 (Kd.R k60 60 wc w.heap.size (fun k_ => some k_ ≠ ((.slice Ao35 t1066.length co35) : Value).ownBlock ∧ some k_ ≠ ((.slice Ao36 t1069.length co36) : Value).ownBlock ∧ some k_ ≠ ((.slice Ao44 t1123.length co44) : Value).ownBlock ∧ some k_ ≠ ((.slice Ao56 t1095.length co56) : Value).ownBlock ∧ some k_ ≠ ((.slice Ao57 t1098.length co57) : Value).ownBlock ∧ some k_ ≠ ((.slice Ao178 t1152.length co178) : Value).ownBlock ∧ some k_ ≠ ((.slice Ao179 t1155.length co179) : Value).ownBlock) (.slice Ao45 t1124.length co45) t1124) ∧ Aside0 (Kd.R k58 58 wc w.heap.size (fun k_ => some k_ ≠ ((.slice Ao34 t1063.length co34) : Value).ownBlock ∧ some k_ ≠ ((.slice Ao43 t1122.length co43) : Value).ownBlock ∧ some k_ ≠ ((.slice Ao177 t1149.length co177) : Value).ownBlock) (.slice Ao55 t1092.length co55) t1129) ∧ Aside0 (Kd.R k60 60 wc w.heap.size (fun k_ => some k_ ≠ ((.slice Ao35 t1066.length co35) : Value).ownBlock ∧ some k_ ≠ ((.slice Ao36 t1069.length co36) : Value).ownBlock ∧ some k_ ≠ ((.slice Ao44 t1123.length co44) : Value).ownBlock ∧ some k_ ≠ ((.slice Ao45 t1124.length co45) : Value).ownBlock ∧ some k_ ≠ ((.slice Ao57 t1098.length co57) : Value).ownBlock ∧ some k_ ≠ ((.slice Ao178 t1152.length co178) : Value).ownBlock ∧ some k_ ≠ ((.slice Ao179 t1155.length co179) : Value).ownBlock) (.slice Ao56 t1095.length co56) t1130) ∧ Aside0 (Kd.R k60 60 wc w.heap.size (fun k_ => some k_ ≠ ((.slice Ao35 t1066.length co35) : Value).ownBlock ∧ some k_ ≠ ((.slice Ao36 t1069.length co36) : Value).ownBlock ∧ some k_ ≠ ((.slice Ao44 t1123.length co44) : Value).ownBlock ∧ some k_ ≠ ((.slice Ao45 t1124.length co45) : Value).ownBlock ∧ some k_ ≠ ((.slice Ao56 t1095.length co56) : Value).ownBlock ∧ some k_ ≠ ((.slice Ao178 t1152.length co178) : Value).ownBlock ∧ some k_ ≠ ((.slice Ao179 t1155.length co179) : Value).ownBlock) (.slice Ao57 t1098.length co57) t1131) ∧ Aside0 (Kd.R k58 58 wc w.heap.size (fun k_ => some k_ ≠ ((.slice Ao34 t1063.length co34) : Value).ownBlock ∧ some k_ ≠ ((.slice Ao43 t1122.length co43) : Value).ownBlock ∧ some k_ ≠ ((.slice Ao55 t1092.length co55) : Value).ownBlock) (.slice Ao177 t1149.length co177) t1149) ∧ Aside0 (Kd.R k60 60 wc w.heap.size (fun k_ => some k_ ≠ ((.slice Ao35 t1066.length co35) : Value).ownBlock ∧ some k_ ≠ ((.slice Ao36 t1069.length co36) : Value).ownBlock ∧ some k_ ≠ ((.slice Ao44 t1123.length co44) : Value).ownBlock ∧ some k_ ≠ ((.slice Ao45 t1124.length co45) : Value).ownBlock ∧ some k_ ≠ ((.slice Ao56 t1095.length co56) : Value).ownBlock ∧ some k_ ≠ ((.slice Ao57 t1098.length co57) : Value).ownBlock ∧ some k_ ≠ ((.slice Ao179 t1155.length co179) : Value).ownBlock) (.slice Ao178 t1152.length co178) t1152) ∧ Aside0 (Kd.R k60 60 wc w.heap.size (fun k_ => some k_ ≠ ((.slice Ao35 t1066.length co35) : Value).ownBlock ∧ some k_ ≠ ((.slice Ao36 t1069.length co36) : Value).ownBlock ∧ some k_ ≠ ((.slice Ao44 t1123.length co44) : Value).ownBlock ∧ some k_ ≠ ((.slice Ao45 t1124.length co45) : Value).ownBlock ∧ some k_ ≠ ((.slice Ao56 t1095.length co56) : Value).ownBlock ∧ some k_ ≠ ((.slice Ao57 t1098.length co57) : Value).ownBlock ∧ some k_ ≠ ((.slice Ao178 t1152.length co178) : Value).ownBlock) (.slice Ao179 t1155.length co179) t1155) ∧ Aside0 (wc.heap[gb1044]? = some (.cells #[.int .i64 a0_0, .int .i64 a0_1, (.slice A0_2 l0_2.length c0_2), (.slice A0_3 l0_3.length c0_3), (.slice A0_4 l0_4.length c0_4)] 27 (0, 0))) ∧ Aside0 (wc.heap[gb1074]? = some (.cells #[.int .i64 t1061, .int .i64 t1062, (.slice Ao34 t1063.length co34), (.slice Ao35 t1066.length co35), (.slice Ao36 t1069.length co36)] 35 (0, 0))) ∧ Aside0 (wc.heap[gb1086]? = some (.cells #[.int .i64 t1075, .int .i64 t1076, (.slice Ao43 t1122.length co43), (.slice Ao44 t1123.length co44), (.slice Ao45 t1124.length co45)] 35 (0, 0))) ∧ Aside0 (wc.heap[gb1103]? = some (.cells #[.int .i64 t1090, .int .i64 t1091, (.slice Ao55 t1092.length co55), (.slice Ao56 t1095.length co56), (.slice Ao57 t1098.length co57)] 35 (0, 0))) ∧ Aside0 (wc.heap[gb1160]? = some (.cells #[.int .i64 t1147, .int .i64 t1148, (.slice Ao177 t1149.length co177), (.slice Ao178 t1152.length co178), (.slice Ao179 t1155.length co179)] 35 (0, 0))) ∧ Aside0 (Below w.heap.size w wc))
             case first =>
              have H := HC153.out
              clear HC153
              obtain ⟨t1161, A180, H⟩ := bindq H
              try dsimp only at H
              by_cases c181 : t1161 = true
              ·subst c181
               rw [if_pos rfl] at H
               try dsimp only at H
               by_cases c182 : t1158 = t1072
               ·rw [if_pos c182] at H
                have c182b0 : (t1158 == t1072) = true := beq_iff_eq.mpr c182
                have c182b1 : (t1158 != t1072) = false := bne_eq_false_iff_eq.mpr c182
                clear c182
                (first | rw [c182b0] | (simp only [i64_w, i32_w]; rw [c182b0]) | skip)
                have H' := am H
                clear H
                have hnb183 := NB1160_1044.out
                have hnc183 := NB1044_1160.out
                have hnb184 := NB1160_1074.out
                have hnc184 := NB1074_1160.out
                have hnb185 := NB1160_1086.out
                have hnc185 := NB1086_1160.out
                have hnb186 := NB1160_1103.out
                have hnc186 := NB1103_1160.out
                have ⟨hcz187_0, hcz187_1, hcz187_2, hcz187_3, hcz187_4, hfz187_0, hfz187_1, hfz187_2, hfz187_3, hfz187_4⟩ := bc5 BK1160
                have hnb188 := NB1074_1044.out
                have hnc188 := NB1044_1074.out
                have hnb189 := NB1074_1086.out
                have hnc189 := NB1086_1074.out
                have hnb190 := NB1074_1103.out
                have hnc190 := NB1103_1074.out
                have ⟨hcz191_0, hcz191_1, hcz191_2, hcz191_3, hcz191_4, hfz191_0, hfz191_1, hfz191_2, hfz191_3, hfz191_4⟩ := bc5 BK1074
                go_wp2_with (first | ((with_reducible refine gate_callee (f := 18) rfl ?_); refine goesQ (some 120) Try.func18 #[.agg #[.int .i64 t1147, .int .i64 t1148, .slice Ao177 t1149.length co177, .slice Ao178 t1152.length co178, .slice Ao179 t1155.length co179], .agg #[.int .i64 t1061, .int .i64 t1062, .slice Ao34 t1063.length co34, .slice Ao35 t1066.length co35, .slice Ao36 t1069.length co36]] ?_; (with_reducible refine (laws_eqSession.calls kj93 t1147 t1148 _ _ t1149 _ _ t1152 _ _ t1155 t1061 t1062 _ _ t1063 _ _ t1066 _ _ t1069 true _ ?s1 ?s2 ?s3 ?s4 ?s5 ?s6 ?s7 ?s8 ?s9 ?s10 ?s11 ?s12 A180.out).mono ?_); (case s1 => exact cf HO1151 BK1160); (case s2 => exact rq1 HO1151); (case s3 => exact cf HO1154 BK1160); (case s4 => exact rq1 HO1154); (case s5 => exact cf HO1157 BK1160); (case s6 => exact rq1 HO1157); (case s7 => exact cf HO_1075002 BK1160); (case s8 => exact rq1 HO_1075002); (case s9 => exact cf HO_1075003 BK1160); (case s10 => exact rq1 HO_1075003); (case s11 => exact cf HO_1075004 BK1160); (case s12 => exact rq1 HO_1075004); rintro e w192 ⟨rfl, hb⟩; refine ⟨_, rfl, ?_⟩; replace HO_1075002 := am (Kd.R_below (fq HO_1075002 BK1160) hb); replace HO_1075003 := am (Kd.R_below (fq HO_1075003 BK1160) hb); replace HO_1075004 := am (Kd.R_below (fq HO_1075004 BK1160) hb); replace HO_1087002 := am (Kd.R_below (fq HO_1087002 BK1160) hb); replace HO_1087003 := am (Kd.R_below (fq HO_1087003 BK1160) hb); replace HO_1087004 := am (Kd.R_below (fq HO_1087004 BK1160) hb); replace HO_1104002 := am (Kd.R_below (fq HO_1104002 BK1160) hb); replace HO_1104003 := am (Kd.R_below (fq HO_1104003 BK1160) hb); replace HO_1104004 := am (Kd.R_below (fq HO_1104004 BK1160) hb); replace HO1151 := am (Kd.R_below (fq HO1151 BK1160) hb); replace HO1154 := am (Kd.R_below (fq HO1154 BK1160) hb); replace HO1157 := am (Kd.R_below (fq HO1157 BK1160) hb); replace BK1044 := am (blk_below (g := gb1044) (o := .cells #[.int .i64 a0_0, .int .i64 a0_1, .slice A0_2 l0_2.length c0_2, .slice A0_3 l0_3.length c0_3, .slice A0_4 l0_4.length c0_4] 27 (0, 0)) (zp BK1044) hb); replace BK1074 := am (blk_below (g := gb1074) (o := .cells #[.int .i64 t1061, .int .i64 t1062, .slice Ao34 t1063.length co34, .slice Ao35 t1066.length co35, .slice Ao36 t1069.length co36] 35 (0, 0)) (zp BK1074) hb); replace BK1086 := am (blk_below (g := gb1086) (o := .cells #[.int .i64 t1075, .int .i64 t1076, .slice Ao43 t1122.length co43, .slice Ao44 t1123.length co44, .slice Ao45 t1124.length co45] 35 (0, 0)) (zp BK1086) hb); replace BK1103 := am (blk_below (g := gb1103) (o := .cells #[.int .i64 t1090, .int .i64 t1091, .slice Ao55 t1092.length co55, .slice Ao56 t1095.length co56, .slice Ao57 t1098.length co57] 35 (0, 0)) (zp BK1103) hb); replace BK1160 := am (blk_below (g := gb1160) (o := .cells #[.int .i64 t1147, .int .i64 t1148, .slice Ao177 t1149.length co177, .slice Ao178 t1152.length co178, .slice Ao179 t1155.length co179] 35 (0, 0)) (zp BK1160) hb); replace HB := sb hb; (try clear hb)))
                go_meet
                case rel => exact ⟨_, ((t1159 != t1073)), sq, H', ⟨by have := HJ18.out; have := HJ93.out; first | omega | exact Nat.le_refl _⟩, ⟨by (try simp only [hl1087002_93]); (try simp only [hl1087003_93]); (try simp only [hl1087004_93]); (with_reducible repeat (first | apply Kd.R_alloc | apply Kd.R_drewN | apply Kd.R_drew)); exact Kd.R_mono HO_1075002.out (fun _ hk => ⟨hk.1.1.1, ⟨hk.1.1.2, hk.2⟩⟩)⟩, ⟨by (try simp only [hl1087002_93]); (try simp only [hl1087003_93]); (try simp only [hl1087004_93]); (with_reducible repeat (first | apply Kd.R_alloc | apply Kd.R_drewN | apply Kd.R_drew)); exact Kd.R_mono HO_1075003.out (fun _ hk => ⟨hk.1.1.1.1.1.1, ⟨hk.1.1.1.1.1.2.1, ⟨hk.1.1.1.1.1.2.2.1, ⟨hk.1.1.1.1.1.2.2.2.1, ⟨hk.1.1.1.1.1.2.2.2.2, ⟨hk.1.2, hk.2⟩⟩⟩⟩⟩⟩)⟩, ⟨by (try simp only [hl1087002_93]); (try simp only [hl1087003_93]); (try simp only [hl1087004_93]); (with_reducible repeat (first | apply Kd.R_alloc | apply Kd.R_drewN | apply Kd.R_drew)); exact Kd.R_mono HO_1075004.out (fun _ hk => ⟨hk.1.1.1.1.1.1, ⟨hk.1.1.1.1.1.2.1, ⟨hk.1.1.1.1.1.2.2.1, ⟨hk.1.1.1.1.1.2.2.2.1, ⟨hk.1.1.1.1.1.2.2.2.2, ⟨hk.1.2, hk.2⟩⟩⟩⟩⟩⟩)⟩, ⟨by (try simp only [hl1087002_93]); (try simp only [hl1087003_93]); (try simp only [hl1087004_93]); (with_reducible repeat (first | apply Kd.R_alloc | apply Kd.R_drewN | apply Kd.R_drew)); exact Kd.R_mono HO_1087002.out (fun _ hk => ⟨hk.1.1.1, ⟨hk.1.1.2, hk.2⟩⟩)⟩, ⟨by (try simp only [hl1087002_93]); (try simp only [hl1087003_93]); (try simp only [hl1087004_93]); (with_reducible repeat (first | apply Kd.R_alloc | apply Kd.R_drewN | apply Kd.R_drew)); exact Kd.R_mono HO_1087003.out (fun _ hk => ⟨hk.1.1.1.1.1.1, ⟨hk.1.1.1.1.1.2.1, ⟨hk.1.1.1.1.1.2.2.1, ⟨hk.1.1.1.1.1.2.2.2.1, ⟨hk.1.1.1.1.1.2.2.2.2, ⟨hk.1.2, hk.2⟩⟩⟩⟩⟩⟩)⟩, ⟨by (try simp only [hl1087002_93]); (try simp only [hl1087003_93]); (try simp only [hl1087004_93]); (with_reducible repeat (first | apply Kd.R_alloc | apply Kd.R_drewN | apply Kd.R_drew)); exact Kd.R_mono HO_1087004.out (fun _ hk => ⟨hk.1.1.1.1.1.1, ⟨hk.1.1.1.1.1.2.1, ⟨hk.1.1.1.1.1.2.2.1, ⟨hk.1.1.1.1.1.2.2.2.1, ⟨hk.1.1.1.1.1.2.2.2.2, ⟨hk.1.2, hk.2⟩⟩⟩⟩⟩⟩)⟩, ⟨by (try simp only [hl1087002_93]); (try simp only [hl1087003_93]); (try simp only [hl1087004_93]); (with_reducible repeat (first | apply Kd.R_alloc | apply Kd.R_drewN | apply Kd.R_drew)); exact Kd.R_mono HO_1104002.out (fun _ hk => ⟨hk.1.1.1, ⟨hk.1.1.2, hk.2⟩⟩)⟩, ⟨by (try simp only [hl1087002_93]); (try simp only [hl1087003_93]); (try simp only [hl1087004_93]); (with_reducible repeat (first | apply Kd.R_alloc | apply Kd.R_drewN | apply Kd.R_drew)); exact Kd.R_mono HO_1104003.out (fun _ hk => ⟨hk.1.1.1.1.1.1, ⟨hk.1.1.1.1.1.2.1, ⟨hk.1.1.1.1.1.2.2.1, ⟨hk.1.1.1.1.1.2.2.2.1, ⟨hk.1.1.1.1.1.2.2.2.2, ⟨hk.1.2, hk.2⟩⟩⟩⟩⟩⟩)⟩, ⟨by (try simp only [hl1087002_93]); (try simp only [hl1087003_93]); (try simp only [hl1087004_93]); (with_reducible repeat (first | apply Kd.R_alloc | apply Kd.R_drewN | apply Kd.R_drew)); exact Kd.R_mono HO_1104004.out (fun _ hk => ⟨hk.1.1.1.1.1.1, ⟨hk.1.1.1.1.1.2.1, ⟨hk.1.1.1.1.1.2.2.1, ⟨hk.1.1.1.1.1.2.2.2.1, ⟨hk.1.1.1.1.1.2.2.2.2, ⟨hk.1.2, hk.2⟩⟩⟩⟩⟩⟩)⟩, ⟨by (try simp only [hl1087002_93]); (try simp only [hl1087003_93]); (try simp only [hl1087004_93]); (with_reducible repeat (first | apply Kd.R_alloc | apply Kd.R_drewN | apply Kd.R_drew)); exact Kd.R_mono HO1151.out (fun _ hk => ⟨hk.1.1.1.2, ⟨hk.1.1.2, hk.1.2⟩⟩)⟩, ⟨by (try simp only [hl1087002_93]); (try simp only [hl1087003_93]); (try simp only [hl1087004_93]); (with_reducible repeat (first | apply Kd.R_alloc | apply Kd.R_drewN | apply Kd.R_drew)); exact Kd.R_mono HO1154.out (fun _ hk => ⟨hk.1.1.1.1.1.1.1.1.2, ⟨hk.1.1.1.1.1.1.1.2, ⟨hk.1.1.1.1.1.1.2, ⟨hk.1.1.1.1.1.2, ⟨hk.1.1.1.1.2, ⟨hk.1.1.1.2, hk.1.1.1.1.1.1.1.1.1⟩⟩⟩⟩⟩⟩)⟩, ⟨by (try simp only [hl1087002_93]); (try simp only [hl1087003_93]); (try simp only [hl1087004_93]); (with_reducible repeat (first | apply Kd.R_alloc | apply Kd.R_drewN | apply Kd.R_drew)); exact Kd.R_mono HO1157.out (fun _ hk => ⟨hk.1.1.1.1.1.1.1.1.2, ⟨hk.1.1.1.1.1.1.1.2, ⟨hk.1.1.1.1.1.1.2, ⟨hk.1.1.1.1.1.2, ⟨hk.1.1.1.1.2, ⟨hk.1.1.1.2, hk.1.1.1.1.1.1.1.1.1⟩⟩⟩⟩⟩⟩)⟩, ⟨by (try simp only [hl1087002_93]); (try simp only [hl1087003_93]); (try simp only [hl1087004_93]); (with_reducible repeat (first | refine blk_drewN ?_ _ | refine blk_drew ?_ | refine blk_alloc ?_ _)); exact BK1044.out⟩, ⟨by (try simp only [hl1087002_93]); (try simp only [hl1087003_93]); (try simp only [hl1087004_93]); (with_reducible repeat (first | refine blk_drewN ?_ _ | refine blk_drew ?_ | refine blk_alloc ?_ _)); exact BK1074.out⟩, ⟨by (try simp only [hl1087002_93]); (try simp only [hl1087003_93]); (try simp only [hl1087004_93]); (with_reducible repeat (first | refine blk_drewN ?_ _ | refine blk_drew ?_ | refine blk_alloc ?_ _)); exact BK1086.out⟩, ⟨by (try simp only [hl1087002_93]); (try simp only [hl1087003_93]); (try simp only [hl1087004_93]); (with_reducible repeat (first | refine blk_drewN ?_ _ | refine blk_drew ?_ | refine blk_alloc ?_ _)); exact BK1103.out⟩, ⟨by (try simp only [hl1087002_93]); (try simp only [hl1087003_93]); (try simp only [hl1087004_93]); (with_reducible repeat (first | refine blk_drewN ?_ _ | refine blk_drew ?_ | refine blk_alloc ?_ _)); exact BK1160.out⟩, ⟨bq⟩⟩
               ·rw [if_neg c182] at H
                have c182b0 : (t1158 == t1072) = false := beq_eq_false_iff_ne.mpr c182
                have c182b1 : (t1158 != t1072) = true := bne_iff_ne.mpr c182
                (first | rw [c182b0] | (simp only [i64_w, i32_w]; rw [c182b0]) | skip)
                have H' := am H
                clear H
                have hnb193 := NB1160_1044.out
                have hnc193 := NB1044_1160.out
                have hnb194 := NB1160_1074.out
                have hnc194 := NB1074_1160.out
                have hnb195 := NB1160_1086.out
                have hnc195 := NB1086_1160.out
                have hnb196 := NB1160_1103.out
                have hnc196 := NB1103_1160.out
                have ⟨hcz197_0, hcz197_1, hcz197_2, hcz197_3, hcz197_4, hfz197_0, hfz197_1, hfz197_2, hfz197_3, hfz197_4⟩ := bc5 BK1160
                have hnb198 := NB1074_1044.out
                have hnc198 := NB1044_1074.out
                have hnb199 := NB1074_1086.out
                have hnc199 := NB1086_1074.out
                have hnb200 := NB1074_1103.out
                have hnc200 := NB1103_1074.out
                have ⟨hcz201_0, hcz201_1, hcz201_2, hcz201_3, hcz201_4, hfz201_0, hfz201_1, hfz201_2, hfz201_3, hfz201_4⟩ := bc5 BK1074
                go_wp2_with (first | ((with_reducible refine gate_callee (f := 18) rfl ?_); refine goesQ (some 120) Try.func18 #[.agg #[.int .i64 t1147, .int .i64 t1148, .slice Ao177 t1149.length co177, .slice Ao178 t1152.length co178, .slice Ao179 t1155.length co179], .agg #[.int .i64 t1061, .int .i64 t1062, .slice Ao34 t1063.length co34, .slice Ao35 t1066.length co35, .slice Ao36 t1069.length co36]] ?_; (with_reducible refine (laws_eqSession.calls kj93 t1147 t1148 _ _ t1149 _ _ t1152 _ _ t1155 t1061 t1062 _ _ t1063 _ _ t1066 _ _ t1069 true _ ?s1 ?s2 ?s3 ?s4 ?s5 ?s6 ?s7 ?s8 ?s9 ?s10 ?s11 ?s12 A180.out).mono ?_); (case s1 => exact cf HO1151 BK1160); (case s2 => exact rq1 HO1151); (case s3 => exact cf HO1154 BK1160); (case s4 => exact rq1 HO1154); (case s5 => exact cf HO1157 BK1160); (case s6 => exact rq1 HO1157); (case s7 => exact cf HO_1075002 BK1160); (case s8 => exact rq1 HO_1075002); (case s9 => exact cf HO_1075003 BK1160); (case s10 => exact rq1 HO_1075003); (case s11 => exact cf HO_1075004 BK1160); (case s12 => exact rq1 HO_1075004); rintro e w202 ⟨rfl, hb⟩; refine ⟨_, rfl, ?_⟩; replace HO_1075002 := am (Kd.R_below (fq HO_1075002 BK1160) hb); replace HO_1075003 := am (Kd.R_below (fq HO_1075003 BK1160) hb); replace HO_1075004 := am (Kd.R_below (fq HO_1075004 BK1160) hb); replace HO_1087002 := am (Kd.R_below (fq HO_1087002 BK1160) hb); replace HO_1087003 := am (Kd.R_below (fq HO_1087003 BK1160) hb); replace HO_1087004 := am (Kd.R_below (fq HO_1087004 BK1160) hb); replace HO_1104002 := am (Kd.R_below (fq HO_1104002 BK1160) hb); replace HO_1104003 := am (Kd.R_below (fq HO_1104003 BK1160) hb); replace HO_1104004 := am (Kd.R_below (fq HO_1104004 BK1160) hb); replace HO1151 := am (Kd.R_below (fq HO1151 BK1160) hb); replace HO1154 := am (Kd.R_below (fq HO1154 BK1160) hb); replace HO1157 := am (Kd.R_below (fq HO1157 BK1160) hb); replace BK1044 := am (blk_below (g := gb1044) (o := .cells #[.int .i64 a0_0, .int .i64 a0_1, .slice A0_2 l0_2.length c0_2, .slice A0_3 l0_3.length c0_3, .slice A0_4 l0_4.length c0_4] 27 (0, 0)) (zp BK1044) hb); replace BK1074 := am (blk_below (g := gb1074) (o := .cells #[.int .i64 t1061, .int .i64 t1062, .slice Ao34 t1063.length co34, .slice Ao35 t1066.length co35, .slice Ao36 t1069.length co36] 35 (0, 0)) (zp BK1074) hb); replace BK1086 := am (blk_below (g := gb1086) (o := .cells #[.int .i64 t1075, .int .i64 t1076, .slice Ao43 t1122.length co43, .slice Ao44 t1123.length co44, .slice Ao45 t1124.length co45] 35 (0, 0)) (zp BK1086) hb); replace BK1103 := am (blk_below (g := gb1103) (o := .cells #[.int .i64 t1090, .int .i64 t1091, .slice Ao55 t1092.length co55, .slice Ao56 t1095.length co56, .slice Ao57 t1098.length co57] 35 (0, 0)) (zp BK1103) hb); replace BK1160 := am (blk_below (g := gb1160) (o := .cells #[.int .i64 t1147, .int .i64 t1148, .slice Ao177 t1149.length co177, .slice Ao178 t1152.length co178, .slice Ao179 t1155.length co179] 35 (0, 0)) (zp BK1160) hb); replace HB := sb hb; (try clear hb)))
                go_meet
                case rel => exact ⟨_, (true), sq, H', ⟨by have := HJ18.out; have := HJ93.out; first | omega | exact Nat.le_refl _⟩, ⟨by (try simp only [hl1087002_93]); (try simp only [hl1087003_93]); (try simp only [hl1087004_93]); (with_reducible repeat (first | apply Kd.R_alloc | apply Kd.R_drewN | apply Kd.R_drew)); exact Kd.R_mono HO_1075002.out (fun _ hk => ⟨hk.1.1.1, ⟨hk.1.1.2, hk.2⟩⟩)⟩, ⟨by (try simp only [hl1087002_93]); (try simp only [hl1087003_93]); (try simp only [hl1087004_93]); (with_reducible repeat (first | apply Kd.R_alloc | apply Kd.R_drewN | apply Kd.R_drew)); exact Kd.R_mono HO_1075003.out (fun _ hk => ⟨hk.1.1.1.1.1.1, ⟨hk.1.1.1.1.1.2.1, ⟨hk.1.1.1.1.1.2.2.1, ⟨hk.1.1.1.1.1.2.2.2.1, ⟨hk.1.1.1.1.1.2.2.2.2, ⟨hk.1.2, hk.2⟩⟩⟩⟩⟩⟩)⟩, ⟨by (try simp only [hl1087002_93]); (try simp only [hl1087003_93]); (try simp only [hl1087004_93]); (with_reducible repeat (first | apply Kd.R_alloc | apply Kd.R_drewN | apply Kd.R_drew)); exact Kd.R_mono HO_1075004.out (fun _ hk => ⟨hk.1.1.1.1.1.1, ⟨hk.1.1.1.1.1.2.1, ⟨hk.1.1.1.1.1.2.2.1, ⟨hk.1.1.1.1.1.2.2.2.1, ⟨hk.1.1.1.1.1.2.2.2.2, ⟨hk.1.2, hk.2⟩⟩⟩⟩⟩⟩)⟩, ⟨by (try simp only [hl1087002_93]); (try simp only [hl1087003_93]); (try simp only [hl1087004_93]); (with_reducible repeat (first | apply Kd.R_alloc | apply Kd.R_drewN | apply Kd.R_drew)); exact Kd.R_mono HO_1087002.out (fun _ hk => ⟨hk.1.1.1, ⟨hk.1.1.2, hk.2⟩⟩)⟩, ⟨by (try simp only [hl1087002_93]); (try simp only [hl1087003_93]); (try simp only [hl1087004_93]); (with_reducible repeat (first | apply Kd.R_alloc | apply Kd.R_drewN | apply Kd.R_drew)); exact Kd.R_mono HO_1087003.out (fun _ hk => ⟨hk.1.1.1.1.1.1, ⟨hk.1.1.1.1.1.2.1, ⟨hk.1.1.1.1.1.2.2.1, ⟨hk.1.1.1.1.1.2.2.2.1, ⟨hk.1.1.1.1.1.2.2.2.2, ⟨hk.1.2, hk.2⟩⟩⟩⟩⟩⟩)⟩, ⟨by (try simp only [hl1087002_93]); (try simp only [hl1087003_93]); (try simp only [hl1087004_93]); (with_reducible repeat (first | apply Kd.R_alloc | apply Kd.R_drewN | apply Kd.R_drew)); exact Kd.R_mono HO_1087004.out (fun _ hk => ⟨hk.1.1.1.1.1.1, ⟨hk.1.1.1.1.1.2.1, ⟨hk.1.1.1.1.1.2.2.1, ⟨hk.1.1.1.1.1.2.2.2.1, ⟨hk.1.1.1.1.1.2.2.2.2, ⟨hk.1.2, hk.2⟩⟩⟩⟩⟩⟩)⟩, ⟨by (try simp only [hl1087002_93]); (try simp only [hl1087003_93]); (try simp only [hl1087004_93]); (with_reducible repeat (first | apply Kd.R_alloc | apply Kd.R_drewN | apply Kd.R_drew)); exact Kd.R_mono HO_1104002.out (fun _ hk => ⟨hk.1.1.1, ⟨hk.1.1.2, hk.2⟩⟩)⟩, ⟨by (try simp only [hl1087002_93]); (try simp only [hl1087003_93]); (try simp only [hl1087004_93]); (with_reducible repeat (first | apply Kd.R_alloc | apply Kd.R_drewN | apply Kd.R_drew)); exact Kd.R_mono HO_1104003.out (fun _ hk => ⟨hk.1.1.1.1.1.1, ⟨hk.1.1.1.1.1.2.1, ⟨hk.1.1.1.1.1.2.2.1, ⟨hk.1.1.1.1.1.2.2.2.1, ⟨hk.1.1.1.1.1.2.2.2.2, ⟨hk.1.2, hk.2⟩⟩⟩⟩⟩⟩)⟩, ⟨by (try simp only [hl1087002_93]); (try simp only [hl1087003_93]); (try simp only [hl1087004_93]); (with_reducible repeat (first | apply Kd.R_alloc | apply Kd.R_drewN | apply Kd.R_drew)); exact Kd.R_mono HO_1104004.out (fun _ hk => ⟨hk.1.1.1.1.1.1, ⟨hk.1.1.1.1.1.2.1, ⟨hk.1.1.1.1.1.2.2.1, ⟨hk.1.1.1.1.1.2.2.2.1, ⟨hk.1.1.1.1.1.2.2.2.2, ⟨hk.1.2, hk.2⟩⟩⟩⟩⟩⟩)⟩, ⟨by (try simp only [hl1087002_93]); (try simp only [hl1087003_93]); (try simp only [hl1087004_93]); (with_reducible repeat (first | apply Kd.R_alloc | apply Kd.R_drewN | apply Kd.R_drew)); exact Kd.R_mono HO1151.out (fun _ hk => ⟨hk.1.1.1.2, ⟨hk.1.1.2, hk.1.2⟩⟩)⟩, ⟨by (try simp only [hl1087002_93]); (try simp only [hl1087003_93]); (try simp only [hl1087004_93]); (with_reducible repeat (first | apply Kd.R_alloc | apply Kd.R_drewN | apply Kd.R_drew)); exact Kd.R_mono HO1154.out (fun _ hk => ⟨hk.1.1.1.1.1.1.1.1.2, ⟨hk.1.1.1.1.1.1.1.2, ⟨hk.1.1.1.1.1.1.2, ⟨hk.1.1.1.1.1.2, ⟨hk.1.1.1.1.2, ⟨hk.1.1.1.2, hk.1.1.1.1.1.1.1.1.1⟩⟩⟩⟩⟩⟩)⟩, ⟨by (try simp only [hl1087002_93]); (try simp only [hl1087003_93]); (try simp only [hl1087004_93]); (with_reducible repeat (first | apply Kd.R_alloc | apply Kd.R_drewN | apply Kd.R_drew)); exact Kd.R_mono HO1157.out (fun _ hk => ⟨hk.1.1.1.1.1.1.1.1.2, ⟨hk.1.1.1.1.1.1.1.2, ⟨hk.1.1.1.1.1.1.2, ⟨hk.1.1.1.1.1.2, ⟨hk.1.1.1.1.2, ⟨hk.1.1.1.2, hk.1.1.1.1.1.1.1.1.1⟩⟩⟩⟩⟩⟩)⟩, ⟨by (try simp only [hl1087002_93]); (try simp only [hl1087003_93]); (try simp only [hl1087004_93]); (with_reducible repeat (first | refine blk_drewN ?_ _ | refine blk_drew ?_ | refine blk_alloc ?_ _)); exact BK1044.out⟩, ⟨by (try simp only [hl1087002_93]); (try simp only [hl1087003_93]); (try simp only [hl1087004_93]); (with_reducible repeat (first | refine blk_drewN ?_ _ | refine blk_drew ?_ | refine blk_alloc ?_ _)); exact BK1074.out⟩, ⟨by (try simp only [hl1087002_93]); (try simp only [hl1087003_93]); (try simp only [hl1087004_93]); (with_reducible repeat (first | refine blk_drewN ?_ _ | refine blk_drew ?_ | refine blk_alloc ?_ _)); exact BK1086.out⟩, ⟨by (try simp only [hl1087002_93]); (try simp only [hl1087003_93]); (try simp only [hl1087004_93]); (with_reducible repeat (first | refine blk_drewN ?_ _ | refine blk_drew ?_ | refine blk_alloc ?_ _)); exact BK1103.out⟩, ⟨by (try simp only [hl1087002_93]); (try simp only [hl1087003_93]); (try simp only [hl1087004_93]); (with_reducible repeat (first | refine blk_drewN ?_ _ | refine blk_drew ?_ | refine blk_alloc ?_ _)); exact BK1160.out⟩, ⟨bq⟩⟩
              ·replace c181 := Bool.eq_false_iff.mpr c181
               subst c181
               rw [if_neg (show ¬ (false = true) by decide)] at H
               try dsimp only at H
               have H' := am H
               clear H
               have hnb203 := NB1160_1044.out
               have hnc203 := NB1044_1160.out
               have hnb204 := NB1160_1074.out
               have hnc204 := NB1074_1160.out
               have hnb205 := NB1160_1086.out
               have hnc205 := NB1086_1160.out
               have hnb206 := NB1160_1103.out
               have hnc206 := NB1103_1160.out
               have ⟨hcz207_0, hcz207_1, hcz207_2, hcz207_3, hcz207_4, hfz207_0, hfz207_1, hfz207_2, hfz207_3, hfz207_4⟩ := bc5 BK1160
               have hnb208 := NB1074_1044.out
               have hnc208 := NB1044_1074.out
               have hnb209 := NB1074_1086.out
               have hnc209 := NB1086_1074.out
               have hnb210 := NB1074_1103.out
               have hnc210 := NB1103_1074.out
               have ⟨hcz211_0, hcz211_1, hcz211_2, hcz211_3, hcz211_4, hfz211_0, hfz211_1, hfz211_2, hfz211_3, hfz211_4⟩ := bc5 BK1074
               go_wp2_with (first | ((with_reducible refine gate_callee (f := 18) rfl ?_); refine goesQ (some 120) Try.func18 #[.agg #[.int .i64 t1147, .int .i64 t1148, .slice Ao177 t1149.length co177, .slice Ao178 t1152.length co178, .slice Ao179 t1155.length co179], .agg #[.int .i64 t1061, .int .i64 t1062, .slice Ao34 t1063.length co34, .slice Ao35 t1066.length co35, .slice Ao36 t1069.length co36]] ?_; (with_reducible refine (laws_eqSession.calls kj93 t1147 t1148 _ _ t1149 _ _ t1152 _ _ t1155 t1061 t1062 _ _ t1063 _ _ t1066 _ _ t1069 false _ ?s1 ?s2 ?s3 ?s4 ?s5 ?s6 ?s7 ?s8 ?s9 ?s10 ?s11 ?s12 A180.out).mono ?_); (case s1 => exact cf HO1151 BK1160); (case s2 => exact rq1 HO1151); (case s3 => exact cf HO1154 BK1160); (case s4 => exact rq1 HO1154); (case s5 => exact cf HO1157 BK1160); (case s6 => exact rq1 HO1157); (case s7 => exact cf HO_1075002 BK1160); (case s8 => exact rq1 HO_1075002); (case s9 => exact cf HO_1075003 BK1160); (case s10 => exact rq1 HO_1075003); (case s11 => exact cf HO_1075004 BK1160); (case s12 => exact rq1 HO_1075004); rintro e w212 ⟨rfl, hb⟩; refine ⟨_, rfl, ?_⟩; replace HO_1075002 := am (Kd.R_below (fq HO_1075002 BK1160) hb); replace HO_1075003 := am (Kd.R_below (fq HO_1075003 BK1160) hb); replace HO_1075004 := am (Kd.R_below (fq HO_1075004 BK1160) hb); replace HO_1087002 := am (Kd.R_below (fq HO_1087002 BK1160) hb); replace HO_1087003 := am (Kd.R_below (fq HO_1087003 BK1160) hb); replace HO_1087004 := am (Kd.R_below (fq HO_1087004 BK1160) hb); replace HO_1104002 := am (Kd.R_below (fq HO_1104002 BK1160) hb); replace HO_1104003 := am (Kd.R_below (fq HO_1104003 BK1160) hb); replace HO_1104004 := am (Kd.R_below (fq HO_1104004 BK1160) hb); replace HO1151 := am (Kd.R_below (fq HO1151 BK1160) hb); replace HO1154 := am (Kd.R_below (fq HO1154 BK1160) hb); replace HO1157 := am (Kd.R_below (fq HO1157 BK1160) hb); replace BK1044 := am (blk_below (g := gb1044) (o := .cells #[.int .i64 a0_0, .int .i64 a0_1, .slice A0_2 l0_2.length c0_2, .slice A0_3 l0_3.length c0_3, .slice A0_4 l0_4.length c0_4] 27 (0, 0)) (zp BK1044) hb); replace BK1074 := am (blk_below (g := gb1074) (o := .cells #[.int .i64 t1061, .int .i64 t1062, .slice Ao34 t1063.length co34, .slice Ao35 t1066.length co35, .slice Ao36 t1069.length co36] 35 (0, 0)) (zp BK1074) hb); replace BK1086 := am (blk_below (g := gb1086) (o := .cells #[.int .i64 t1075, .int .i64 t1076, .slice Ao43 t1122.length co43, .slice Ao44 t1123.length co44, .slice Ao45 t1124.length co45] 35 (0, 0)) (zp BK1086) hb); replace BK1103 := am (blk_below (g := gb1103) (o := .cells #[.int .i64 t1090, .int .i64 t1091, .slice Ao55 t1092.length co55, .slice Ao56 t1095.length co56, .slice Ao57 t1098.length co57] 35 (0, 0)) (zp BK1103) hb); replace BK1160 := am (blk_below (g := gb1160) (o := .cells #[.int .i64 t1147, .int .i64 t1148, .slice Ao177 t1149.length co177, .slice Ao178 t1152.length co178, .slice Ao179 t1155.length co179] 35 (0, 0)) (zp BK1160) hb); replace HB := sb hb; (try clear hb)))
               go_meet
               case rel => exact ⟨_, (true), sq, H', ⟨by have := HJ18.out; have := HJ93.out; first | omega | exact Nat.le_refl _⟩, ⟨by (try simp only [hl1087002_93]); (try simp only [hl1087003_93]); (try simp only [hl1087004_93]); (with_reducible repeat (first | apply Kd.R_alloc | apply Kd.R_drewN | apply Kd.R_drew)); exact Kd.R_mono HO_1075002.out (fun _ hk => ⟨hk.1.1.1, ⟨hk.1.1.2, hk.2⟩⟩)⟩, ⟨by (try simp only [hl1087002_93]); (try simp only [hl1087003_93]); (try simp only [hl1087004_93]); (with_reducible repeat (first | apply Kd.R_alloc | apply Kd.R_drewN | apply Kd.R_drew)); exact Kd.R_mono HO_1075003.out (fun _ hk => ⟨hk.1.1.1.1.1.1, ⟨hk.1.1.1.1.1.2.1, ⟨hk.1.1.1.1.1.2.2.1, ⟨hk.1.1.1.1.1.2.2.2.1, ⟨hk.1.1.1.1.1.2.2.2.2, ⟨hk.1.2, hk.2⟩⟩⟩⟩⟩⟩)⟩, ⟨by (try simp only [hl1087002_93]); (try simp only [hl1087003_93]); (try simp only [hl1087004_93]); (with_reducible repeat (first | apply Kd.R_alloc | apply Kd.R_drewN | apply Kd.R_drew)); exact Kd.R_mono HO_1075004.out (fun _ hk => ⟨hk.1.1.1.1.1.1, ⟨hk.1.1.1.1.1.2.1, ⟨hk.1.1.1.1.1.2.2.1, ⟨hk.1.1.1.1.1.2.2.2.1, ⟨hk.1.1.1.1.1.2.2.2.2, ⟨hk.1.2, hk.2⟩⟩⟩⟩⟩⟩)⟩, ⟨by (try simp only [hl1087002_93]); (try simp only [hl1087003_93]); (try simp only [hl1087004_93]); (with_reducible repeat (first | apply Kd.R_alloc | apply Kd.R_drewN | apply Kd.R_drew)); exact Kd.R_mono HO_1087002.out (fun _ hk => ⟨hk.1.1.1, ⟨hk.1.1.2, hk.2⟩⟩)⟩, ⟨by (try simp only [hl1087002_93]); (try simp only [hl1087003_93]); (try simp only [hl1087004_93]); (with_reducible repeat (first | apply Kd.R_alloc | apply Kd.R_drewN | apply Kd.R_drew)); exact Kd.R_mono HO_1087003.out (fun _ hk => ⟨hk.1.1.1.1.1.1, ⟨hk.1.1.1.1.1.2.1, ⟨hk.1.1.1.1.1.2.2.1, ⟨hk.1.1.1.1.1.2.2.2.1, ⟨hk.1.1.1.1.1.2.2.2.2, ⟨hk.1.2, hk.2⟩⟩⟩⟩⟩⟩)⟩, ⟨by (try simp only [hl1087002_93]); (try simp only [hl1087003_93]); (try simp only [hl1087004_93]); (with_reducible repeat (first | apply Kd.R_alloc | apply Kd.R_drewN | apply Kd.R_drew)); exact Kd.R_mono HO_1087004.out (fun _ hk => ⟨hk.1.1.1.1.1.1, ⟨hk.1.1.1.1.1.2.1, ⟨hk.1.1.1.1.1.2.2.1, ⟨hk.1.1.1.1.1.2.2.2.1, ⟨hk.1.1.1.1.1.2.2.2.2, ⟨hk.1.2, hk.2⟩⟩⟩⟩⟩⟩)⟩, ⟨by (try simp only [hl1087002_93]); (try simp only [hl1087003_93]); (try simp only [hl1087004_93]); (with_reducible repeat (first | apply Kd.R_alloc | apply Kd.R_drewN | apply Kd.R_drew)); exact Kd.R_mono HO_1104002.out (fun _ hk => ⟨hk.1.1.1, ⟨hk.1.1.2, hk.2⟩⟩)⟩, ⟨by (try simp only [hl1087002_93]); (try simp only [hl1087003_93]); (try simp only [hl1087004_93]); (with_reducible repeat (first | apply Kd.R_alloc | apply Kd.R_drewN | apply Kd.R_drew)); exact Kd.R_mono HO_1104003.out (fun _ hk => ⟨hk.1.1.1.1.1.1, ⟨hk.1.1.1.1.1.2.1, ⟨hk.1.1.1.1.1.2.2.1, ⟨hk.1.1.1.1.1.2.2.2.1, ⟨hk.1.1.1.1.1.2.2.2.2, ⟨hk.1.2, hk.2⟩⟩⟩⟩⟩⟩)⟩, ⟨by (try simp only [hl1087002_93]); (try simp only [hl1087003_93]); (try simp only [hl1087004_93]); (with_reducible repeat (first | apply Kd.R_alloc | apply Kd.R_drewN | apply Kd.R_drew)); exact Kd.R_mono HO_1104004.out (fun _ hk => ⟨hk.1.1.1.1.1.1, ⟨hk.1.1.1.1.1.2.1, ⟨hk.1.1.1.1.1.2.2.1, ⟨hk.1.1.1.1.1.2.2.2.1, ⟨hk.1.1.1.1.1.2.2.2.2, ⟨hk.1.2, hk.2⟩⟩⟩⟩⟩⟩)⟩, ⟨by (try simp only [hl1087002_93]); (try simp only [hl1087003_93]); (try simp only [hl1087004_93]); (with_reducible repeat (first | apply Kd.R_alloc | apply Kd.R_drewN | apply Kd.R_drew)); exact Kd.R_mono HO1151.out (fun _ hk => ⟨hk.1.1.1.2, ⟨hk.1.1.2, hk.1.2⟩⟩)⟩, ⟨by (try simp only [hl1087002_93]); (try simp only [hl1087003_93]); (try simp only [hl1087004_93]); (with_reducible repeat (first | apply Kd.R_alloc | apply Kd.R_drewN | apply Kd.R_drew)); exact Kd.R_mono HO1154.out (fun _ hk => ⟨hk.1.1.1.1.1.1.1.1.2, ⟨hk.1.1.1.1.1.1.1.2, ⟨hk.1.1.1.1.1.1.2, ⟨hk.1.1.1.1.1.2, ⟨hk.1.1.1.1.2, ⟨hk.1.1.1.2, hk.1.1.1.1.1.1.1.1.1⟩⟩⟩⟩⟩⟩)⟩, ⟨by (try simp only [hl1087002_93]); (try simp only [hl1087003_93]); (try simp only [hl1087004_93]); (with_reducible repeat (first | apply Kd.R_alloc | apply Kd.R_drewN | apply Kd.R_drew)); exact Kd.R_mono HO1157.out (fun _ hk => ⟨hk.1.1.1.1.1.1.1.1.2, ⟨hk.1.1.1.1.1.1.1.2, ⟨hk.1.1.1.1.1.1.2, ⟨hk.1.1.1.1.1.2, ⟨hk.1.1.1.1.2, ⟨hk.1.1.1.2, hk.1.1.1.1.1.1.1.1.1⟩⟩⟩⟩⟩⟩)⟩, ⟨by (try simp only [hl1087002_93]); (try simp only [hl1087003_93]); (try simp only [hl1087004_93]); (with_reducible repeat (first | refine blk_drewN ?_ _ | refine blk_drew ?_ | refine blk_alloc ?_ _)); exact BK1044.out⟩, ⟨by (try simp only [hl1087002_93]); (try simp only [hl1087003_93]); (try simp only [hl1087004_93]); (with_reducible repeat (first | refine blk_drewN ?_ _ | refine blk_drew ?_ | refine blk_alloc ?_ _)); exact BK1074.out⟩, ⟨by (try simp only [hl1087002_93]); (try simp only [hl1087003_93]); (try simp only [hl1087004_93]); (with_reducible repeat (first | refine blk_drewN ?_ _ | refine blk_drew ?_ | refine blk_alloc ?_ _)); exact BK1086.out⟩, ⟨by (try simp only [hl1087002_93]); (try simp only [hl1087003_93]); (try simp only [hl1087004_93]); (with_reducible repeat (first | refine blk_drewN ?_ _ | refine blk_drew ?_ | refine blk_alloc ?_ _)); exact BK1103.out⟩, ⟨by (try simp only [hl1087002_93]); (try simp only [hl1087003_93]); (try simp only [hl1087004_93]); (with_reducible repeat (first | refine blk_drewN ?_ _ | refine blk_drew ?_ | refine blk_alloc ?_ _)); exact BK1160.out⟩, ⟨bq⟩⟩
             case rest =>
              clear HC153
              try clear c85
              try clear c88
              try clear c91
              try clear c110b0
              try clear c112
              try clear c113b0
              try clear c113b1
              try clear c138
              try clear c141b0
              try clear c149b0
              try clear c149b1
              try clear c181
              try clear c182b0
              try clear c182b1
              try clear hcz107_0 hcz107_1 hcz107_2 hcz107_3 hcz107_4 hfz107_0 hfz107_1 hfz107_2 hfz107_3 hfz107_4
              try clear hcz117_0 hcz117_1 hcz117_2 hcz117_3 hcz117_4 hfz117_0 hfz117_1 hfz117_2 hfz117_3 hfz117_4
              try clear hcz120_0 hcz120_1 hcz120_2 hcz120_3 hcz120_4 hfz120_0 hfz120_1 hfz120_2 hfz120_3 hfz120_4
              try clear hcz125_0 hcz125_1 hcz125_2 hcz125_3 hcz125_4 hfz125_0 hfz125_1 hfz125_2 hfz125_3 hfz125_4
              try clear hcz128_0 hcz128_1 hcz128_2 hcz128_3 hcz128_4 hfz128_0 hfz128_1 hfz128_2 hfz128_3 hfz128_4
              try clear hcz133_0 hcz133_1 hcz133_2 hcz133_3 hcz133_4 hfz133_0 hfz133_1 hfz133_2 hfz133_3 hfz133_4
              try clear hcz136_0 hcz136_1 hcz136_2 hcz136_3 hcz136_4 hfz136_0 hfz136_1 hfz136_2 hfz136_3 hfz136_4
              try clear hcz145_0 hcz145_1 hcz145_2 hcz145_3 hcz145_4 hfz145_0 hfz145_1 hfz145_2 hfz145_3 hfz145_4
              try clear hcz147_0 hcz147_1 hcz147_2 hcz147_3 hcz147_4 hfz147_0 hfz147_1 hfz147_2 hfz147_3 hfz147_4
              try clear hcz157_0 hcz157_1 hcz157_2 hcz157_3 hcz157_4 hfz157_0 hfz157_1 hfz157_2 hfz157_3 hfz157_4
              try clear hcz159_0 hcz159_1 hcz159_2 hcz159_3 hcz159_4 hfz159_0 hfz159_1 hfz159_2 hfz159_3 hfz159_4
              try clear hcz163_0 hcz163_1 hcz163_2 hcz163_3 hcz163_4 hfz163_0 hfz163_1 hfz163_2 hfz163_3 hfz163_4
              try clear hcz176_0 hcz176_1 hcz176_2 hcz176_3 hcz176_4 hfz176_0 hfz176_1 hfz176_2 hfz176_3 hfz176_4
              try clear hcz187_0 hcz187_1 hcz187_2 hcz187_3 hcz187_4 hfz187_0 hfz187_1 hfz187_2 hfz187_3 hfz187_4
              try clear hcz191_0 hcz191_1 hcz191_2 hcz191_3 hcz191_4 hfz191_0 hfz191_1 hfz191_2 hfz191_3 hfz191_4
              try clear hcz197_0 hcz197_1 hcz197_2 hcz197_3 hcz197_4 hfz197_0 hfz197_1 hfz197_2 hfz197_3 hfz197_4
              try clear hcz201_0 hcz201_1 hcz201_2 hcz201_3 hcz201_4 hfz201_0 hfz201_1 hfz201_2 hfz201_3 hfz201_4
              try clear hcz207_0 hcz207_1 hcz207_2 hcz207_3 hcz207_4 hfz207_0 hfz207_1 hfz207_2 hfz207_3 hfz207_4
              try clear hcz211_0 hcz211_1 hcz211_2 hcz211_3 hcz211_4 hfz211_0 hfz211_1 hfz211_2 hfz211_3 hfz211_4
              try clear hcz21_4 hfz21_0 hfz21_1 hfz21_2 hfz21_3 hfz21_4
              try clear hcz23_0 hcz23_1 hcz23_2 hcz23_3 hcz23_4 hfz23_0 hfz23_1 hfz23_2 hfz23_3 hfz23_4
              try clear hcz33_0 hcz33_1 hcz33_2 hcz33_3 hcz33_4 hfz33_0 hfz33_1 hfz33_2 hfz33_3 hfz33_4
              try clear hcz37_0 hcz37_1 hcz37_2 hcz37_3 hcz37_4 hfz37_0 hfz37_1 hfz37_2 hfz37_3 hfz37_4
              try clear hcz42_0 hcz42_1 hcz42_2 hcz42_3 hcz42_4 hfz42_0 hfz42_1 hfz42_2 hfz42_3 hfz42_4
              try clear hcz47_0 hcz47_1 hcz47_2 hcz47_3 hcz47_4 hfz47_0 hfz47_1 hfz47_2 hfz47_3 hfz47_4
              try clear hcz54_0 hcz54_1 hcz54_2 hcz54_3 hcz54_4 hfz54_0 hfz54_1 hfz54_2 hfz54_3 hfz54_4
              try clear hcz64_0 hcz64_1 hcz64_2 hcz64_3 hcz64_4 hfz64_0 hfz64_1 hfz64_2 hfz64_3 hfz64_4
              try clear hcz67_0 hcz67_1 hcz67_2 hcz67_3 hcz67_4 hfz67_0 hfz67_1 hfz67_2 hfz67_3 hfz67_4
              try clear hcz6_0 hcz6_1 hcz6_2 hcz6_3 hcz6_4 hfz6_0 hfz6_1 hfz6_2 hfz6_3 hfz6_4
              try clear hcz72_0 hcz72_1 hcz72_2 hcz72_3 hcz72_4 hfz72_0 hfz72_1 hfz72_2 hfz72_3 hfz72_4
              try clear hcz75_0 hcz75_1 hcz75_2 hcz75_3 hcz75_4 hfz75_0 hfz75_1 hfz75_2 hfz75_3 hfz75_4
              try clear hcz80_0 hcz80_1 hcz80_2 hcz80_3 hcz80_4 hfz80_0 hfz80_1 hfz80_2 hfz80_3 hfz80_4
              try clear hcz83_0 hcz83_1 hcz83_2 hcz83_3 hcz83_4 hfz83_0 hfz83_1 hfz83_2 hfz83_3 hfz83_4
              try clear hfz11_0 hfz11_1 hfz11_2 hfz11_3 hfz11_4
              obtain ⟨kq, x131_152, rfl, HA, HJ152, HO_1075002, HO_1075003, HO_1075004, HO_1087002, HO_1087003, HO_1087004, HO_1104002, HO_1104003, HO_1104004, HO_1161002, HO_1161003, HO_1161004, BK1044, BK1074, BK1086, BK1103, BK1160, HB⟩ := hcut
              have hl1104002_152 := (Kd.R_reads' HO_1104002.out).1
              rw [hl1104002_152] at HO_1104002
              (try simp only [hl1104002_152])
              (try simp only [hl1104002_152] at BK1044)
              (try simp only [hl1104002_152] at BK1074)
              (try simp only [hl1104002_152] at BK1086)
              (try simp only [hl1104002_152] at BK1103)
              (try simp only [hl1104002_152] at BK1160)
              (try simp only [hl1104002_152] at HO_1075002)
              (try simp only [hl1104002_152] at HO_1075003)
              (try simp only [hl1104002_152] at HO_1075004)
              (try simp only [hl1104002_152] at HO_1087002)
              (try simp only [hl1104002_152] at HO_1087003)
              (try simp only [hl1104002_152] at HO_1087004)
              (try simp only [hl1104002_152] at HO_1104003)
              (try simp only [hl1104002_152] at HO_1104004)
              (try simp only [hl1104002_152] at HO_1161002)
              (try simp only [hl1104002_152] at HO_1161003)
              (try simp only [hl1104002_152] at HO_1161004)
              have hl1104003_152 := (Kd.R_reads' HO_1104003.out).1
              rw [hl1104003_152] at HO_1104003
              (try simp only [hl1104003_152])
              (try simp only [hl1104003_152] at BK1044)
              (try simp only [hl1104003_152] at BK1074)
              (try simp only [hl1104003_152] at BK1086)
              (try simp only [hl1104003_152] at BK1103)
              (try simp only [hl1104003_152] at BK1160)
              (try simp only [hl1104003_152] at HO_1075002)
              (try simp only [hl1104003_152] at HO_1075003)
              (try simp only [hl1104003_152] at HO_1075004)
              (try simp only [hl1104003_152] at HO_1087002)
              (try simp only [hl1104003_152] at HO_1087003)
              (try simp only [hl1104003_152] at HO_1087004)
              (try simp only [hl1104003_152] at HO_1104002)
              (try simp only [hl1104003_152] at HO_1104004)
              (try simp only [hl1104003_152] at HO_1161002)
              (try simp only [hl1104003_152] at HO_1161003)
              (try simp only [hl1104003_152] at HO_1161004)
              have hl1104004_152 := (Kd.R_reads' HO_1104004.out).1
              rw [hl1104004_152] at HO_1104004
              (try simp only [hl1104004_152])
              (try simp only [hl1104004_152] at BK1044)
              (try simp only [hl1104004_152] at BK1074)
              (try simp only [hl1104004_152] at BK1086)
              (try simp only [hl1104004_152] at BK1103)
              (try simp only [hl1104004_152] at BK1160)
              (try simp only [hl1104004_152] at HO_1075002)
              (try simp only [hl1104004_152] at HO_1075003)
              (try simp only [hl1104004_152] at HO_1075004)
              (try simp only [hl1104004_152] at HO_1087002)
              (try simp only [hl1104004_152] at HO_1087003)
              (try simp only [hl1104004_152] at HO_1087004)
              (try simp only [hl1104004_152] at HO_1104002)
              (try simp only [hl1104004_152] at HO_1104003)
              (try simp only [hl1104004_152] at HO_1161002)
              (try simp only [hl1104004_152] at HO_1161003)
              (try simp only [hl1104004_152] at HO_1161004)
              cases kq with
              | zero => exact absurd HA.out (by simp [laws_FnExactRunSession.j2])
              | succ kj152 =>
               have H := HA.out
               clear HA
               simp only [laws_FnExactRunSession.j2] at H
               by_cases c213 : x131_152 = true
               ·subst c213
                rw [if_pos rfl] at H
                try dsimp only at H
                obtain rfl := Option.some.inj H
                go_wp2
                go_ret
                exact ⟨eq_, bq⟩
               ·replace c213 := Bool.eq_false_iff.mpr c213
                subst c213
                rw [if_neg (show ¬ (false = true) by decide)] at H
                try dsimp only at H
                obtain ⟨t1162, A214, H⟩ := bindq H
                try dsimp only at H
                by_cases c215 : t1162 < 0
                ·rw [if_pos c215] at H
                 have c215b0 : decide (t1162 < 0) = true := decide_eq_true c215
                 clear c215
                 obtain rfl := Option.some.inj H
                 have hnb216 := NB1103_1044.out
                 have hnc216 := NB1044_1103.out
                 have hnb217 := NB1103_1074.out
                 have hnc217 := NB1074_1103.out
                 have hnb218 := NB1103_1086.out
                 have hnc218 := NB1086_1103.out
                 have hnb219 := NB1103_1160.out
                 have hnc219 := NB1160_1103.out
                 have ⟨hcz220_0, hcz220_1, hcz220_2, hcz220_3, hcz220_4, hfz220_0, hfz220_1, hfz220_2, hfz220_3, hfz220_4⟩ := bc5 BK1103
                 go_wp2_with (first | ((with_reducible refine gate_callee (f := 26) rfl ?_); refine goesQ (some 134) Try.func26 #[.agg #[.int .i64 t1090, .int .i64 t1091, .slice Ao55 t1129.length co55, .slice Ao56 t1130.length co56, .slice Ao57 t1131.length co57], .int .i64 1] ?_; (with_reducible refine (laws_heldSession.calls kj152 t1090 t1091 _ _ t1129 _ _ t1130 _ _ t1131 1 t1162 _ ?s1 ?s2 ?s3 ?s4 ?s5 ?s6 A214.out).mono ?_); (case s1 => exact cr HO_1104002); (case s2 => exact rq1 HO_1104002); (case s3 => exact cr HO_1104003); (case s4 => exact rq1 HO_1104003); (case s5 => exact cr HO_1104004); (case s6 => exact rq1 HO_1104004); rintro e w221 ⟨rfl, hb⟩; refine ⟨_, rfl, ?_⟩; replace HO_1075002 := rb HO_1075002 hb; replace HO_1075003 := rb HO_1075003 hb; replace HO_1075004 := rb HO_1075004 hb; replace HO_1087002 := rb HO_1087002 hb; replace HO_1087003 := rb HO_1087003 hb; replace HO_1087004 := rb HO_1087004 hb; replace HO_1104002 := rb HO_1104002 hb; replace HO_1104003 := rb HO_1104003 hb; replace HO_1104004 := rb HO_1104004 hb; replace BK1044 := zb BK1044 hb; replace BK1074 := zb BK1074 hb; replace BK1086 := zb BK1086 hb; replace BK1103 := zb BK1103 hb; replace BK1160 := zb BK1160 hb; replace HB := sb hb; (try clear hb)))
                 go_ret
                 exact ⟨eq_, bq⟩
                ·rw [if_neg c215] at H
                 have c215b0 : decide (t1162 < 0) = false := decide_eq_false c215
                 clear c215
                 by_cases c222 : t1162 = t1128
                 ·rw [if_pos c222] at H
                  have c222b0 : (t1162 == t1128) = true := beq_iff_eq.mpr c222
                  have c222b1 : (t1162 != t1128) = false := bne_eq_false_iff_eq.mpr c222
                  clear c222
                  obtain rfl := Option.some.inj H
                  have hnb223 := NB1103_1044.out
                  have hnc223 := NB1044_1103.out
                  have hnb224 := NB1103_1074.out
                  have hnc224 := NB1074_1103.out
                  have hnb225 := NB1103_1086.out
                  have hnc225 := NB1086_1103.out
                  have hnb226 := NB1103_1160.out
                  have hnc226 := NB1160_1103.out
                  have ⟨hcz227_0, hcz227_1, hcz227_2, hcz227_3, hcz227_4, hfz227_0, hfz227_1, hfz227_2, hfz227_3, hfz227_4⟩ := bc5 BK1103
                  go_wp2_with (first | ((with_reducible refine gate_callee (f := 26) rfl ?_); refine goesQ (some 134) Try.func26 #[.agg #[.int .i64 t1090, .int .i64 t1091, .slice Ao55 t1129.length co55, .slice Ao56 t1130.length co56, .slice Ao57 t1131.length co57], .int .i64 1] ?_; (with_reducible refine (laws_heldSession.calls kj152 t1090 t1091 _ _ t1129 _ _ t1130 _ _ t1131 1 t1162 _ ?s1 ?s2 ?s3 ?s4 ?s5 ?s6 A214.out).mono ?_); (case s1 => exact cr HO_1104002); (case s2 => exact rq1 HO_1104002); (case s3 => exact cr HO_1104003); (case s4 => exact rq1 HO_1104003); (case s5 => exact cr HO_1104004); (case s6 => exact rq1 HO_1104004); rintro e w228 ⟨rfl, hb⟩; refine ⟨_, rfl, ?_⟩; replace HO_1075002 := rb HO_1075002 hb; replace HO_1075003 := rb HO_1075003 hb; replace HO_1075004 := rb HO_1075004 hb; replace HO_1087002 := rb HO_1087002 hb; replace HO_1087003 := rb HO_1087003 hb; replace HO_1087004 := rb HO_1087004 hb; replace HO_1104002 := rb HO_1104002 hb; replace HO_1104003 := rb HO_1104003 hb; replace HO_1104004 := rb HO_1104004 hb; replace BK1044 := zb BK1044 hb; replace BK1074 := zb BK1074 hb; replace BK1086 := zb BK1086 hb; replace BK1103 := zb BK1103 hb; replace BK1160 := zb BK1160 hb; replace HB := sb hb; (try clear hb)))
                  go_ret
                  exact ⟨eq_, bq⟩
                 ·rw [if_neg c222] at H
                  have c222b0 : (t1162 == t1128) = false := beq_eq_false_iff_ne.mpr c222
                  have c222b1 : (t1162 != t1128) = true := bne_iff_ne.mpr c222
                  obtain rfl := Option.some.inj H
                  have hnb229 := NB1103_1044.out
                  have hnc229 := NB1044_1103.out
                  have hnb230 := NB1103_1074.out
                  have hnc230 := NB1074_1103.out
                  have hnb231 := NB1103_1086.out
                  have hnc231 := NB1086_1103.out
                  have hnb232 := NB1103_1160.out
                  have hnc232 := NB1160_1103.out
                  have ⟨hcz233_0, hcz233_1, hcz233_2, hcz233_3, hcz233_4, hfz233_0, hfz233_1, hfz233_2, hfz233_3, hfz233_4⟩ := bc5 BK1103
                  go_wp2_with (first | ((with_reducible refine gate_callee (f := 26) rfl ?_); refine goesQ (some 134) Try.func26 #[.agg #[.int .i64 t1090, .int .i64 t1091, .slice Ao55 t1129.length co55, .slice Ao56 t1130.length co56, .slice Ao57 t1131.length co57], .int .i64 1] ?_; (with_reducible refine (laws_heldSession.calls kj152 t1090 t1091 _ _ t1129 _ _ t1130 _ _ t1131 1 t1162 _ ?s1 ?s2 ?s3 ?s4 ?s5 ?s6 A214.out).mono ?_); (case s1 => exact cr HO_1104002); (case s2 => exact rq1 HO_1104002); (case s3 => exact cr HO_1104003); (case s4 => exact rq1 HO_1104003); (case s5 => exact cr HO_1104004); (case s6 => exact rq1 HO_1104004); rintro e w234 ⟨rfl, hb⟩; refine ⟨_, rfl, ?_⟩; replace HO_1075002 := rb HO_1075002 hb; replace HO_1075003 := rb HO_1075003 hb; replace HO_1075004 := rb HO_1075004 hb; replace HO_1087002 := rb HO_1087002 hb; replace HO_1087003 := rb HO_1087003 hb; replace HO_1087004 := rb HO_1087004 hb; replace HO_1104002 := rb HO_1104002 hb; replace HO_1104003 := rb HO_1104003 hb; replace HO_1104004 := rb HO_1104004 hb; replace BK1044 := zb BK1044 hb; replace BK1074 := zb BK1074 hb; replace BK1086 := zb BK1086 hb; replace BK1103 := zb BK1103 hb; replace BK1160 := zb BK1160 hb; replace HB := sb hb; (try clear hb)))
                  go_ret
                  exact ⟨eq_, bq⟩
            ·rw [if_neg c149] at H
             have c149b0 : (t1132 == t1128) = false := beq_eq_false_iff_ne.mpr c149
             have c149b1 : (t1132 != t1128) = true := bne_iff_ne.mpr c149
             obtain rfl := Option.some.inj H
             have hnb235 := NB1103_1044.out
             have hnc235 := NB1044_1103.out
             have hnb236 := NB1103_1074.out
             have hnc236 := NB1074_1103.out
             have hnb237 := NB1103_1086.out
             have hnc237 := NB1086_1103.out
             have ⟨hcz238_0, hcz238_1, hcz238_2, hcz238_3, hcz238_4, hfz238_0, hfz238_1, hfz238_2, hfz238_3, hfz238_4⟩ := bc5 BK1103
             go_wp2_with (first | ((with_reducible refine gate_callee (f := 25) rfl ?_); refine goesQ (some 100) Try.func25 #[.agg #[.int .i64 t1090, .int .i64 t1091, .slice Ao55 t1092.length co55, .slice Ao56 t1095.length co56, .slice Ao57 t1098.length co57], .int .i64 1] ?_; (with_reducible refine (laws_markSession.calls kj93 t1090 t1091 (fun k_ => some k_ = (.slice Ao55 t1092.length co55 : Value).ownBlock) (.slice Ao55 t1092.length co55) t1092 (fun k_ => some k_ = (.slice Ao56 t1095.length co56 : Value).ownBlock) (.slice Ao56 t1095.length co56) t1095 (fun k_ => some k_ = (.slice Ao57 t1098.length co57 : Value).ownBlock) (.slice Ao57 t1098.length co57) t1098 1 t1128 t1129 t1130 t1131 w _ ?s1 ?s2 ?s3 ?s4 ?s5 ?s6 A139.out).mono ?_); (case s1 => repeat (first | (with_reducible first | exact HB.out | apply below_alloc | apply pw_below_drewN | apply below_drew1 | refine below_set ?_ GE1044.out | refine below_set ?_ GE1074.out | refine below_set ?_ GE1086.out | refine below_set ?_ GE1103.out) | exact HB.out)); (case s2 => exact Kd.R_tight rfl HO_1104002.out); (case s3 => exact Kd.R_tight rfl HO_1104003.out); (case s4 => exact fun k_ e_ => (HO_1104003.out.1 k_ e_.symm).2.2.2.2); (case s5 => exact Kd.R_tight rfl HO_1104004.out); (case s6 => exact fun k_ e_ => (HO_1104004.out.1 k_ e_.symm).2.2.2.2); rintro e w239 ⟨rfl, hy0, hy1, hy2, hb, hkp⟩; refine ⟨_, rfl, ?_⟩; replace HO_1075002 := am (Kd.R_mono (ok' := fun k_ => some k_ ≠ (.slice Ao43 t1122.length co43 : Value).ownBlock ∧ some k_ ≠ (.slice Ao55 t1092.length co55 : Value).ownBlock) (Kd.R_keptB ((Kd.R_apart' (Kd.R_apart' HO_1075002.out (Kd.R_typed HO_1104003.out) (by decide)) (Kd.R_typed HO_1104004.out) (by decide))) hkp (fun k_ hk_ hs_ => Or.elim hs_ (fun e_ => (hk_.1.1.2) e_) (fun e_ => Or.elim e_ (fun e_ => (hk_.1.2) e_) (fun e_ => (hk_.2) e_)))) (fun k_ hk_ => ⟨hk_.1.1.1.1, hk_.1.1.1.2⟩)); replace HO_1075003 := am (Kd.R_mono (ok' := fun k_ => some k_ ≠ (.slice Ao36 t1069.length co36 : Value).ownBlock ∧ some k_ ≠ (.slice Ao44 t1123.length co44 : Value).ownBlock ∧ some k_ ≠ (.slice Ao45 t1124.length co45 : Value).ownBlock ∧ some k_ ≠ (.slice Ao56 t1095.length co56 : Value).ownBlock ∧ some k_ ≠ (.slice Ao57 t1098.length co57 : Value).ownBlock) (Kd.R_keptB ((Kd.R_apart' HO_1075003.out (Kd.R_typed HO_1104002.out) (by decide))) hkp (fun k_ hk_ hs_ => Or.elim hs_ (fun e_ => (hk_.2) e_) (fun e_ => Or.elim e_ (fun e_ => (hk_.1.2.2.2.1) e_) (fun e_ => (hk_.1.2.2.2.2) e_)))) (fun k_ hk_ => ⟨hk_.1.1.1, hk_.1.1.2.1, hk_.1.1.2.2.1, hk_.1.1.2.2.2.1, hk_.1.1.2.2.2.2⟩)); replace HO_1075004 := am (Kd.R_mono (ok' := fun k_ => some k_ ≠ (.slice Ao35 t1066.length co35 : Value).ownBlock ∧ some k_ ≠ (.slice Ao44 t1123.length co44 : Value).ownBlock ∧ some k_ ≠ (.slice Ao45 t1124.length co45 : Value).ownBlock ∧ some k_ ≠ (.slice Ao56 t1095.length co56 : Value).ownBlock ∧ some k_ ≠ (.slice Ao57 t1098.length co57 : Value).ownBlock) (Kd.R_keptB ((Kd.R_apart' HO_1075004.out (Kd.R_typed HO_1104002.out) (by decide))) hkp (fun k_ hk_ hs_ => Or.elim hs_ (fun e_ => (hk_.2) e_) (fun e_ => Or.elim e_ (fun e_ => (hk_.1.2.2.2.1) e_) (fun e_ => (hk_.1.2.2.2.2) e_)))) (fun k_ hk_ => ⟨hk_.1.1.1, hk_.1.1.2.1, hk_.1.1.2.2.1, hk_.1.1.2.2.2.1, hk_.1.1.2.2.2.2⟩)); replace HO_1087002 := am (Kd.R_mono (ok' := fun k_ => some k_ ≠ (.slice Ao34 t1063.length co34 : Value).ownBlock ∧ some k_ ≠ (.slice Ao55 t1092.length co55 : Value).ownBlock) (Kd.R_keptB ((Kd.R_apart' (Kd.R_apart' HO_1087002.out (Kd.R_typed HO_1104003.out) (by decide)) (Kd.R_typed HO_1104004.out) (by decide))) hkp (fun k_ hk_ hs_ => Or.elim hs_ (fun e_ => (hk_.1.1.2) e_) (fun e_ => Or.elim e_ (fun e_ => (hk_.1.2) e_) (fun e_ => (hk_.2) e_)))) (fun k_ hk_ => ⟨hk_.1.1.1.1, hk_.1.1.1.2⟩)); replace HO_1087003 := am (Kd.R_mono (ok' := fun k_ => some k_ ≠ (.slice Ao35 t1066.length co35 : Value).ownBlock ∧ some k_ ≠ (.slice Ao36 t1069.length co36 : Value).ownBlock ∧ some k_ ≠ (.slice Ao45 t1124.length co45 : Value).ownBlock ∧ some k_ ≠ (.slice Ao56 t1095.length co56 : Value).ownBlock ∧ some k_ ≠ (.slice Ao57 t1098.length co57 : Value).ownBlock) (Kd.R_keptB ((Kd.R_apart' HO_1087003.out (Kd.R_typed HO_1104002.out) (by decide))) hkp (fun k_ hk_ hs_ => Or.elim hs_ (fun e_ => (hk_.2) e_) (fun e_ => Or.elim e_ (fun e_ => (hk_.1.2.2.2.1) e_) (fun e_ => (hk_.1.2.2.2.2) e_)))) (fun k_ hk_ => ⟨hk_.1.1.1, hk_.1.1.2.1, hk_.1.1.2.2.1, hk_.1.1.2.2.2.1, hk_.1.1.2.2.2.2⟩)); replace HO_1087004 := am (Kd.R_mono (ok' := fun k_ => some k_ ≠ (.slice Ao35 t1066.length co35 : Value).ownBlock ∧ some k_ ≠ (.slice Ao36 t1069.length co36 : Value).ownBlock ∧ some k_ ≠ (.slice Ao44 t1123.length co44 : Value).ownBlock ∧ some k_ ≠ (.slice Ao56 t1095.length co56 : Value).ownBlock ∧ some k_ ≠ (.slice Ao57 t1098.length co57 : Value).ownBlock) (Kd.R_keptB ((Kd.R_apart' HO_1087004.out (Kd.R_typed HO_1104002.out) (by decide))) hkp (fun k_ hk_ hs_ => Or.elim hs_ (fun e_ => (hk_.2) e_) (fun e_ => Or.elim e_ (fun e_ => (hk_.1.2.2.2.1) e_) (fun e_ => (hk_.1.2.2.2.2) e_)))) (fun k_ hk_ => ⟨hk_.1.1.1, hk_.1.1.2.1, hk_.1.1.2.2.1, hk_.1.1.2.2.2.1, hk_.1.1.2.2.2.2⟩)); replace BK1044 := am (blk_kept (zq BK1044) hkp (fun hs_ => Or.elim hs_ (fun e_ => (fun e_ => (Kd.R_ne HO_1104002.out BK1044.out (by decide)) e_) e_) (fun e_ => Or.elim e_ (fun e_ => (fun e_ => (Kd.R_ne HO_1104003.out BK1044.out (by decide)) e_) e_) (fun e_ => (fun e_ => (Kd.R_ne HO_1104004.out BK1044.out (by decide)) e_) e_)))); replace BK1074 := am (blk_kept (zq BK1074) hkp (fun hs_ => Or.elim hs_ (fun e_ => (fun e_ => (Kd.R_ne HO_1104002.out BK1074.out (by decide)) e_) e_) (fun e_ => Or.elim e_ (fun e_ => (fun e_ => (Kd.R_ne HO_1104003.out BK1074.out (by decide)) e_) e_) (fun e_ => (fun e_ => (Kd.R_ne HO_1104004.out BK1074.out (by decide)) e_) e_)))); replace BK1086 := am (blk_kept (zq BK1086) hkp (fun hs_ => Or.elim hs_ (fun e_ => (fun e_ => (Kd.R_ne HO_1104002.out BK1086.out (by decide)) e_) e_) (fun e_ => Or.elim e_ (fun e_ => (fun e_ => (Kd.R_ne HO_1104003.out BK1086.out (by decide)) e_) e_) (fun e_ => (fun e_ => (Kd.R_ne HO_1104004.out BK1086.out (by decide)) e_) e_)))); replace BK1103 := am (blk_kept (zq BK1103) hkp (fun hs_ => Or.elim hs_ (fun e_ => (fun e_ => (Kd.R_ne HO_1104002.out BK1103.out (by decide)) e_) e_) (fun e_ => Or.elim e_ (fun e_ => (fun e_ => (Kd.R_ne HO_1104003.out BK1103.out (by decide)) e_) e_) (fun e_ => (fun e_ => (Kd.R_ne HO_1104004.out BK1103.out (by decide)) e_) e_)))); replace HO_1104002 := am (Kd.R_reok rfl hy0 (fun k_ e_ => HO_1104002.out.1 k_ e_)); replace HO_1104003 := am (Kd.R_reok rfl hy1 (fun k_ e_ => HO_1104003.out.1 k_ e_)); replace HO_1104004 := am (Kd.R_reok rfl hy2 (fun k_ e_ => HO_1104004.out.1 k_ e_)); replace HB := am (hb); (try clear hb hkp hy0 hy1 hy2); have ⟨hcz240_0, hcz240_1, hcz240_2, hcz240_3, hcz240_4, hfz240_0, hfz240_1, hfz240_2, hfz240_3, hfz240_4⟩ := bc5 BK1103) | ((with_reducible refine gate_callee (f := 26) rfl ?_); refine goesL_ (some 103) rfl rfl Try.func26 (by kernel_rfl) rfl #[.agg #[.int .i64 t1090, .int .i64 t1091, .slice Ao55 t1129.length co55, .slice Ao56 t1130.length co56, .slice Ao57 t1131.length co57], .int .i64 1] rfl (by (try simp only [List.map_toArray, List.map_cons, List.map_nil]); first | done | (rw [show t1129.length = t1092.length from (Kd.R_reads' HO_1104002.out).1.symm, show t1130.length = t1095.length from (Kd.R_reads' HO_1104003.out).1.symm, show t1131.length = t1098.length from (Kd.R_reads' HO_1104004.out).1.symm] <;> rfl) | rfl | (simp only [List.length_drop, List.length_take]; rfl)) ?_; (with_reducible refine (laws_heldSession.calls kj93 t1090 t1091 _ _ t1129 _ _ t1130 _ _ t1131 1 t1132 _ ?s1 ?s2 ?s3 ?s4 ?s5 ?s6 A140.out).mono ?_); (case s1 => exact cr HO_1104002); (case s2 => rw [show t1129.length = t1092.length from (Kd.R_reads' HO_1104002.out).1.symm]; exact rq1 HO_1104002); (case s3 => exact cr HO_1104003); (case s4 => rw [show t1130.length = t1095.length from (Kd.R_reads' HO_1104003.out).1.symm]; exact rq1 HO_1104003); (case s5 => exact cr HO_1104004); (case s6 => rw [show t1131.length = t1098.length from (Kd.R_reads' HO_1104004.out).1.symm]; exact rq1 HO_1104004); rintro e w241 ⟨rfl, hb⟩; refine ⟨_, rfl, ?_⟩; replace HO_1075002 := rb HO_1075002 hb; replace HO_1075003 := rb HO_1075003 hb; replace HO_1075004 := rb HO_1075004 hb; replace HO_1087002 := rb HO_1087002 hb; replace HO_1087003 := rb HO_1087003 hb; replace HO_1087004 := rb HO_1087004 hb; replace HO_1104002 := rb HO_1104002 hb; replace HO_1104003 := rb HO_1104003 hb; replace HO_1104004 := rb HO_1104004 hb; replace BK1044 := zb BK1044 hb; replace BK1074 := zb BK1074 hb; replace BK1086 := zb BK1086 hb; replace BK1103 := zb BK1103 hb; replace HB := sb hb; (try clear hb)))
             go_ret
             exact ⟨eq_, bq⟩
       ·replace c91 := Bool.eq_false_iff.mpr c91
        subst c91
        rw [if_neg (show ¬ (false = true) by decide)] at H
        try dsimp only at H
        obtain rfl := Option.some.inj H
        try go_wp2
        replace HO_10 := am (Kd.R_drew HO_10.out)
        replace HO_1075002 := am (Kd.R_drew HO_1075002.out)
        replace HO_1075003 := am (Kd.R_drew HO_1075003.out)
        replace HO_1075004 := am (Kd.R_drew HO_1075004.out)
        replace HO_1087002 := am (Kd.R_drew HO_1087002.out)
        replace HO_1087003 := am (Kd.R_drew HO_1087003.out)
        replace HO_1087004 := am (Kd.R_drew HO_1087004.out)
        replace HO_1104002 := am (Kd.R_drew HO_1104002.out)
        replace HO_1104003 := am (Kd.R_drew HO_1104003.out)
        replace HO_1104004 := am (Kd.R_drew HO_1104004.out)
        replace BK1044 := am (blk_drew BK1044.out)
        replace BK1074 := am (blk_drew BK1074.out)
        replace BK1086 := am (blk_drew BK1086.out)
        replace BK1103 := am (blk_drew BK1103.out)
        replace HB := am (below_drew1 HB.out)
        refine start_ (n := 5) (S := fun w' => w'.cell? ⟨gb1086, 0, none⟩ = some (.int .i64 t1075) ∧ w'.cell? ⟨gb1086, 1, none⟩ = some (.int .i64 t1076) ∧ w'.cell? ⟨gb1086, 2, none⟩ = some (.slice Ao43 t1077.length co43) ∧ w'.cell? ⟨gb1086, 3, none⟩ = some (.slice Ao44 t1080.length co44) ∧ w'.cell? ⟨gb1086, 4, none⟩ = some (.slice Ao45 t1083.length co45) ∧ w'.cell? ⟨gb1044, 0, none⟩ = some (.int .i64 a0_0) ∧ w'.cell? ⟨gb1044, 1, none⟩ = some (.int .i64 a0_1) ∧ w'.cell? ⟨gb1044, 2, none⟩ = some (.slice A0_2 l0_2.length c0_2) ∧ w'.cell? ⟨gb1044, 3, none⟩ = some (.slice A0_3 l0_3.length c0_3) ∧ w'.cell? ⟨gb1044, 4, none⟩ = some (.slice A0_4 l0_4.length c0_4)) (ds := []) #[false, false, false, false, false] (by kernel_rfl) rfl rfl cl (fun hHeld => ?_)
        generalize wc.drew = w242 at HO_10 HO_1075002 HO_1075003 HO_1075004 HO_1087002 HO_1087003 HO_1087004 HO_1104002 HO_1104003 HO_1104004 BK1044 BK1074 BK1086 BK1103 HB hHeld ⊢
        refine take_ (i := 0) (N := some 64) (v := ?_) (a' := ?_) #[true, false, false, false, false] rfl rfl (by kernel_rfl) (fun _ _ _ h => h) (Or.inl ⟨by rfl, ?_⟩) hHeld ?_ ?_
        rotate_left
        ·rintro w' ⟨s0, s1, s2, s3, s4, s5, s6, s7, s8, s9⟩
         go_simp
         with_reducible rfl
        rotate_left
        ·simp only [Act.put, List.setIfInBounds_toArray, List.set_cons_zero, List.set_cons_succ, i64_w, i32_w]
         rfl
        refine take_ (i := 1) (N := some 65) (v := ?_) (a' := ?_) #[true, true, false, false, false] rfl rfl (by kernel_rfl) (fun _ _ _ h => h) (Or.inl ⟨by rfl, ?_⟩) hHeld ?_ ?_
        rotate_left
        ·rintro w' ⟨s0, s1, s2, s3, s4, s5, s6, s7, s8, s9⟩
         go_simp
         with_reducible rfl
        rotate_left
        ·simp only [Act.put, List.setIfInBounds_toArray, List.set_cons_zero, List.set_cons_succ, i64_w, i32_w]
         rfl
        refine one_ (i := 2) (N := some 66) #[true, true, true, false, false] rfl rfl (by kernel_rfl) (by decide) (fun K hK => ?_)
        refine goes_ Try.func16 (by kernel_rfl) rfl #[.agg #[.int .i64 a0_0, .int .i64 a0_1, .slice A0_2 l0_2.length c0_2, .slice A0_3 l0_3.length c0_3, .slice A0_4 l0_4.length c0_4]] (by rfl) rfl rfl mq ?_
        with_reducible refine (laws_toSession.calls kj18 a0_0 a0_1 _ _ l0_2 _ _ l0_3 _ _ l0_4 t1105 t1106 t1107 t1110 t1113 _ ?s1 ?s2 ?s3 ?s4 ?s5 ?s6 A86.out).mono ?_
        (case s1 => exact cq (Kd.C_below HR0_2.out HB.out))
        (case s2 => exact HC0_2.out)
        (case s3 => exact cq (Kd.C_below HR0_3.out HB.out))
        (case s4 => exact HC0_3.out)
        (case s5 => exact cq (Kd.C_below HR0_4.out HB.out))
        (case s6 => exact HC0_4.out)
        rintro e w243 ⟨v1108, v1111, v1114, rfl, ho0, ho1, ho2, hb⟩
        refine ⟨_, rfl, ?_⟩
        have HO1109 := rl (Kd.R_new' (Kd.R_new' (Kd.R_new' ho0 (lw HO_1075002)) (lw HO_1087002)) (lw HO_1104002))
        replace HO_1075002 := am (Kd.R_elder' (rq HO_1075002) (Kd.R_base ho0) hb)
        replace HO_1087002 := am (Kd.R_elder' (rq HO_1087002) (Kd.R_base ho0) hb)
        replace HO_1104002 := am (Kd.R_elder' (rq HO_1104002) (Kd.R_base ho0) hb)
        have HO1112 := rl (Kd.R_new' (Kd.R_new' (Kd.R_new' (Kd.R_new' (Kd.R_new' (Kd.R_new' (Kd.R_new' ho1 (lw HO_10)) (lw HO_1075003)) (lw HO_1075004)) (lw HO_1087003)) (lw HO_1087004)) (lw HO_1104003)) (lw HO_1104004))
        have HO1115 := rl (Kd.R_new' (Kd.R_new' (Kd.R_new' (Kd.R_new' (Kd.R_new' (Kd.R_new' (Kd.R_new' ho2 (lw HO_10)) (lw HO_1075003)) (lw HO_1075004)) (lw HO_1087003)) (lw HO_1087004)) (lw HO_1104003)) (lw HO_1104004))
        replace HO_10 := tq2 (rq HO_10) hb ho1 ho2
        replace HO_1075003 := tq2 (rq HO_1075003) hb ho1 ho2
        replace HO_1075004 := tq2 (rq HO_1075004) hb ho1 ho2
        replace HO_1087003 := tq2 (rq HO_1087003) hb ho1 ho2
        replace HO_1087004 := tq2 (rq HO_1087004) hb ho1 ho2
        replace HO_1104003 := tq2 (rq HO_1104003) hb ho1 ho2
        replace HO_1104004 := tq2 (rq HO_1104004) hb ho1 ho2
        replace BK1044 := zb BK1044 hb
        replace BK1074 := zb BK1074 hb
        replace BK1086 := zb BK1086 hb
        replace BK1103 := zb BK1103 hb
        replace HB := sb hb
        (try clear hb ho0 ho1 ho2)
        obtain ⟨Ao244, co244, eo244⟩ := Kd.R_slice HO1109.out
        (first | subst eo244 | (injection eo244 with f1_ f2_ f3_; have f4_ := f1_.symm; have f5_ := f3_.symm; clear f1_ f2_ f3_; subst f4_; subst f5_))
        obtain ⟨Ao245, co245, eo245⟩ := Kd.R_slice HO1112.out
        (first | subst eo245 | (injection eo245 with f1_ f2_ f3_; have f4_ := f1_.symm; have f5_ := f3_.symm; clear f1_ f2_ f3_; subst f4_; subst f5_))
        obtain ⟨Ao246, co246, eo246⟩ := Kd.R_slice HO1115.out
        (first | subst eo246 | (injection eo246 with f1_ f2_ f3_; have f4_ := f1_.symm; have f5_ := f3_.symm; clear f1_ f2_ f3_; subst f4_; subst f5_))
        refine hK.out _ _ cl (fun hHeld => ?_)
        clear hK K
        refine norm_ (a' := ?_) ?_ ?_
        rotate_left
        ·show Act.put _ (some 66) _ = _
         simp only [Act.put, List.setIfInBounds_toArray, List.set_cons_zero, List.set_cons_succ, i64_w, i32_w]
         rfl
        refine one_ (i := 3) (N := some 67) #[true, true, true, true, false] rfl rfl (by kernel_rfl) (by decide) (fun K hK => ?_)
        refine goes_ Try.func18 (by kernel_rfl) rfl #[.agg #[.int .i64 t1075, .int .i64 t1076, .slice Ao43 t1077.length co43, .slice Ao44 t1080.length co44, .slice Ao45 t1083.length co45], .agg #[.int .i64 t1105, .int .i64 t1106, .slice Ao244 t1107.length co244, .slice Ao245 t1110.length co245, .slice Ao246 t1113.length co246]] (by rfl) rfl rfl mq ?_
        with_reducible refine (laws_eqSession.calls kj18 t1075 t1076 _ _ t1077 _ _ t1080 _ _ t1083 t1105 t1106 _ _ t1107 _ _ t1110 _ _ t1113 true _ ?s1 ?s2 ?s3 ?s4 ?s5 ?s6 ?s7 ?s8 ?s9 ?s10 ?s11 ?s12 A87.out).mono ?_
        (case s1 => exact cr HO_1087002)
        (case s2 => exact rq1 HO_1087002)
        (case s3 => exact cr HO_1087003)
        (case s4 => exact rq1 HO_1087003)
        (case s5 => exact cr HO_1087004)
        (case s6 => exact rq1 HO_1087004)
        (case s7 => exact cr HO1109)
        (case s8 => exact rq1 HO1109)
        (case s9 => exact cr HO1112)
        (case s10 => exact rq1 HO1112)
        (case s11 => exact cr HO1115)
        (case s12 => exact rq1 HO1115)
        rintro e w247 ⟨rfl, hb⟩
        refine ⟨_, rfl, ?_⟩
        replace HO_10 := rb HO_10 hb
        replace HO_1075002 := rb HO_1075002 hb
        replace HO_1075003 := rb HO_1075003 hb
        replace HO_1075004 := rb HO_1075004 hb
        replace HO_1087002 := rb HO_1087002 hb
        replace HO_1087003 := rb HO_1087003 hb
        replace HO_1087004 := rb HO_1087004 hb
        replace HO_1104002 := rb HO_1104002 hb
        replace HO_1104003 := rb HO_1104003 hb
        replace HO_1104004 := rb HO_1104004 hb
        replace HO1109 := rb HO1109 hb
        replace HO1112 := rb HO1112 hb
        replace HO1115 := rb HO1115 hb
        replace BK1044 := zb BK1044 hb
        replace BK1074 := zb BK1074 hb
        replace BK1086 := zb BK1086 hb
        replace BK1103 := zb BK1103 hb
        replace HB := sb hb
        (try clear hb)
        refine hK.out _ _ cl (fun hHeld => ?_)
        clear hK K
        refine norm_ (a' := ?_) ?_ ?_
        rotate_left
        ·show Act.put _ (some 67) _ = _
         simp only [Act.put, List.setIfInBounds_toArray, List.set_cons_zero, List.set_cons_succ, i64_w, i32_w]
         rfl
        refine pure_ (i := 4) (N := some 68) (v := ?_) (a' := ?_) #[true, true, true, true, true] rfl rfl (by kernel_rfl) (fun _ _ _ h => h) (Or.inl ⟨by rfl, ?_⟩) ?_ ?_
        rotate_left
        ·intro w'
         go_simp
         with_reducible rfl
        rotate_left
        ·simp only [Act.put, List.setIfInBounds_toArray, List.set_cons_zero, List.set_cons_succ, i64_w, i32_w]
         rfl
        refine done_ (by kernel_rfl) ?_
        try go_wp2_with (first | ((with_reducible refine gate_callee (f := 41) rfl ?_); refine goesQ (some 71) Try.func41 #[.slice A1 l1.length c1] ?_; (with_reducible refine (laws_toSessionActS.calls kj18 _ _ l1 t1117 _ ?s1 ?s2 A89.out).mono ?_); (case s1 => exact cq (Kd.C_below HR1.out HB.out)); (case s2 => exact HC1.out); rintro e w248 ⟨v1118, rfl, ho0, hb⟩; refine ⟨_, rfl, ?_⟩; replace HO_1075002 := rb HO_1075002 hb; replace HO_1087002 := rb HO_1087002 hb; replace HO_1104002 := rb HO_1104002 hb; replace HO1109 := rb HO1109 hb; have HO1119 := rl (Kd.R_new' (Kd.R_new' (Kd.R_new' (Kd.R_new' (Kd.R_new' (Kd.R_new' (Kd.R_new' (Kd.R_new' (Kd.R_new' ho0 (lw HO_10)) (lw HO_1075003)) (lw HO_1075004)) (lw HO_1087003)) (lw HO_1087004)) (lw HO_1104003)) (lw HO_1104004)) (lw HO1112)) (lw HO1115)); replace HO_10 := am (Kd.R_elder' (rq HO_10) (Kd.R_base ho0) hb); replace HO_1075003 := am (Kd.R_elder' (rq HO_1075003) (Kd.R_base ho0) hb); replace HO_1075004 := am (Kd.R_elder' (rq HO_1075004) (Kd.R_base ho0) hb); replace HO_1087003 := am (Kd.R_elder' (rq HO_1087003) (Kd.R_base ho0) hb); replace HO_1087004 := am (Kd.R_elder' (rq HO_1087004) (Kd.R_base ho0) hb); replace HO_1104003 := am (Kd.R_elder' (rq HO_1104003) (Kd.R_base ho0) hb); replace HO_1104004 := am (Kd.R_elder' (rq HO_1104004) (Kd.R_base ho0) hb); replace HO1112 := am (Kd.R_elder' (rq HO1112) (Kd.R_base ho0) hb); replace HO1115 := am (Kd.R_elder' (rq HO1115) (Kd.R_base ho0) hb); replace BK1044 := zb BK1044 hb; replace BK1074 := zb BK1074 hb; replace BK1086 := zb BK1086 hb; replace BK1103 := zb BK1103 hb; replace HB := sb hb; (try clear hb ho0); obtain ⟨Ao249, co249, eo249⟩ := Kd.R_slice HO1119.out; subst eo249) | ((with_reducible refine gate_callee (f := 43) rfl ?_); refine goesQ (some 72) Try.func43 #[.slice Ao48 t1087.length co48, .slice Ao249 t1117.length co249] ?_; (with_reducible refine (laws_eqSessionActS.calls kj18 _ _ t1087 _ _ t1117 false _ ?s1 ?s2 ?s3 ?s4 A90.out).mono ?_); (case s1 => exact cr HO_10); (case s2 => exact rq1 HO_10); (case s3 => exact cr HO1119); (case s4 => exact rq1 HO1119); rintro e w250 ⟨rfl, hb⟩; refine ⟨_, rfl, ?_⟩; replace HO_10 := rb HO_10 hb; replace HO_1075002 := rb HO_1075002 hb; replace HO_1075003 := rb HO_1075003 hb; replace HO_1075004 := rb HO_1075004 hb; replace HO_1087002 := rb HO_1087002 hb; replace HO_1087003 := rb HO_1087003 hb; replace HO_1087004 := rb HO_1087004 hb; replace HO_1104002 := rb HO_1104002 hb; replace HO_1104003 := rb HO_1104003 hb; replace HO_1104004 := rb HO_1104004 hb; replace HO1109 := rb HO1109 hb; replace HO1112 := rb HO1112 hb; replace HO1115 := rb HO1115 hb; replace BK1044 := zb BK1044 hb; replace BK1074 := zb BK1074 hb; replace BK1086 := zb BK1086 hb; replace BK1103 := zb BK1103 hb; replace HB := sb hb; (try clear hb)))
        go_ret
        exact ⟨eq_, bq⟩
      ·replace c88 := Bool.eq_false_iff.mpr c88
       subst c88
       rw [if_neg (show ¬ (false = true) by decide)] at H
       try dsimp only at H
       obtain rfl := Option.some.inj H
       try go_wp2
       replace HO_10 := am (Kd.R_drew HO_10.out)
       replace HO_1075002 := am (Kd.R_drew HO_1075002.out)
       replace HO_1075003 := am (Kd.R_drew HO_1075003.out)
       replace HO_1075004 := am (Kd.R_drew HO_1075004.out)
       replace HO_1087002 := am (Kd.R_drew HO_1087002.out)
       replace HO_1087003 := am (Kd.R_drew HO_1087003.out)
       replace HO_1087004 := am (Kd.R_drew HO_1087004.out)
       replace HO_1104002 := am (Kd.R_drew HO_1104002.out)
       replace HO_1104003 := am (Kd.R_drew HO_1104003.out)
       replace HO_1104004 := am (Kd.R_drew HO_1104004.out)
       replace BK1044 := am (blk_drew BK1044.out)
       replace BK1074 := am (blk_drew BK1074.out)
       replace BK1086 := am (blk_drew BK1086.out)
       replace BK1103 := am (blk_drew BK1103.out)
       replace HB := am (below_drew1 HB.out)
       refine start_ (n := 5) (S := fun w' => w'.cell? ⟨gb1086, 0, none⟩ = some (.int .i64 t1075) ∧ w'.cell? ⟨gb1086, 1, none⟩ = some (.int .i64 t1076) ∧ w'.cell? ⟨gb1086, 2, none⟩ = some (.slice Ao43 t1077.length co43) ∧ w'.cell? ⟨gb1086, 3, none⟩ = some (.slice Ao44 t1080.length co44) ∧ w'.cell? ⟨gb1086, 4, none⟩ = some (.slice Ao45 t1083.length co45) ∧ w'.cell? ⟨gb1044, 0, none⟩ = some (.int .i64 a0_0) ∧ w'.cell? ⟨gb1044, 1, none⟩ = some (.int .i64 a0_1) ∧ w'.cell? ⟨gb1044, 2, none⟩ = some (.slice A0_2 l0_2.length c0_2) ∧ w'.cell? ⟨gb1044, 3, none⟩ = some (.slice A0_3 l0_3.length c0_3) ∧ w'.cell? ⟨gb1044, 4, none⟩ = some (.slice A0_4 l0_4.length c0_4)) (ds := []) #[false, false, false, false, false] (by kernel_rfl) rfl rfl cl (fun hHeld => ?_)
       generalize wc.drew = w251 at HO_10 HO_1075002 HO_1075003 HO_1075004 HO_1087002 HO_1087003 HO_1087004 HO_1104002 HO_1104003 HO_1104004 BK1044 BK1074 BK1086 BK1103 HB hHeld ⊢
       refine take_ (i := 0) (N := some 64) (v := ?_) (a' := ?_) #[true, false, false, false, false] rfl rfl (by kernel_rfl) (fun _ _ _ h => h) (Or.inl ⟨by rfl, ?_⟩) hHeld ?_ ?_
       rotate_left
       ·rintro w' ⟨s0, s1, s2, s3, s4, s5, s6, s7, s8, s9⟩
        go_simp
        with_reducible rfl
       rotate_left
       ·simp only [Act.put, List.setIfInBounds_toArray, List.set_cons_zero, List.set_cons_succ, i64_w, i32_w]
        rfl
       refine take_ (i := 1) (N := some 65) (v := ?_) (a' := ?_) #[true, true, false, false, false] rfl rfl (by kernel_rfl) (fun _ _ _ h => h) (Or.inl ⟨by rfl, ?_⟩) hHeld ?_ ?_
       rotate_left
       ·rintro w' ⟨s0, s1, s2, s3, s4, s5, s6, s7, s8, s9⟩
        go_simp
        with_reducible rfl
       rotate_left
       ·simp only [Act.put, List.setIfInBounds_toArray, List.set_cons_zero, List.set_cons_succ, i64_w, i32_w]
        rfl
       refine one_ (i := 2) (N := some 66) #[true, true, true, false, false] rfl rfl (by kernel_rfl) (by decide) (fun K hK => ?_)
       refine goes_ Try.func16 (by kernel_rfl) rfl #[.agg #[.int .i64 a0_0, .int .i64 a0_1, .slice A0_2 l0_2.length c0_2, .slice A0_3 l0_3.length c0_3, .slice A0_4 l0_4.length c0_4]] (by rfl) rfl rfl mq ?_
       with_reducible refine (laws_toSession.calls kj18 a0_0 a0_1 _ _ l0_2 _ _ l0_3 _ _ l0_4 t1105 t1106 t1107 t1110 t1113 _ ?s1 ?s2 ?s3 ?s4 ?s5 ?s6 A86.out).mono ?_
       (case s1 => exact cq (Kd.C_below HR0_2.out HB.out))
       (case s2 => exact HC0_2.out)
       (case s3 => exact cq (Kd.C_below HR0_3.out HB.out))
       (case s4 => exact HC0_3.out)
       (case s5 => exact cq (Kd.C_below HR0_4.out HB.out))
       (case s6 => exact HC0_4.out)
       rintro e w252 ⟨v1108, v1111, v1114, rfl, ho0, ho1, ho2, hb⟩
       refine ⟨_, rfl, ?_⟩
       have HO1109 := rl (Kd.R_new' (Kd.R_new' (Kd.R_new' ho0 (lw HO_1075002)) (lw HO_1087002)) (lw HO_1104002))
       replace HO_1087002 := am (Kd.R_elder' (rq HO_1087002) (Kd.R_base ho0) hb)
       have HO1112 := rl (Kd.R_new' (Kd.R_new' (Kd.R_new' (Kd.R_new' (Kd.R_new' (Kd.R_new' (Kd.R_new' ho1 (lw HO_10)) (lw HO_1075003)) (lw HO_1075004)) (lw HO_1087003)) (lw HO_1087004)) (lw HO_1104003)) (lw HO_1104004))
       have HO1115 := rl (Kd.R_new' (Kd.R_new' (Kd.R_new' (Kd.R_new' (Kd.R_new' (Kd.R_new' (Kd.R_new' ho2 (lw HO_10)) (lw HO_1075003)) (lw HO_1075004)) (lw HO_1087003)) (lw HO_1087004)) (lw HO_1104003)) (lw HO_1104004))
       replace HO_1087003 := tq2 (rq HO_1087003) hb ho1 ho2
       replace HO_1087004 := tq2 (rq HO_1087004) hb ho1 ho2
       replace BK1044 := zb BK1044 hb
       replace BK1074 := zb BK1074 hb
       replace BK1086 := zb BK1086 hb
       replace BK1103 := zb BK1103 hb
       replace HB := sb hb
       (try clear hb ho0 ho1 ho2)
       obtain ⟨Ao253, co253, eo253⟩ := Kd.R_slice HO1109.out
       (first | subst eo253 | (injection eo253 with f1_ f2_ f3_; have f4_ := f1_.symm; have f5_ := f3_.symm; clear f1_ f2_ f3_; subst f4_; subst f5_))
       obtain ⟨Ao254, co254, eo254⟩ := Kd.R_slice HO1112.out
       (first | subst eo254 | (injection eo254 with f1_ f2_ f3_; have f4_ := f1_.symm; have f5_ := f3_.symm; clear f1_ f2_ f3_; subst f4_; subst f5_))
       obtain ⟨Ao255, co255, eo255⟩ := Kd.R_slice HO1115.out
       (first | subst eo255 | (injection eo255 with f1_ f2_ f3_; have f4_ := f1_.symm; have f5_ := f3_.symm; clear f1_ f2_ f3_; subst f4_; subst f5_))
       refine hK.out _ _ cl (fun hHeld => ?_)
       clear hK K
       refine norm_ (a' := ?_) ?_ ?_
       rotate_left
       ·show Act.put _ (some 66) _ = _
        simp only [Act.put, List.setIfInBounds_toArray, List.set_cons_zero, List.set_cons_succ, i64_w, i32_w]
        rfl
       refine one_ (i := 3) (N := some 67) #[true, true, true, true, false] rfl rfl (by kernel_rfl) (by decide) (fun K hK => ?_)
       refine goes_ Try.func18 (by kernel_rfl) rfl #[.agg #[.int .i64 t1075, .int .i64 t1076, .slice Ao43 t1077.length co43, .slice Ao44 t1080.length co44, .slice Ao45 t1083.length co45], .agg #[.int .i64 t1105, .int .i64 t1106, .slice Ao253 t1107.length co253, .slice Ao254 t1110.length co254, .slice Ao255 t1113.length co255]] (by rfl) rfl rfl mq ?_
       with_reducible refine (laws_eqSession.calls kj18 t1075 t1076 _ _ t1077 _ _ t1080 _ _ t1083 t1105 t1106 _ _ t1107 _ _ t1110 _ _ t1113 false _ ?s1 ?s2 ?s3 ?s4 ?s5 ?s6 ?s7 ?s8 ?s9 ?s10 ?s11 ?s12 A87.out).mono ?_
       (case s1 => exact cr HO_1087002)
       (case s2 => exact rq1 HO_1087002)
       (case s3 => exact cr HO_1087003)
       (case s4 => exact rq1 HO_1087003)
       (case s5 => exact cr HO_1087004)
       (case s6 => exact rq1 HO_1087004)
       (case s7 => exact cr HO1109)
       (case s8 => exact rq1 HO1109)
       (case s9 => exact cr HO1112)
       (case s10 => exact rq1 HO1112)
       (case s11 => exact cr HO1115)
       (case s12 => exact rq1 HO1115)
       rintro e w256 ⟨rfl, hb⟩
       refine ⟨_, rfl, ?_⟩
       replace BK1044 := zb BK1044 hb
       replace BK1074 := zb BK1074 hb
       replace BK1086 := zb BK1086 hb
       replace BK1103 := zb BK1103 hb
       replace HB := sb hb
       (try clear hb)
       refine hK.out _ _ cl (fun hHeld => ?_)
       clear hK K
       refine norm_ (a' := ?_) ?_ ?_
       rotate_left
       ·show Act.put _ (some 67) _ = _
        simp only [Act.put, List.setIfInBounds_toArray, List.set_cons_zero, List.set_cons_succ, i64_w, i32_w]
        rfl
       refine pure_ (i := 4) (N := some 68) (v := ?_) (a' := ?_) #[true, true, true, true, true] rfl rfl (by kernel_rfl) (fun _ _ _ h => h) (Or.inl ⟨by rfl, ?_⟩) ?_ ?_
       rotate_left
       ·intro w'
        go_simp
        with_reducible rfl
       rotate_left
       ·simp only [Act.put, List.setIfInBounds_toArray, List.set_cons_zero, List.set_cons_succ, i64_w, i32_w]
        rfl
       refine done_ (by kernel_rfl) ?_
       try go_wp2
       go_ret
       exact ⟨eq_, bq⟩




end Go.Proofs.Ytkkgjljcgnegpaa.Pall
