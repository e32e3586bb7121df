import Derived.Test.YtmokdglmbjofeaaMFnExactSumKit0
namespace Go.Proofs.Ytmokdglmbjofeaa.Pall
open Go.RowKit Go.Proofs.YtmokdglmbjofeaaW.PrintWords Go.Proofs.YtmokdglmbjofeaaW.PrintLast Go.Proofs.YtmokdglmbjofeaaW.PrintMore
attribute [local go_sem] max2_int min2_int max_two min_two max_three min_three max_four min_four   -- for this text's walks alone
set_option linter.unusedVariables false
set_option linter.unusedSimpArgs false
set_option maxHeartbeats 8000000
set_option maxRecDepth 100000
def laws_markCellS.l0 : Nat → List (S71) → Int → Int → Option (Int × (List (S71)))
 | 0, _, _, _ => none
 | k + 1, x0, x1, x5 => if x5 < (x0.length : Int) then (if 0 ≤ x5 then ((some (x0.set (x5 : Int).toNat (⟨x1, (rd_T71 x0 x5).f1⟩ : S71) : List (S71))).bind fun y229 => (laws_markCellS.l0 k (y229.set (x5 : Int).toNat (⟨(rd_T71 y229 x5).f0, wrap64 (x1 + 1)⟩ : S71)) (wrap64 ((wrap64 (x1 + 1)) + 1)) (wrap64 (x5 + 1)))) else (none)) else (some (x1, x0))
def laws_markCellS.f (k : Nat) (l0 : List (S71)) (a1 : Int) : Option (Int × (List (S71))) := laws_markCellS.l0 k l0 a1 0
theorem laws_markCellS.calls (k : Nat) (P0_ : Nat → Prop) (u13_ : Value) (l0 : List (S71)) (a1 : Int) (r1 : Int) (r2 : List (S71)) (w0 w : World) (hB : Below w0.heap.size w0 w) (ho0 : Kd.R k71 71 w w0.heap.size P0_ u13_ l0) (h : laws_markCellS.f k l0 a1 = some (r1, r2)) :
  Calls Try.prog 34 #[u13_, .int .i64 a1] w fun e w' => e = .returned (.int .i64 r1) ∧ Kd.R k71 71 w' w0.heap.size (fun k_ => (P0_ k_ ∨ w.heap.size ≤ k_)) u13_ r2 ∧ Below w0.heap.size w0 w' ∧ Kept w w' (fun k_ => P0_ k_) := by
 have HO0 := am (show Kd.R k71 71 w w0.heap.size (fun k_ => (P0_ k_ ∨ w.heap.size ≤ k_)) u13_ l0 from Kd.R_mono ho0 (fun k_ hk => (.inl hk))); have HK := am (Kept.refl w (fun k_ => P0_ k_)); have HW0 := am hB.size; have HB := am hB; clear hB; have H := h; clear h
 unfold laws_markCellS.f at H
 have H' := am H; clear H
 go_enter Try.func34, Try.ntmps34
 go_wp2
 go_loopg [1, 5] k (fun kq v1 v5 w' => ∃ (x0_1 : List (S71)) (x1_1 : Int) (x5_1 : Int), v1 = .int .i64 x1_1 ∧ v5 = .int .i64 x5_1 ∧ Aside0 (laws_markCellS.l0 kq x0_1 x1_1 x5_1 = some (r1, r2)) ∧ Aside0 (kq ≤ k) ∧ Aside0 (Kd.R k71 71 w' w0.heap.size (fun k_ => (P0_ k_ ∨ w.heap.size ≤ k_)) u13_ x0_1) ∧ Aside0 (Kept w w' (fun k_ => P0_ k_)) ∧ Aside0 (Below w0.heap.size w0 w'))
 case atStart => exact ⟨(l0), (a1), (0), sq, sq, H', ⟨Nat.le_refl _⟩, ⟨rq HO0⟩, ⟨hkq⟩, ⟨bq⟩⟩
 case round =>
  clear H'; obtain ⟨x0_1, x1_1, x5_1, rfl, rfl, HA, HK1, HO_0, HK, HB⟩ := hrel
  cases gk with
  | zero => exact absurd HA.out (by simp [laws_markCellS.l0])
  | succ k1 =>
   have H := HA.out; clear HA; simp only [laws_markCellS.l0] at H; by_cases c3 : x5_1 < (x0_1.length : Int)
   ·rw [if_pos c3] at H; have c3b0 : decide (x5_1 < (x0_1.length : Int)) = true := decide_eq_true c3; clear c3; by_cases c4 : 0 ≤ x5_1
    ·rw [if_pos c4] at H; have c4b0 : decide (0 ≤ x5_1) = true := decide_eq_true c4; clear c4; obtain ⟨y229, hy229⟩ : ∃ y_ : List (S71), y_ = (x0_1.set (x5_1 : Int).toNat (⟨x1_1, (rd_T71 x0_1 x5_1).f1⟩ : S71)) := ⟨_, rfl⟩; replace H : (laws_markCellS.l0 k1 (y229.set (x5_1 : Int).toNat (⟨(rd_T71 y229 x5_1).f0, wrap64 (x1_1 + 1)⟩ : S71)) (wrap64 ((wrap64 (x1_1 + 1)) + 1)) (wrap64 (x5_1 + 1))) = some (r1, r2) := yq hy229 H; have Ny229 := am hy229; clear hy229; obtain ⟨y230, hy230⟩ : ∃ y_ : List (S71), y_ = (y229.set (x5_1 : Int).toNat (⟨(rd_T71 y229 x5_1).f0, wrap64 (x1_1 + 1)⟩ : S71)) := ⟨_, rfl⟩; replace H : (laws_markCellS.l0 k1 y230 (wrap64 ((wrap64 (x1_1 + 1)) + 1)) (wrap64 (x5_1 + 1))) = some (r1, r2) := yq hy230 H; have Ny230 := am hy230; clear hy230; have H' := am H; clear H; obtain ⟨Ao7, co7, eo7⟩ := Kd.R_slice HO_0.out; subst eo7; have p5 : 0 ≤ (x5_1 : Int) := of_decide_eq_true aq; have q5 : (x5_1 : Int) < ((x0_1.length : Int) : Int) := of_decide_eq_true aq; obtain ⟨go5, co5, eo5, gb5, gl5, cl5, HG5⟩ := Kd.R_form HO_0.out (by omega); (first | cases eo5 | (injection eo5 with ea_ en_ ec_; (first | subst ea_ | (injection ea_ with ea_; subst ea_)); subst ec_; clear en_)); have GB5 := am gb5; have GG5 := am HG5; clear gb5 gl5 HG5; have HMgo5 := am (show (P0_ go5 ∨ w.heap.size ≤ go5) from (HO_0.out.1 _ rfl)); obtain ⟨ce5, hcl5, hM5, hcc5, hfr5⟩ := Kd.R_elem HO_0.out z71 (x5_1 : Int) p5 q5; obtain rfl := k71_openM hM5; have hx5_0 : wr.cell? ⟨go5, (x5_1 : Int).toNat * 2, none⟩ = some (.int .i64 ((rd_T71 x0_1 x5_1).f0)) := hcc5 0 _ rfl; have hx5_1 : wr.cell? ⟨go5, (x5_1 : Int).toNat * 2 + 1, none⟩ = some (.int .i64 ((rd_T71 x0_1 x5_1).f1)) := hcc5 1 _ rfl; have hf5_0 : wr.frozen? ⟨go5, (x5_1 : Int).toNat * 2, none⟩ = false := hfr5 0; have hf5_1 : wr.frozen? ⟨go5, (x5_1 : Int).toNat * 2 + 1, none⟩ = false := hfr5 1; clear hcl5 hcc5 hfr5 hM5; replace p5 := eq_true p5; replace q5 := eq_true q5; have HX8 := am (show Kd.R k71 71 wr w0.heap.size (fun k_ => (P0_ k_ ∨ w.heap.size ≤ k_)) (.slice (some ⟨go5, 0, none⟩) x0_1.length co7) x0_1 from (rq HO_0)); obtain ⟨ce8, hcl8, hM8, hcc8, hfr8⟩ := Kd.R_elem HX8.out z71 (x5_1 : Int) (of_decide_eq_true aq) (by have h_ : (x5_1 : Int) < ((x0_1.length : Int) : Int) := of_decide_eq_true aq; first | exact h_ | (have e_ := (Kd.R_reads' HO_0.out).1; omega) | simpa using h_); obtain rfl := k71_openM hM8; have HP8 := Kd.R_seg HX8.out (x5_1 : Int) (of_decide_eq_true aq) (by have h_ : (x5_1 : Int) < ((x0_1.length : Int) : Int) := of_decide_eq_true aq; first | exact h_ | (have e_ := (Kd.R_reads' HO_0.out).1; omega) | simpa using h_) (seg := [.int .i64 x1_1]) (j := 0) hcl8 hcc8 (show 1 ≤ 2 from by decide) (x' := (⟨x1_1, (rd_T71 x0_1 x5_1).f1⟩ : S71)) (k71_mkM _ _ _ (⟨x1_1, (rd_T71 x0_1 x5_1).f1⟩ : S71) ) (fun _ hk => hk); have hx8_0 := hcc8 0 _ rfl; (try simp only [show (k71).sz = 2 from rfl, Nat.mul_one, Nat.add_zero] at hx8_0); have hf8_0 := hfr8 0; (try simp only [show (k71).sz = 2 from rfl, Nat.mul_one, Nat.add_zero] at hf8_0); clear hcl8 hcc8 hfr8 hM8; go_wp2_with (first | ((with_reducible refine gate_store (t := 3) (p := 16) rfl ?_); refine store_event (t := 3) (p := 16) (v := ?vo_w9) (w1 := (wr.setCell ⟨go5, (x5_1 : Int).toNat * 2, none⟩ (.int .i64 x1_1))) ?hg ?ho ?hn ?hr ?_; (case ho => rfl); (case hg => rfl); (case hn => rfl); (case hr => go_simp; try rfl); intro w9 hw; have hg : wr.grownBy w9 (some go5) := (by rw [hw]; exact HP8.2); have hp_ : Kd.R k71 71 w9 w0.heap.size (fun k_ => (P0_ k_ ∨ w.heap.size ≤ k_)) (.slice (some ⟨go5, 0, none⟩) x0_1.length co7) y229 := (by rw [hw, Ny229.out]; exact HP8.1); clear HP8; replace HB := am ((by rw [hw]; exact below_set (HB.out) GB5.out : Below w0.heap.size w0 w9)); replace HK := am (Kept.of_grown (S := (fun k_ => P0_ k_)) hg hkq (fun k_ e_ => (HO_0.out.1 k_ e_))); replace HO_0 := am (hp_); clear hg hw hp_; have p6 : 0 ≤ (x5_1 : Int) := of_decide_eq_true aq; have q6 : (x5_1 : Int) < ((x0_1.length : Int) : Int) := of_decide_eq_true aq; obtain ⟨ce6, hcl6, hM6, hcc6, hfr6⟩ := Kd.R_elem HO_0.out z71 (x5_1 : Int) p6 q6; obtain rfl := k71_openM hM6; have hx6_0 : w9.cell? ⟨go5, (x5_1 : Int).toNat * 2, none⟩ = some (.int .i64 ((rd_T71 y229 x5_1).f0)) := hcc6 0 _ rfl; have hx6_1 : w9.cell? ⟨go5, (x5_1 : Int).toNat * 2 + 1, none⟩ = some (.int .i64 ((rd_T71 y229 x5_1).f1)) := hcc6 1 _ rfl; have hf6_0 : w9.frozen? ⟨go5, (x5_1 : Int).toNat * 2, none⟩ = false := hfr6 0; have hf6_1 : w9.frozen? ⟨go5, (x5_1 : Int).toNat * 2 + 1, none⟩ = false := hfr6 1; clear hcl6 hcc6 hfr6 hM6; replace p6 := eq_true p6; replace q6 := eq_true q6; have HX10 := am (show Kd.R k71 71 w9 w0.heap.size (fun k_ => (P0_ k_ ∨ w.heap.size ≤ k_)) (.slice (some ⟨go5, 0, none⟩) x0_1.length co7) y229 from (rq HO_0)); obtain ⟨ce10, hcl10, hM10, hcc10, hfr10⟩ := Kd.R_elem HX10.out z71 (x5_1 : Int) (of_decide_eq_true aq) (by have h_ : (x5_1 : Int) < ((x0_1.length : Int) : Int) := of_decide_eq_true aq; first | exact h_ | (have e_ := (Kd.R_reads' HO_0.out).1; omega) | simpa using h_); obtain rfl := k71_openM hM10; have HP10 := Kd.R_seg HX10.out (x5_1 : Int) (of_decide_eq_true aq) (by have h_ : (x5_1 : Int) < ((x0_1.length : Int) : Int) := of_decide_eq_true aq; first | exact h_ | (have e_ := (Kd.R_reads' HO_0.out).1; omega) | simpa using h_) (seg := [.int .i64 (wrap64 (x1_1 + 1))]) (j := 1) hcl10 hcc10 (show 2 ≤ 2 from by decide) (x' := (⟨(rd_T71 y229 x5_1).f0, wrap64 (x1_1 + 1)⟩ : S71)) (k71_mkM _ _ _ (⟨(rd_T71 y229 x5_1).f0, wrap64 (x1_1 + 1)⟩ : S71) ) (fun _ hk => hk); have hx10_1 := hcc10 1 _ rfl; (try simp only [show (k71).sz = 2 from rfl, Nat.mul_one, Nat.add_zero] at hx10_1); have hf10_1 := hfr10 1; (try simp only [show (k71).sz = 2 from rfl, Nat.mul_one, Nat.add_zero] at hf10_1); clear hcl10 hcc10 hfr10 hM10) | ((with_reducible refine gate_store (t := 3) (p := 23) rfl ?_); refine store_event (t := 3) (p := 23) (v := ?vo_w11) (w1 := (w9.setCell ⟨go5, (x5_1 : Int).toNat * 2 + 1, none⟩ (.int .i64 (wrap64 (x1_1 + 1))))) ?hg ?ho ?hn ?hr ?_; (case ho => rfl); (case hg => rfl); (case hn => rfl); (case hr => go_simp; try rfl); intro w11 hw; have hg : w9.grownBy w11 (some go5) := (by rw [hw]; exact HP10.2); have hp_ : Kd.R k71 71 w11 w0.heap.size (fun k_ => (P0_ k_ ∨ w.heap.size ≤ k_)) (.slice (some ⟨go5, 0, none⟩) x0_1.length co7) y230 := (by rw [hw, Ny230.out]; exact HP10.1); clear HP10; replace HB := am ((by rw [hw]; exact below_set (HB.out) GB5.out : Below w0.heap.size w0 w11)); replace HK := am (Kept.of_grown (S := (fun k_ => P0_ k_)) hg hkq (fun k_ e_ => (HO_0.out.1 k_ e_))); replace HO_0 := am (hp_); clear hg hw hp_))
     go_roundg k1
     case measure => have := HK1.out; omega
     case rel => exact ⟨(y230), (wrap64 ((wrap64 (x1_1 + 1)) + 1)), (wrap64 (x5_1 + 1)), sq, sq, H', ⟨by have := HK1.out; omega⟩, ⟨rq HO_0⟩, ⟨hkq⟩, ⟨bq⟩⟩
    rw [if_neg c4] at H; exact absurd H (by simp)
   rw [if_neg c3] at H; have c3b0 : decide (x5_1 < (x0_1.length : Int)) = false := decide_eq_false c3; clear c3; simp only [Option.some.injEq, Prod.mk.injEq] at H; obtain ⟨rfl, rfl⟩ := H; obtain ⟨Ao12, co12, eo12⟩ := Kd.R_slice HO_0.out; subst eo12
   go_wp2
   go_ret
   exact ⟨eq_, rq HO_0, bq, hkq⟩


def laws_markBoardS.l0 : Nat → List (S51) → Int → Int → Option (Int)
 | 0, _, _, _ => none
 | k + 1, x0, x1, x5 => if x5 < (x0.length : Int) then (if 0 ≤ x5 then ((laws_markCellS.f k ((rd_T51 x0 x5).f2) (wrap64 ((wrap64 (x1 + 1)) + 1))).bind fun bt229 => (laws_markBoardS.l0 k (x0.set (x5 : Int).toNat (⟨x1, wrap64 (x1 + 1), bt229.2⟩ : S51)) bt229.1 (wrap64 (x5 + 1)))) else (none)) else (some x1)
def laws_markBoardS.f (k : Nat) (l0 : List (S51)) (a1 : Int) : Option (Int) := laws_markBoardS.l0 k l0 a1 0
theorem mb_store {P oki : Nat → Prop} {w0 w wr w9 : World} {x0_1 : List S51} {x5_1 v : Int} {go co : Nat} {A : Value} {ys : List S71} {j : Nat} {cs cs' : List Value} (c4 : 0 ≤ x5_1) (c3 : x5_1 < (x0_1.length : Int)) (hj : j < 3) (hw : w9 = wr.setCell ⟨go, (x5_1 : Int).toNat * 3 + j, none⟩ (.int .i64 v))
  (HH : Aside0 (Kd.H k51 51 wr w0.heap.size P (.slice (some ⟨go, 0, none⟩) x0_1.length co) x0_1 x5_1 oki cs)) (he : cs' = cs.take j ++ [.int .i64 v] ++ cs.drop (j + 1)) (HB : Aside0 (Below w0.heap.size w0 wr)) (HK : Aside0 (Kept w wr P)) (GB : Aside0 (w0.heap.size ≤ go)) (hPG : Aside0 (P go)) (hOK : Aside0 (∀ k, oki k → P k ∧ k ≠ go))
  (HI : Aside0 (Kd.R k71 71 wr w0.heap.size oki A ys)) :
  Aside0 (Kd.H k51 51 w9 w0.heap.size P (.slice (some ⟨go, 0, none⟩) x0_1.length co) x0_1 x5_1 oki cs') ∧ Aside0 (Below w0.heap.size w0 w9) ∧ Aside0 (Kept w w9 P) ∧ Aside0 (Kd.R k71 71 w9 w0.heap.size oki A ys) ∧ (∀ i u, cs'[i]? = some u → w9.cell? ⟨go, (x5_1 : Int).toNat * 3 + i, none⟩ = some u) ∧ (∀ i, w9.frozen? ⟨go, i, none⟩ = false) := by
  subst hw he
  have hq := Kd.H_seg HH.out c4 c3 (seg := [.int .i64 v]) (j := j) (show j + 1 ≤ 3 from hj) (by intro q hq; obtain rfl := List.mem_singleton.1 hq; rfl)
  have hg : wr.grownBy (wr.setCell ⟨go, (x5_1 : Int).toNat * 3 + j, none⟩ (.int .i64 v)) (some go) := hq.2
  have hH : Kd.H k51 51 (wr.setCell ⟨go, (x5_1 : Int).toNat * 3 + j, none⟩ (.int .i64 v)) w0.heap.size P (.slice (some ⟨go, 0, none⟩) x0_1.length co) x0_1 x5_1 oki (cs.take j ++ [.int .i64 v] ++ cs.drop (j + 1)) := hq.1
  obtain ⟨rows9, hrl9, hraw9, _, _, hcc9, _⟩ := Kd.H_raw hH c4 c3
  obtain ⟨cs9, hbk9⟩ := Kd.R_typed hraw9 go rfl
  exact ⟨am hH, am (below_set HB.out GB.out), am (Kept.of_grown (S := P) hg HK.out (fun k_ e_ => .inl (by injection e_ with e_; rw [← e_]; exact hPG.out))), am (Kd.R_grown HI.out hg (fun k_ hk_ e_ => (hOK.out k_ hk_).2 (by injection e_))), hcc9, fun i => blk_frozen hbk9 i⟩
theorem laws_markBoardS.calls (k : Nat) (P : Nat → Prop) (u : Value) (l0 : List (S51)) (a1 : Int) (r : Int) (w0 w : World) (hB : Below w0.heap.size w0 w) (ho : Kd.S k51 51 w w0.heap.size P u l0) (h : laws_markBoardS.f k l0 a1 = some r) :
  Calls Try.prog 13 #[u, .int .i64 a1] w fun e w' => e = .returned (.int .i64 r) ∧ Below w0.heap.size w0 w' ∧ Kept w w' P := by
 have HO0 := am ho; have HK := am (Kept.refl w P); have HB := am hB; clear hB ho; have H' := am (show laws_markBoardS.l0 k l0 a1 0 = some r from h); clear h
 go_enter Try.func13, Try.ntmps13
 go_wp2
 go_loopg [1, 5] k (fun kq v1 v5 w' => ∃ (x0_1 : List (S51)) (x1_1 : Int) (x5_1 : Int), v1 = .int .i64 x1_1 ∧ v5 = .int .i64 x5_1 ∧ Aside0 (laws_markBoardS.l0 kq x0_1 x1_1 x5_1 = some r) ∧ Aside0 (kq ≤ k) ∧ Aside0 (Kd.S k51 51 w' w0.heap.size P u x0_1) ∧ Aside0 (Kept w w' P) ∧ Aside0 (Below w0.heap.size w0 w'))
 case atStart => exact ⟨l0, a1, 0, sq, sq, H', ⟨Nat.le_refl _⟩, ⟨HO0.out⟩, ⟨hkq⟩, ⟨bq⟩⟩
 case round =>
  clear H' HO0; obtain ⟨x0_1, x1_1, x5_1, rfl, rfl, HA, HK1, HO_0, HK, HB⟩ := hrel
  cases gk with
  | zero => exact absurd HA.out (by simp [laws_markBoardS.l0])
  | succ k1 =>
   have H := HA.out; clear HA; simp only [laws_markBoardS.l0] at H; by_cases c3 : x5_1 < (x0_1.length : Int)
   ·rw [if_pos c3] at H; have c3b0 : decide (x5_1 < (x0_1.length : Int)) = true := decide_eq_true c3; by_cases c4 : 0 ≤ x5_1
    ·rw [if_pos c4] at H; obtain ⟨⟨t1, t2⟩, A1, H⟩ := bindq H; try dsimp only at H
     have H' := am H; clear H; obtain ⟨go, co, rfl, gb, gl, HG⟩ := Kd.S_form HO_0.out (by omega); obtain ⟨oki, c, hcl, hM, hcc, hfr, hoki, hH⟩ := Kd.S_elem HO_0.out z51 (x5_1 : Int) c4 c3; obtain ⟨v2, rfl, hI⟩ := k51_openM hM; obtain ⟨A2, c2, rfl⟩ := Kd.R_slice hI; have hPg : P go := HO_0.out.elim (fun f hf => hf.1 go rfl); have HI := am hI; have HH := am hH; have GB := am gb; have hx0 : wr.cell? ⟨go, (x5_1 : Int).toNat * 3, none⟩ = some (.int .i64 ((rd_T51 x0_1 x5_1).f0)) := hcc 0 _ rfl; have hf0 : wr.frozen? ⟨go, (x5_1 : Int).toNat * 3, none⟩ = false := hfr 0; have hOK := am hoki; have hPG := am hPg; clear hcl hM hcc hfr hoki hH hI gb gl HG hPg HO_0; have p5 := eq_true c4; have q5 := eq_true c3; go_wp2_with (first | ((with_reducible refine gate_store (t := 3) (p := 16) rfl ?_); refine store_event (t := 3) (p := 16) (v := ?vo_w9) (w1 := (wr.setCell ⟨go, (x5_1 : Int).toNat * 3, none⟩ (.int .i64 x1_1))) ?hg ?ho ?hn ?hr ?_; (case ho => rfl); (case hg => rfl); (case hn => rfl); (case hr => go_simp; try rfl); intro w9 hw; have hm_ := mb_store (j := 0) (cs' := [.int .i64 x1_1, .int .i64 ((rd_T51 x0_1 x5_1).f1), .slice A2 ((rd_T51 x0_1 x5_1).f2).length c2]) c4 c3 (by decide) hw HH rfl HB HK GB hPG hOK HI; clear hw; replace HH := hm_.1; replace HB := hm_.2.1; replace HK := hm_.2.2.1; replace HI := hm_.2.2.2.1; have hx9 : w9.cell? ⟨go, (x5_1 : Int).toNat * 3 + 1, none⟩ = some (.int .i64 ((rd_T51 x0_1 x5_1).f1)) := hm_.2.2.2.2.1 1 _ rfl; have hf9 : w9.frozen? ⟨go, (x5_1 : Int).toNat * 3 + 1, none⟩ = false := hm_.2.2.2.2.2 _; clear hm_) | ((with_reducible refine gate_store (t := 3) (p := 23) rfl ?_); refine store_event (t := 3) (p := 23) (v := ?vo_w11) (w1 := (w9.setCell ⟨go, (x5_1 : Int).toNat * 3 + 1, none⟩ (.int .i64 (wrap64 (x1_1 + 1))))) ?hg ?ho ?hn ?hr ?_; (case ho => rfl); (case hg => rfl); (case hn => rfl); (case hr => go_simp; try rfl); intro w11 hw; have hm_ := mb_store (j := 1) (cs' := [.int .i64 x1_1, .int .i64 (wrap64 (x1_1 + 1)), .slice A2 ((rd_T51 x0_1 x5_1).f2).length c2]) c4 c3 (by decide) hw HH rfl HB HK GB hPG hOK HI; clear hw; replace HH := hm_.1; replace HB := hm_.2.1; replace HK := hm_.2.2.1; replace HI := hm_.2.2.2.1; have hx11 : w11.cell? ⟨go, (x5_1 : Int).toNat * 3 + 2, none⟩ = some (.slice A2 ((rd_T51 x0_1 x5_1).f2).length c2) := hm_.2.2.2.2.1 2 _ rfl; clear hm_) | ((with_reducible refine gate_callee (f := 34) rfl ?_); refine goesQ (some 32) Try.func34 #[.slice A2 ((rd_T51 x0_1 x5_1).f2).length c2, .int .i64 (wrap64 ((wrap64 (x1_1 + 1)) + 1))] ?_; (with_reducible refine (laws_markCellS.calls k1 (fun k_ => some k_ = (.slice A2 ((rd_T51 x0_1 x5_1).f2).length c2 : Value).ownBlock) (.slice A2 ((rd_T51 x0_1 x5_1).f2).length c2) ((rd_T51 x0_1 x5_1).f2) (wrap64 ((wrap64 (x1_1 + 1)) + 1)) t1 t2 w0 _ ?s1 ?s2 A1.out).mono ?_); (case s1 => exact HB.out); (case s2 => exact Kd.R_tight rfl HI.out); rintro e w13 ⟨rfl, hy, hb, hkp⟩; refine ⟨_, rfl, ?_⟩; replace HK := am (Kept.then_ HK.out hkp (fun k_ hs_ => .inl (hOK.out k_ (HI.out.1 k_ hs_.symm)).1)); replace HB := am hb; replace HH := am (Kd.H_back (x' := (⟨x1_1, wrap64 (x1_1 + 1), t2⟩ : S51)) (okp := oki) (Kd.H_kept HH.out hkp (fun k_ _ hn_ hs_ => hn_ (HI.out.1 k_ hs_.symm))) (k51_mkM _ _ _ (⟨x1_1, wrap64 (x1_1 + 1), t2⟩ : S51) (Kd.R_reok rfl hy (fun k_ hk_ => HI.out.1 k_ hk_))) (fun _ hk => hk)); clear hy hb hkp))
     go_roundg k1
     case measure => have := HK1.out; omega
     case rel => exact ⟨_, t1, (wrap64 (x5_1 + 1)), sq, sq, H', ⟨by have := HK1.out; omega⟩, HH, ⟨hkq⟩, ⟨bq⟩⟩
    rw [if_neg c4] at H; exact absurd H (by simp)
   rw [if_neg c3] at H; have c3b0 : decide (x5_1 < (x0_1.length : Int)) = false := decide_eq_false c3; clear c3; obtain rfl := Option.some.inj H; obtain ⟨Ao12, co12, eo12⟩ := Kd.S_slice HO_0.out; subst eo12
   go_wp2
   go_ret
   exact ⟨eq_, bq, hkq⟩
theorem laws_markBoardS.callsT (k : Nat) (u : Value) (l0 : List (S51)) (a1 : Int) (r : Int) (w0 w : World) {ok : Nat → Prop} (hB : Below w0.heap.size w0 w) (ho : Kd.S k51 51 w w0.heap.size ok u l0) (h : laws_markBoardS.f k l0 a1 = some r) :
  Calls Try.prog 13 #[u, .int .i64 a1] w fun e w' => e = .returned (.int .i64 r) ∧ Below w0.heap.size w0 w' ∧ (∀ {α : Type} {d : Kd α} {e b : Nat} {ok : Nat → Prop} {v : Value} {xs : List α}, (∀ q, q ∈ e :: d.E → q ≠ 51 ∧ q ≠ 71) → Kd.R d e w b ok v xs → Kd.R d e w' b ok v xs) := by
 refine (laws_markBoardS.calls k _ u l0 a1 r w0 w hB (Kd.S_bound ho) h).mono fun e w' hh => ⟨hh.1, hh.2.1, fun ht hr => ?_⟩
 refine Kd.R_mono (Kd.R_kept (Kd.R_bound hr) hh.2.2 (fun k_ hk hs => ?_)) (fun _ hk => hk.1); obtain ⟨_, _, _, q, hq, cs, hc⟩ := hk; obtain ⟨_, _, _, q', hq', cs', hc'⟩ := hs; rw [hc] at hc'; injection hc' with hc'
 injection hc' with _ hc'
 have h2 := ht q hq; have h3 : q' = 51 ∨ q' = 71 := by simpa [k51, k71, Kd.iso, Kd.pair, Kd.slice, Kd.int, Kd.scalar] using hq'
 rcases h3 with h3 | h3
 (exact h2.1 (hc'.trans h3)); exact h2.2 (hc'.trans h3)

def laws_markIntS.l0 : Nat → List Int → Int → Int → Option (Int × List Int)
 | 0, _, _, _ => none
 | k + 1, x0, x1, x5 => if x5 < (x0.length : Int) then (if 0 ≤ x5 then (laws_markIntS.l0 k (x0.set (x5 : Int).toNat x1) (wrap64 (x1 + 1)) (wrap64 (x5 + 1))) else (none)) else (some (x1, x0))
def laws_markIntS.f (k : Nat) (l0 : List Int) (a1 : Int) : Option (Int × List Int) := laws_markIntS.l0 k l0 a1 0
theorem laws_markIntS.calls (k : Nat) (P0_ : Nat → Prop) (u10_ : Value) (l0 : List Int) (a1 : Int) (r1 : Int) (r2 : List Int) (w0 w : World) (hB : Below w0.heap.size w0 w) (ho0 : Kd.R (Kd.int .i64) 3 w w0.heap.size P0_ u10_ l0) (h : laws_markIntS.f k l0 a1 = some (r1, r2)) :
  Calls Try.prog 14 #[u10_, .int .i64 a1] w fun e w' => e = .returned (.int .i64 r1) ∧ Kd.R (Kd.int .i64) 3 w' w0.heap.size (fun k_ => (P0_ k_ ∨ w.heap.size ≤ k_)) u10_ r2 ∧ Below w0.heap.size w0 w' ∧ Kept w w' (fun k_ => P0_ k_) := by
 have HO0 := am (show Kd.R (Kd.int .i64) 3 w w0.heap.size (fun k_ => (P0_ k_ ∨ w.heap.size ≤ k_)) u10_ l0 from Kd.R_mono ho0 (fun k_ hk => (.inl hk))); have HK := am (Kept.refl w (fun k_ => P0_ k_)); have HW0 := am hB.size; have HB := am hB; clear hB; have H := h; clear h
 unfold laws_markIntS.f at H
 have H' := am H; clear H
 go_enter Try.func14, Try.ntmps14
 go_wp2
 go_loopg [1, 5] k (fun kq v1 v5 w' => ∃ (x0_1 : List Int) (x1_1 : Int) (x5_1 : Int), v1 = .int .i64 x1_1 ∧ v5 = .int .i64 x5_1 ∧ Aside0 (laws_markIntS.l0 kq x0_1 x1_1 x5_1 = some (r1, r2)) ∧ Aside0 (kq ≤ k) ∧ Aside0 (Kd.R (Kd.int .i64) 3 w' w0.heap.size (fun k_ => (P0_ k_ ∨ w.heap.size ≤ k_)) u10_ x0_1) ∧ Aside0 (Kept w w' (fun k_ => P0_ k_)) ∧ Aside0 (Below w0.heap.size w0 w'))
 case atStart => exact ⟨(l0), (a1), (0), sq, sq, H', ⟨Nat.le_refl _⟩, ⟨rq HO0⟩, ⟨hkq⟩, ⟨bq⟩⟩
 case round =>
  clear H'; obtain ⟨x0_1, x1_1, x5_1, rfl, rfl, HA, HK1, HO_0, HK, HB⟩ := hrel
  cases gk with
  | zero => exact absurd HA.out (by simp [laws_markIntS.l0])
  | succ k1 =>
   have H := HA.out; clear HA; simp only [laws_markIntS.l0] at H; by_cases c3 : x5_1 < (x0_1.length : Int)
   ·rw [if_pos c3] at H; have c3b0 : decide (x5_1 < (x0_1.length : Int)) = true := decide_eq_true c3; clear c3; by_cases c4 : 0 ≤ x5_1
    ·rw [if_pos c4] at H; have c4b0 : decide (0 ≤ x5_1) = true := decide_eq_true c4; clear c4; obtain ⟨y232, hy232⟩ : ∃ y_ : List Int, y_ = (x0_1.set (x5_1 : Int).toNat x1_1) := ⟨_, rfl⟩; replace H : (laws_markIntS.l0 k1 y232 (wrap64 (x1_1 + 1)) (wrap64 (x5_1 + 1))) = some (r1, r2) := yq hy232 H; have Ny232 := am hy232; clear hy232; have H' := am H; clear H; obtain ⟨Ao6, co6, eo6⟩ := Kd.R_slice HO_0.out; subst eo6; have p5 : 0 ≤ (x5_1 : Int) := of_decide_eq_true aq; have q5 : (x5_1 : Int) < ((x0_1.length : Int) : Int) := of_decide_eq_true aq; obtain ⟨go5, co5, eo5, gb5, gl5, cl5, HG5⟩ := Kd.R_form HO_0.out (by omega); (first | cases eo5 | (injection eo5 with ea_ en_ ec_; (first | subst ea_ | (injection ea_ with ea_; subst ea_)); subst ec_; clear en_)); have GB5 := am gb5; have GG5 := am HG5; clear gb5 gl5 HG5; have HMgo5 := am (show (P0_ go5 ∨ w.heap.size ≤ go5) from (HO_0.out.1 _ rfl)); obtain ⟨hx5_0, hf5_0⟩ := Kd.R_celln 0 HO_0.out (x5_1 : Int) p5 q5; replace p5 := eq_true p5; replace q5 := eq_true q5; have HP7 := Kd.R_putg HO_0.out (x5_1 : Int) x1_1; go_wp2_with (first | ((with_reducible refine gate_store (t := 3) (p := 15) rfl ?_); refine store_event (t := 3) (p := 15) (v := ?vo_w8) (w1 := (wr.setCell ⟨go5, (x5_1 : Int).toNat, none⟩ (.int .i64 x1_1))) ?hg ?ho ?hn ?hr ?_; (case ho => rfl); (case hg => rfl); (case hn => rfl); (case hr => go_simp; try rfl); intro w8 hw; have hg : wr.grownBy w8 (some go5) := (by rw [hw]; exact HP7.2); have hp_ : Kd.R (Kd.int .i64) 3 w8 w0.heap.size (fun k_ => (P0_ k_ ∨ w.heap.size ≤ k_)) (.slice (some ⟨go5, 0, none⟩) x0_1.length co6) y232 := (by rw [hw, Ny232.out]; exact HP7.1); clear HP7; replace HB := am ((by rw [hw]; exact below_set (HB.out) GB5.out : Below w0.heap.size w0 w8)); replace HK := am (Kept.of_grown (S := (fun k_ => P0_ k_)) hg hkq (fun k_ e_ => (HO_0.out.1 k_ e_))); replace HO_0 := am (hp_); clear hg hw hp_))
     go_roundg k1
     case measure => have := HK1.out; omega
     case rel => exact ⟨(y232), (wrap64 (x1_1 + 1)), (wrap64 (x5_1 + 1)), sq, sq, H', ⟨by have := HK1.out; omega⟩, ⟨rq HO_0⟩, ⟨hkq⟩, ⟨bq⟩⟩
    rw [if_neg c4] at H; exact absurd H (by simp)
   rw [if_neg c3] at H; have c3b0 : decide (x5_1 < (x0_1.length : Int)) = false := decide_eq_false c3; clear c3; simp only [Option.some.injEq, Prod.mk.injEq] at H; obtain ⟨rfl, rfl⟩ := H; obtain ⟨Ao9, co9, eo9⟩ := Kd.R_slice HO_0.out; subst eo9
   go_wp2
   go_ret
   exact ⟨eq_, rq HO_0, bq, hkq⟩


def laws_heldIntS.l0 : Nat → List Int → Int → Int → Option (Int)
 | 0, _, _, _ => none
 | k + 1, x0, x1, x5 => if x5 < (x0.length : Int) then (if 0 ≤ x5 then (if (rd x0 x5) = x1 then (laws_heldIntS.l0 k x0 (wrap64 (x1 + 1)) (wrap64 (x5 + 1))) else (some (-1))) else (none)) else (some x1)
def laws_heldIntS.f (k : Nat) (l0 : List Int) (a1 : Int) : Option (Int) := laws_heldIntS.l0 k l0 a1 0
theorem laws_heldIntS.calls (k : Nat) (A0 : Option Addr) (c0 : Nat) (l0 : List Int) (a1 : Int) (r : Int) (w : World) (hr0 : Kd.C (Kd.int .i64) w A0 l0.length l0) (hc0 : l0.length ≤ c0) (h : laws_heldIntS.f k l0 a1 = some r) :
  Calls Try.prog 15 #[.slice A0 l0.length c0, .int .i64 a1] w fun e w' => e = .returned (.int .i64 r) ∧ Drawn0 w w' := by
 have HR0 := am hr0; have HC0 := am hc0; clear hr0 hc0; have H := h; clear h
 unfold laws_heldIntS.f at H
 have H' := am H; clear H
 go_enter Try.func15, Try.ntmps15
 go_wp2
 go_loopg [1, 5] k (fun kq v1 v5 w' => ∃ (x1_1 : Int) (x5_1 : Int), v1 = .int .i64 x1_1 ∧ v5 = .int .i64 x5_1 ∧ Aside0 (laws_heldIntS.l0 kq l0 x1_1 x5_1 = some r) ∧ Aside0 (kq ≤ k) ∧ Drawn0 w w')
 case atStart => exact ⟨(a1), (0), sq, sq, H', ⟨Nat.le_refl _⟩, by repeat (first | exact Drawn0.refl _ | apply Drawn0.step)⟩
 case round =>
  clear H'; obtain ⟨x1_1, x5_1, rfl, rfl, HA, HK1, ⟨m1, rfl⟩⟩ := hrel
  cases gk with
  | zero => exact absurd HA.out (by simp [laws_heldIntS.l0])
  | succ k1 =>
   have H := HA.out; clear HA; simp only [laws_heldIntS.l0] at H; by_cases c3 : x5_1 < (l0.length : Int)
   ·rw [if_pos c3] at H; have c3b0 : decide (x5_1 < (l0.length : Int)) = true := decide_eq_true c3; clear c3; by_cases c4 : 0 ≤ x5_1
    ·rw [if_pos c4] at H; have c4b0 : decide (0 ≤ x5_1) = true := decide_eq_true c4; clear c4; by_cases c5 : (rd l0 x5_1) = x1_1
     ·rw [if_pos c5] at H; have c5b0 : ((rd l0 x5_1) == x1_1) = true := beq_iff_eq.mpr c5; have c5b1 : ((rd l0 x5_1) != x1_1) = false := bne_eq_false_iff_eq.mpr c5; clear c5; have H' := am H; clear H; have p233 : 0 ≤ (x5_1 : Int) := of_decide_eq_true aq; have q233 : x5_1 < (l0.length : Int) := of_decide_eq_true aq; obtain ⟨ad233, e233, hx233_0⟩ := Kd.at_int HR0.out x5_1 p233 q233
      cases e233
      replace p233 := eq_true p233; replace q233 := eq_true q233
      go_wp2
      go_roundg k1
      case measure => have := HK1.out; omega
      case rel => exact ⟨(wrap64 (x1_1 + 1)), (wrap64 (x5_1 + 1)), sq, sq, H', ⟨by have := HK1.out; omega⟩, by repeat (first | exact Drawn0.refl _ | apply Drawn0.step)⟩
     rw [if_neg c5] at H; have c5b0 : ((rd l0 x5_1) == x1_1) = false := beq_eq_false_iff_ne.mpr c5; have c5b1 : ((rd l0 x5_1) != x1_1) = true := bne_iff_ne.mpr c5; obtain rfl := Option.some.inj H; have p233 : 0 ≤ (x5_1 : Int) := of_decide_eq_true aq; have q233 : x5_1 < (l0.length : Int) := of_decide_eq_true aq; obtain ⟨ad233, e233, hx233_0⟩ := Kd.at_int HR0.out x5_1 p233 q233
     cases e233
     replace p233 := eq_true p233; replace q233 := eq_true q233
     go_wp2
     go_ret
     exact ⟨sq, by repeat (first | exact Drawn0.refl _ | apply Drawn0.step)⟩
    rw [if_neg c4] at H; exact absurd H (by simp)
   rw [if_neg c3] at H; have c3b0 : decide (x5_1 < (l0.length : Int)) = false := decide_eq_false c3; clear c3; obtain rfl := Option.some.inj H
   go_wp2
   go_ret
   exact ⟨sq, by repeat (first | exact Drawn0.refl _ | apply Drawn0.step)⟩



mutual
def laws_FnExactSumKit.j0 : Nat → List (S47) → List Int → Bool → List (S51) → List Int → Bool → Bool → Option (Bool)
 | 0, _, _, _, _, _, _, _ => none
 | k + 1, x0, x4, x5, x6, x7, x8, x40 => if x40 = true then (some false) else ((laws_toBoardS.f k x0).bind fun t250 => ((laws_eqBoardS.f k x6 t250).bind fun t253 => (if t253 = true then ((laws_markBoardS.f k x6 1).bind fun t254 => (if t254 < 0 then (laws_FnExactSumKit.j1 k x0 x4 x5 x7 true) else ((laws_eqIntS.f k x7 x4).bind fun t255 => (if t255 = true then (laws_FnExactSumKit.j1 k x0 x4 x5 x7 (x8 != x5)) else (laws_FnExactSumKit.j1 k x0 x4 x5 x7 true))))) else (some false))))
def laws_FnExactSumKit.j1 : Nat → List (S47) → List Int → Bool → List Int → Bool → Option (Bool)
 | 0, _, _, _, _, _ => none
 | k + 1, x0, x4, x5, x7, x61 => if x61 = true then (some false) else ((laws_markIntS.f k x7 1).bind fun bt256 => ((laws_heldIntS.f k bt256.2 1).bind fun t258 => (if t258 < 0 then (some false) else (if t258 = bt256.1 then ((laws_toBoardS.f k x0).bind fun t259 => ((impl_SumKit.f k t259).bind fun bt262 => ((laws_eqIntS.f k bt262.1 x4).bind fun t266 => (if t266 = true then (laws_FnExactSumKit.j2 k bt256.2 bt256.1 (bt262.2 != x5)) else (laws_FnExactSumKit.j2 k bt256.2 bt256.1 true))))) else (some false)))))
def laws_FnExactSumKit.j2 : Nat → List Int → Int → Bool → Option (Bool)
 | 0, _, _, _ => none
 | k + 1, x7, x10, x87 => if x87 = true then (some false) else ((laws_heldIntS.f k x7 1).bind fun t267 => (if t267 < 0 then (some false) else (if t267 = x10 then (some true) else (some false))))
end
def laws_FnExactSumKit.f (k : Nat) (l0 : List (S47)) : Option (Bool) := (laws_szBoardS.f k l0 1048576).bind fun t234 => (if t234 < 0 then (some true) else ((laws_toBoardS.f k l0).bind fun t235 => ((spec_SumKit.f k t235).bind fun bt238 => ((laws_toBoardS.f k l0).bind fun t242 => ((impl_SumKit.f k t242).bind fun bt245 => ((laws_eqIntS.f k bt245.1 bt238.1).bind fun t249 => (if t249 = true then (laws_FnExactSumKit.j0 k l0 bt238.1 bt238.2 t242 bt245.1 bt245.2 (bt245.2 != bt238.2)) else (laws_FnExactSumKit.j0 k l0 bt238.1 bt238.2 t242 bt245.1 bt245.2 true))))))))
theorem laws_FnExactSumKit.calls (k : Nat) (A0 : Option Addr) (c0 : Nat) (l0 : List (S47)) (r : Bool) (w : World) (hr0 : Kd.C k47 w A0 l0.length l0) (hc0 : l0.length ≤ c0) (h : laws_FnExactSumKit.f k l0 = some r) :
  Calls Try.prog 3 #[.slice A0 l0.length c0] w fun e w' => e = .returned (.bool r) ∧ Below w.heap.size w w' := by
 have HR0 := am hr0; have HC0 := am hc0; clear hr0 hc0; have HB := am (Below.refl w.heap.size w); have H := h; clear h
 unfold laws_FnExactSumKit.f at H
 obtain ⟨t234, A2, H⟩ := bindq H; try dsimp only at H
 by_cases c3 : t234 < 0
 ·rw [if_pos c3] at H; have c3b0 : decide (t234 < 0) = true := decide_eq_true c3; clear c3; obtain rfl := Option.some.inj H
  go_enter Try.func3, Try.ntmps3
  go_wp2_with (first | ((with_reducible refine gate_callee (f := 7) rfl ?_); refine goesQ (some 16) Try.func7 #[.slice A0 l0.length c0, .int .i64 1048576] ?_; (with_reducible refine (laws_szBoardS.calls k _ _ l0 1048576 t234 _ ?s1 ?s2 A2.out).mono ?_); (case s1 => exact cq HR0.out); (case s2 => exact HC0.out); rintro e w4 ⟨rfl, hb⟩; refine ⟨_, rfl, ?_⟩; have n0_ := sb hb; clear HB; have HB := n0_; clear n0_; (try clear hb)))
  go_ret
  exact ⟨eq_, bq⟩
 rw [if_neg c3] at H; have c3b0 : decide (t234 < 0) = false := decide_eq_false c3; clear c3; obtain ⟨t235, A5, H⟩ := bindq H; try dsimp only at H
 obtain ⟨⟨t238, t239⟩, A6, H⟩ := bindq H; try dsimp only at H
 obtain ⟨t242, A7, H⟩ := bindq H; try dsimp only at H
 obtain ⟨⟨t245, t246⟩, A8, H⟩ := bindq H; try dsimp only at H
 have HC9 := am H; clear H
 go_enter Try.func3, Try.ntmps3
 go_upto_region 8 with (first | ((with_reducible refine gate_callee (f := 7) rfl ?_); refine goesQ (some 16) Try.func7 #[.slice A0 l0.length c0, .int .i64 1048576] ?_; (with_reducible refine (laws_szBoardS.calls k _ _ l0 1048576 t234 _ ?s1 ?s2 A2.out).mono ?_); (case s1 => exact cq HR0.out); (case s2 => exact HC0.out); rintro e w10 ⟨rfl, hb⟩; refine ⟨_, rfl, ?_⟩; have n0_ := sb hb; clear HB; have HB := n0_; clear n0_; (try clear hb)) | ((with_reducible refine gate_callee (f := 9) rfl ?_); refine goesQ (some 21) Try.func9 #[.slice A0 l0.length c0] ?_; (with_reducible refine (laws_toBoardS.calls k _ _ l0 t235 _ ?s1 ?s2 A5.out).mono ?_); (case s1 => exact cq (Kd.C_below HR0.out HB.out)); (case s2 => exact HC0.out); rintro e w11 ⟨v236, rfl, ho0, hb⟩; refine ⟨_, rfl, ?_⟩; have HO237 := am (Kd.S_lower ho0 (below_size bq)); replace HB := sb hb; (try clear hb ho0); obtain ⟨Ao12, co12, eo12⟩ := Kd.S_slice HO237.out; subst eo12) | ((with_reducible refine gate_callee (f := 8) rfl ?_); refine goesQ (some 22) Try.func8 #[.slice Ao12 t235.length co12] ?_; (with_reducible refine (spec_SumKit.calls k _ _ t235 t238 t239 _ ?s1 ?s2 A6.out).mono ?_); (case s1 => exact cq (Kd.S_reads' HO237.out).2.2); (case s2 => exact (Kd.S_reads' HO237.out).2.1); rintro e w13 ⟨v240, rfl, ho0, hb⟩; refine ⟨_, rfl, ?_⟩; replace HO237 := am (Kd.S_below (by (with_reducible repeat (first | apply Kd.S_alloc | apply Kd.S_drewN | apply Kd.S_drew)); exact HO237.out) hb); have HO241 := rl ho0; replace HB := sb hb; (try clear hb ho0)) | ((with_reducible refine gate_callee (f := 9) rfl ?_); refine goesQ (some 26) Try.func9 #[.slice A0 l0.length c0] ?_; (with_reducible refine (laws_toBoardS.calls k _ _ l0 t242 _ ?s1 ?s2 A7.out).mono ?_); (case s1 => exact cq (Kd.C_below HR0.out HB.out)); (case s2 => exact HC0.out); rintro e w14 ⟨v243, rfl, ho0, hb⟩; refine ⟨_, rfl, ?_⟩; replace HO241 := rb HO241 hb; have HO244 := am (Kd.S_lower (Kd.S_new' ho0 (Kd.S_lt (by (with_reducible repeat (first | apply Kd.S_alloc | apply Kd.S_drewN | apply Kd.S_drew)); exact HO237.out))) (below_size bq)); replace HB := sb hb; (try clear hb ho0); obtain ⟨Ao15, co15, eo15⟩ := Kd.S_slice HO244.out; subst eo15) | ((with_reducible refine gate_callee (f := 10) rfl ?_); refine goesQ (some 29) Try.func10 #[.slice Ao15 t242.length co15] ?_; (with_reducible refine (impl_SumKit.calls k _ _ t242 t245 t246 _ ?s1 ?s2 A8.out).mono ?_); (case s1 => exact cq (Kd.S_reads' HO244.out).2.2); (case s2 => exact (Kd.S_reads' HO244.out).2.1); rintro e w16 ⟨v247, rfl, ho0, hb⟩; refine ⟨_, rfl, ?_⟩; replace HO244 := am (Kd.S_below (by (with_reducible repeat (first | apply Kd.S_alloc | apply Kd.S_drewN | apply Kd.S_drew)); exact HO244.out) hb); have HO248 := rl (Kd.R_new' ho0 (lw HO241)); replace HO241 := am (Kd.R_elder' (rq HO241) (Kd.R_base ho0) hb); replace HB := sb hb; (try clear hb ho0)))
 (try simp only [Act.put, List.setIfInBounds_toArray, List.set_cons_zero, List.set_cons_succ])
 go_cut [40] (fun v40 wc => ∃ (kq : Nat) (x40_8 : Bool), v40 = .bool x40_8 ∧ Aside0 (laws_FnExactSumKit.j0 kq l0 t238 t239 t242 t245 t246 x40_8 = some r) ∧ Aside0 (kq ≤ k) ∧ Aside0 (Kd.R (Kd.int .i64) 3 wc w.heap.size (fun k_ => some k_ ≠ (v247 : Value).ownBlock) v240 t238) ∧ Aside0 (Kd.S k51 51 wc w.heap.size (fun _ => True) (.slice Ao15 t242.length co15) t242) ∧ Aside0 (Kd.R (Kd.int .i64) 3 wc w.heap.size (fun k_ => some k_ ≠ (v240 : Value).ownBlock) v247 t245) ∧ Aside0 (Below w.heap.size w wc))
 case first =>
  have H := HC9.out; clear HC9; obtain ⟨t249, A17, H⟩ := bindq H; try dsimp only at H
  by_cases c18 : t249 = true
  ·subst c18; rw [if_pos rfl] at H; try dsimp only at H
   have H' := am H; clear H; obtain ⟨Ao19, co19, eo19⟩ := Kd.R_slice HO248.out; subst eo19; obtain ⟨Ao20, co20, eo20⟩ := Kd.R_slice HO241.out; subst eo20; go_wp2_with (first | ((with_reducible refine gate_callee (f := 11) rfl ?_); refine goesQ (some 34) Try.func11 #[.slice Ao19 t245.length co19, .slice Ao20 t238.length co20] ?_; (with_reducible refine (laws_eqIntS.calls k _ _ t245 _ _ t238 true _ ?s1 ?s2 ?s3 ?s4 A17.out).mono ?_); (case s1 => exact cr HO248); (case s2 => exact rq1 HO248); (case s3 => exact cr HO241); (case s4 => exact rq1 HO241); rintro e w' ⟨rfl, ⟨nd, rfl⟩⟩; refine ⟨_, rfl, ?_⟩))
   go_meet
   case rel => exact ⟨_, ((t246 != t239)), sq, H', ⟨by first | omega | exact Nat.le_refl _⟩, ⟨rm HO241⟩, ⟨by (with_reducible repeat (first | apply Kd.S_alloc | apply Kd.S_drewN | apply Kd.S_drew)); exact Kd.S_mono HO244.out (fun _ hk => trivial)⟩, ⟨rm HO248⟩, ⟨bq⟩⟩
  replace c18 := Bool.eq_false_iff.mpr c18; subst c18; rw [if_neg (show ¬ (false = true) by decide)] at H; try dsimp only at H
  have H' := am H; clear H; obtain ⟨Ao21, co21, eo21⟩ := Kd.R_slice HO248.out; subst eo21; obtain ⟨Ao22, co22, eo22⟩ := Kd.R_slice HO241.out; subst eo22; go_wp2_with (first | ((with_reducible refine gate_callee (f := 11) rfl ?_); refine goesQ (some 34) Try.func11 #[.slice Ao21 t245.length co21, .slice Ao22 t238.length co22] ?_; (with_reducible refine (laws_eqIntS.calls k _ _ t245 _ _ t238 false _ ?s1 ?s2 ?s3 ?s4 A17.out).mono ?_); (case s1 => exact cr HO248); (case s2 => exact rq1 HO248); (case s3 => exact cr HO241); (case s4 => exact rq1 HO241); rintro e w' ⟨rfl, ⟨nd, rfl⟩⟩; refine ⟨_, rfl, ?_⟩))
  go_meet
  case rel => exact ⟨_, (true), sq, H', ⟨by first | omega | exact Nat.le_refl _⟩, ⟨rm HO241⟩, ⟨by (with_reducible repeat (first | apply Kd.S_alloc | apply Kd.S_drewN | apply Kd.S_drew)); exact Kd.S_mono HO244.out (fun _ hk => trivial)⟩, ⟨rm HO248⟩, ⟨bq⟩⟩
 case rest =>
  clear HC9; try clear c3b0
  try clear c18
  obtain ⟨kq, x40_8, rfl, HA, HJ8, HO_4, HO_6, HO_7, HB⟩ := hcut
  cases kq with
  | zero => exact absurd HA.out (by simp [laws_FnExactSumKit.j0])
  | succ kj8 =>
   have H := HA.out; clear HA; simp only [laws_FnExactSumKit.j0] at H; by_cases c23 : x40_8 = true
   ·subst c23; rw [if_pos rfl] at H; try dsimp only at H
    obtain rfl := Option.some.inj H
    go_wp2
    go_ret
    exact ⟨eq_, bq⟩
   replace c23 := Bool.eq_false_iff.mpr c23; subst c23; rw [if_neg (show ¬ (false = true) by decide)] at H; try dsimp only at H
   obtain ⟨t250, A24, H⟩ := bindq H; try dsimp only at H
   obtain ⟨t253, A25, H⟩ := bindq H; try dsimp only at H
   by_cases c26 : t253 = true
   ·subst c26; rw [if_pos rfl] at H; try dsimp only at H
    obtain ⟨t254, A27, H⟩ := bindq H; try dsimp only at H
    have HC28 := am H; clear H
    go_upto_region 14 with (first | ((with_reducible refine gate_callee (f := 9) rfl ?_); refine goesQ (some 43) Try.func9 #[.slice A0 l0.length c0] ?_; (with_reducible refine (laws_toBoardS.calls kj8 _ _ l0 t250 _ ?s1 ?s2 A24.out).mono ?_); (case s1 => exact cq (Kd.C_below HR0.out HB.out)); (case s2 => exact HC0.out); rintro e w29 ⟨v251, rfl, ho0, hb⟩; refine ⟨_, rfl, ?_⟩; replace HO_4 := rb HO_4 hb; replace HO_7 := rb HO_7 hb; have HO252 := am (Kd.S_lower (Kd.S_new' ho0 (Kd.S_lt (by (with_reducible repeat (first | apply Kd.S_alloc | apply Kd.S_drewN | apply Kd.S_drew)); exact HO_6.out))) (below_size bq)); replace HO_6 := am (Kd.S_elder' (by (with_reducible repeat (first | apply Kd.S_alloc | apply Kd.S_drewN | apply Kd.S_drew)); exact HO_6.out) (Kd.S_base ho0) hb); replace HB := sb hb; (try clear hb ho0); obtain ⟨Ao30, co30, eo30⟩ := Kd.S_slice HO252.out; subst eo30) | ((with_reducible refine gate_callee (f := 12) rfl ?_); refine goesQ (some 44) Try.func12 #[.slice Ao15 t242.length co15, .slice Ao30 t250.length co30] ?_; (with_reducible refine (laws_eqBoardS.calls kj8 _ _ t242 _ _ t250 true _ ?s1 ?s2 ?s3 ?s4 A25.out).mono ?_); (case s1 => exact cq (Kd.S_reads' HO_6.out).2.2); (case s2 => exact (Kd.S_reads' HO_6.out).2.1); (case s3 => exact cq (Kd.S_reads' HO252.out).2.2); (case s4 => exact (Kd.S_reads' HO252.out).2.1); rintro e w31 ⟨rfl, hb⟩; refine ⟨_, rfl, ?_⟩; replace HO_4 := rb HO_4 hb; replace HO_6 := am (Kd.S_below (by (with_reducible repeat (first | apply Kd.S_alloc | apply Kd.S_drewN | apply Kd.S_drew)); exact HO_6.out) hb); replace HO_7 := rb HO_7 hb; replace HO252 := am (Kd.S_below (by (with_reducible repeat (first | apply Kd.S_alloc | apply Kd.S_drewN | apply Kd.S_drew)); exact HO252.out) hb); replace HB := sb hb; (try clear hb)) | ((with_reducible refine gate_callee (f := 13) rfl ?_); refine goesQ (some 48) Try.func13 #[.slice Ao15 t242.length co15, .int .i64 1] ?_; (with_reducible refine (laws_markBoardS.callsT (ok := ?okm) kj8 _ t242 1 t254 w _ ?s1 ?s2 A27.out).mono ?_); (case s1 => exact bq); (case s2 => (with_reducible repeat (first | apply Kd.S_alloc | apply Kd.S_drewN | apply Kd.S_drew)); exact HO_6.out); rintro e w99 ⟨rfl, hb, hR⟩; refine ⟨_, rfl, ?_⟩; replace HO_4 := am (hR (d := Kd.int .i64) (e := 3) (by decide) (rq HO_4)); replace HO_7 := am (hR (d := Kd.int .i64) (e := 3) (by decide) (rq HO_7)); replace HB := am hb; clear HO_6 hb hR))
    (try simp only [Act.put, List.setIfInBounds_toArray, List.set_cons_zero, List.set_cons_succ])
    go_cut [61] (fun v61 wc => ∃ (kq : Nat) (x61_27 : Bool), v61 = .bool x61_27 ∧ Aside0 (laws_FnExactSumKit.j1 kq l0 t238 t239 t245 x61_27 = some r) ∧ Aside0 (kq ≤ kj8) ∧ Aside0 (Kd.R (Kd.int .i64) 3 wc w.heap.size (fun k_ => some k_ ≠ (v247 : Value).ownBlock) v240 t238) ∧ Aside0 (Kd.R (Kd.int .i64) 3 wc w.heap.size (fun k_ => some k_ ≠ (v240 : Value).ownBlock) v247 t245) ∧ Aside0 (Below w.heap.size w wc))
    case first =>
     have H := HC28.out; clear HC28; by_cases c32 : t254 < 0
     ·rw [if_pos c32] at H; have c32b0 : decide (t254 < 0) = true := decide_eq_true c32; clear c32; (first | rw [c32b0] | (simp only [i64_w, i32_w]; rw [c32b0]) | skip); have H' := am H; clear H
      go_wp2
      go_meet
      case rel => exact ⟨_, (true), sq, H', ⟨by have := HJ8.out; first | omega | exact Nat.le_refl _⟩, ⟨rq HO_4⟩, ⟨rq HO_7⟩, ⟨bq⟩⟩
     rw [if_neg c32] at H; have c32b0 : decide (t254 < 0) = false := decide_eq_false c32; clear c32; (first | rw [c32b0] | (simp only [i64_w, i32_w]; rw [c32b0]) | skip); obtain ⟨t255, A33, H⟩ := bindq H; try dsimp only at H
     by_cases c34 : t255 = true
     ·subst c34; rw [if_pos rfl] at H; try dsimp only at H
      have H' := am H; clear H; obtain ⟨Ao35, co35, eo35⟩ := Kd.R_slice HO_7.out; subst eo35; obtain ⟨Ao36, co36, eo36⟩ := Kd.R_slice HO_4.out; subst eo36; go_wp2_with (first | (go_at_call 11; (with_reducible refine (laws_eqIntS.calls kj8 _ _ t245 _ _ t238 true _ ?s1 ?s2 ?s3 ?s4 A33.out).mono ?_); (case s1 => exact cr HO_7); (case s2 => exact rq1 HO_7); (case s3 => exact cr HO_4); (case s4 => exact rq1 HO_4); rintro e w' ⟨rfl, ⟨nd, rfl⟩⟩))
      go_meet
      case rel => exact ⟨_, ((t246 != t239)), sq, H', ⟨by have := HJ8.out; first | omega | exact Nat.le_refl _⟩, ⟨rq HO_4⟩, ⟨rq HO_7⟩, ⟨bq⟩⟩
     replace c34 := Bool.eq_false_iff.mpr c34; subst c34; rw [if_neg (show ¬ (false = true) by decide)] at H; try dsimp only at H
     have H' := am H; clear H; obtain ⟨Ao37, co37, eo37⟩ := Kd.R_slice HO_7.out; subst eo37; obtain ⟨Ao38, co38, eo38⟩ := Kd.R_slice HO_4.out; subst eo38; go_wp2_with (first | (go_at_call 11; (with_reducible refine (laws_eqIntS.calls kj8 _ _ t245 _ _ t238 false _ ?s1 ?s2 ?s3 ?s4 A33.out).mono ?_); (case s1 => exact cr HO_7); (case s2 => exact rq1 HO_7); (case s3 => exact cr HO_4); (case s4 => exact rq1 HO_4); rintro e w' ⟨rfl, ⟨nd, rfl⟩⟩))
     go_meet
     case rel => exact ⟨_, (true), sq, H', ⟨by have := HJ8.out; first | omega | exact Nat.le_refl _⟩, ⟨rq HO_4⟩, ⟨rq HO_7⟩, ⟨bq⟩⟩
    case rest =>
     clear HC28; try clear c3b0
     try clear c18
     try clear c23
     try clear c26
     try clear c32b0
     try clear c34
     obtain ⟨kq, x61_27, rfl, HA, HJ27, HO_4, HO_7, HB⟩ := hcut
     cases kq with
     | zero => exact absurd HA.out (by simp [laws_FnExactSumKit.j1])
     | succ kj27 =>
      have H := HA.out; clear HA; simp only [laws_FnExactSumKit.j1] at H; by_cases c39 : x61_27 = true
      ·subst c39; rw [if_pos rfl] at H; try dsimp only at H
       obtain rfl := Option.some.inj H
       go_wp2
       go_ret
       exact ⟨eq_, bq⟩
      replace c39 := Bool.eq_false_iff.mpr c39; subst c39; rw [if_neg (show ¬ (false = true) by decide)] at H; try dsimp only at H
      obtain ⟨⟨t256, t257⟩, A40, H⟩ := bindq H; try dsimp only at H
      obtain ⟨t258, A41, H⟩ := bindq H; try dsimp only at H
      by_cases c42 : t258 < 0
      ·rw [if_pos c42] at H; have c42b0 : decide (t258 < 0) = true := decide_eq_true c42; clear c42; obtain rfl := Option.some.inj H; obtain ⟨Ao43, co43, eo43⟩ := Kd.R_slice HO_7.out; subst eo43; go_wp2_with (first | ((with_reducible refine gate_callee (f := 14) rfl ?_); refine goesQ (some 64) Try.func14 #[.slice Ao43 t245.length co43, .int .i64 1] ?_; (with_reducible refine (laws_markIntS.calls kj27 (fun k_ => some k_ = (.slice Ao43 t245.length co43 : Value).ownBlock) (.slice Ao43 t245.length co43) t245 1 t256 t257 w _ ?s1 ?s2 A40.out).mono ?_); (case s1 => repeat (first | (with_reducible first | exact HB.out | apply below_alloc | apply pw_below_drewN | apply below_drew1) | exact HB.out)); (case s2 => exact Kd.R_tight rfl HO_7.out); rintro e w44 ⟨rfl, hy0, hb, hkp⟩; refine ⟨_, rfl, ?_⟩; replace HO_4 := am (Kd.R_mono (ok' := fun k_ => some k_ ≠ (.slice Ao43 t245.length co43 : Value).ownBlock) (Kd.R_keptB (HO_4.out) hkp (fun k_ hk_ hs_ => (hk_) hs_)) (fun k_ hk_ => hk_.1)); replace HO_7 := am (Kd.R_reok rfl hy0 (fun k_ e_ => HO_7.out.1 k_ e_)); replace HB := am (hb); (try clear hb hkp hy0)) | ((with_reducible refine gate_callee (f := 15) rfl ?_); refine goesL_ (some 67) rfl rfl Try.func15 (by kernel_rfl) rfl #[.slice Ao43 t257.length co43, .int .i64 1] rfl (by (try simp only [List.map_toArray, List.map_cons, List.map_nil]); first | done | (rw [show t257.length = t245.length from (Kd.R_reads' HO_7.out).1.symm] <;> rfl) | rfl | (simp only [List.length_drop, List.length_take]; rfl)) ?_; (with_reducible refine (laws_heldIntS.calls kj27 _ _ t257 1 t258 _ ?s1 ?s2 A41.out).mono ?_); (case s1 => exact cr HO_7); (case s2 => rw [show t257.length = t245.length from (Kd.R_reads' HO_7.out).1.symm]; exact rq1 HO_7); rintro e w' ⟨rfl, ⟨nd, rfl⟩⟩; refine ⟨_, rfl, ?_⟩))
       go_ret
       exact ⟨eq_, bq⟩
      rw [if_neg c42] at H; have c42b0 : decide (t258 < 0) = false := decide_eq_false c42; clear c42; by_cases c45 : t258 = t256
      ·rw [if_pos c45] at H; have c45b0 : (t258 == t256) = true := beq_iff_eq.mpr c45; have c45b1 : (t258 != t256) = false := bne_eq_false_iff_eq.mpr c45; clear c45; obtain ⟨t259, A46, H⟩ := bindq H; try dsimp only at H
       obtain ⟨⟨t262, t263⟩, A47, H⟩ := bindq H; try dsimp only at H
       have HC48 := am H; clear H; obtain ⟨Ao49, co49, eo49⟩ := Kd.R_slice HO_7.out; subst eo49
       go_upto_region 25 with (first | ((with_reducible refine gate_callee (f := 14) rfl ?_); refine goesQ (some 64) Try.func14 #[.slice Ao49 t245.length co49, .int .i64 1] ?_; (with_reducible refine (laws_markIntS.calls kj27 (fun k_ => some k_ = (.slice Ao49 t245.length co49 : Value).ownBlock) (.slice Ao49 t245.length co49) t245 1 t256 t257 w _ ?s1 ?s2 A40.out).mono ?_); (case s1 => repeat (first | (with_reducible first | exact HB.out | apply below_alloc | apply pw_below_drewN | apply below_drew1) | exact HB.out)); (case s2 => exact Kd.R_tight rfl HO_7.out); rintro e w50 ⟨rfl, hy0, hb, hkp⟩; refine ⟨_, rfl, ?_⟩; replace HO_4 := am (Kd.R_mono (ok' := fun k_ => some k_ ≠ (.slice Ao49 t245.length co49 : Value).ownBlock) (Kd.R_keptB (HO_4.out) hkp (fun k_ hk_ hs_ => (hk_) hs_)) (fun k_ hk_ => hk_.1)); replace HO_7 := am (Kd.R_reok rfl hy0 (fun k_ e_ => HO_7.out.1 k_ e_)); replace HB := am (hb); (try clear hb hkp hy0)) | ((with_reducible refine gate_callee (f := 15) rfl ?_); refine goesL_ (some 67) rfl rfl Try.func15 (by kernel_rfl) rfl #[.slice Ao49 t257.length co49, .int .i64 1] rfl (by (try simp only [List.map_toArray, List.map_cons, List.map_nil]); first | done | (rw [show t257.length = t245.length from (Kd.R_reads' HO_7.out).1.symm] <;> rfl) | rfl | (simp only [List.length_drop, List.length_take]; rfl)) ?_; (with_reducible refine (laws_heldIntS.calls kj27 _ _ t257 1 t258 _ ?s1 ?s2 A41.out).mono ?_); (case s1 => exact cr HO_7); (case s2 => rw [show t257.length = t245.length from (Kd.R_reads' HO_7.out).1.symm]; exact rq1 HO_7); rintro e w' ⟨rfl, ⟨nd, rfl⟩⟩; refine ⟨_, rfl, ?_⟩) | ((with_reducible refine gate_callee (f := 9) rfl ?_); refine goesQ (some 75) Try.func9 #[.slice A0 l0.length c0] ?_; (with_reducible refine (laws_toBoardS.calls kj27 _ _ l0 t259 _ ?s1 ?s2 A46.out).mono ?_); (case s1 => exact cq (Kd.C_below HR0.out bq)); (case s2 => exact HC0.out); rintro e w51 ⟨v260, rfl, ho0, hb⟩; refine ⟨_, rfl, ?_⟩; replace HO_4 := rb HO_4 hb; replace HO_7 := rb HO_7 hb; have HO261 := am (Kd.S_lower ho0 (below_size bq)); replace HB := sb hb; (try clear hb ho0); obtain ⟨Ao52, co52, eo52⟩ := Kd.S_slice HO261.out; subst eo52) | ((with_reducible refine gate_callee (f := 10) rfl ?_); refine goesQ (some 76) Try.func10 #[.slice Ao52 t259.length co52] ?_; (with_reducible refine (impl_SumKit.calls kj27 _ _ t259 t262 t263 _ ?s1 ?s2 A47.out).mono ?_); (case s1 => exact cq (Kd.S_reads' HO261.out).2.2); (case s2 => exact (Kd.S_reads' HO261.out).2.1); rintro e w53 ⟨v264, rfl, ho0, hb⟩; refine ⟨_, rfl, ?_⟩; have HO265 := rl (Kd.R_new' (Kd.R_new' ho0 (lw HO_4)) (lw HO_7)); replace HO_4 := am (Kd.R_elder' (rq HO_4) (Kd.R_base ho0) hb); replace HO_7 := am (Kd.R_elder' (rq HO_7) (Kd.R_base ho0) hb); replace HB := sb hb; (try clear hb ho0)))
       (try simp only [Act.put, List.setIfInBounds_toArray, List.set_cons_zero, List.set_cons_succ])
       go_cut [87] (fun v87 wc => ∃ (kq : Nat) (x87_47 : Bool), v87 = .bool x87_47 ∧ Aside0 (laws_FnExactSumKit.j2 kq t257 t256 x87_47 = some r) ∧ Aside0 (kq ≤ kj27) ∧ Aside0 (Kd.R (Kd.int .i64) 3 wc w.heap.size (fun _ => True) (.slice Ao49 t245.length co49) t257) ∧ Aside0 (Below w.heap.size w wc))
       case first =>
        have H := HC48.out; clear HC48; obtain ⟨t266, A54, H⟩ := bindq H; try dsimp only at H
        by_cases c55 : t266 = true
        ·subst c55; rw [if_pos rfl] at H; try dsimp only at H
         have H' := am H; clear H; obtain ⟨Ao56, co56, eo56⟩ := Kd.R_slice HO265.out; subst eo56; obtain ⟨Ao57, co57, eo57⟩ := Kd.R_slice HO_4.out; subst eo57; go_wp2_with (first | ((with_reducible refine gate_callee (f := 11) rfl ?_); refine goesQ (some 81) Try.func11 #[.slice Ao56 t262.length co56, .slice Ao57 t238.length co57] ?_; (with_reducible refine (laws_eqIntS.calls kj27 _ _ t262 _ _ t238 true _ ?s1 ?s2 ?s3 ?s4 A54.out).mono ?_); (case s1 => exact cr HO265); (case s2 => exact rq1 HO265); (case s3 => exact cr HO_4); (case s4 => exact rq1 HO_4); rintro e w' ⟨rfl, ⟨nd, rfl⟩⟩; refine ⟨_, rfl, ?_⟩))
         go_meet
         case rel => exact ⟨_, ((t263 != t239)), sq, H', ⟨by have := HJ8.out; have := HJ27.out; first | omega | exact Nat.le_refl _⟩, ⟨rm HO_7⟩, ⟨bq⟩⟩
        replace c55 := Bool.eq_false_iff.mpr c55; subst c55; rw [if_neg (show ¬ (false = true) by decide)] at H; try dsimp only at H
        have H' := am H; clear H; obtain ⟨Ao58, co58, eo58⟩ := Kd.R_slice HO265.out; subst eo58; obtain ⟨Ao59, co59, eo59⟩ := Kd.R_slice HO_4.out; subst eo59; go_wp2_with (first | ((with_reducible refine gate_callee (f := 11) rfl ?_); refine goesQ (some 81) Try.func11 #[.slice Ao58 t262.length co58, .slice Ao59 t238.length co59] ?_; (with_reducible refine (laws_eqIntS.calls kj27 _ _ t262 _ _ t238 false _ ?s1 ?s2 ?s3 ?s4 A54.out).mono ?_); (case s1 => exact cr HO265); (case s2 => exact rq1 HO265); (case s3 => exact cr HO_4); (case s4 => exact rq1 HO_4); rintro e w' ⟨rfl, ⟨nd, rfl⟩⟩; refine ⟨_, rfl, ?_⟩))
        go_meet
        case rel => exact ⟨_, (true), sq, H', ⟨by have := HJ8.out; have := HJ27.out; first | omega | exact Nat.le_refl _⟩, ⟨rm HO_7⟩, ⟨bq⟩⟩
       case rest =>
        clear HC48; try clear c3b0
        try clear c18
        try clear c23
        try clear c26
        try clear c32b0
        try clear c34
        try clear c39
        try clear c42b0
        try clear c45b0
        try clear c45b1
        try clear c55
        obtain ⟨kq, x87_47, rfl, HA, HJ47, HO_7, HB⟩ := hcut; have hl7_47 := (Kd.R_reads' HO_7.out).1; rw [hl7_47] at HO_7; (try simp only [hl7_47])
        cases kq with
        | zero => exact absurd HA.out (by simp [laws_FnExactSumKit.j2])
        | succ kj47 =>
         have H := HA.out; clear HA; simp only [laws_FnExactSumKit.j2] at H; by_cases c60 : x87_47 = true
         ·subst c60; rw [if_pos rfl] at H; try dsimp only at H
          obtain rfl := Option.some.inj H
          go_wp2
          go_ret
          exact ⟨eq_, bq⟩
         replace c60 := Bool.eq_false_iff.mpr c60; subst c60; rw [if_neg (show ¬ (false = true) by decide)] at H; try dsimp only at H
         obtain ⟨t267, A61, H⟩ := bindq H; try dsimp only at H
         by_cases c62 : t267 < 0
         ·rw [if_pos c62] at H; have c62b0 : decide (t267 < 0) = true := decide_eq_true c62; clear c62; obtain rfl := Option.some.inj H; go_wp2_with (first | ((with_reducible refine gate_callee (f := 15) rfl ?_); refine goesQ (some 90) Try.func15 #[.slice Ao49 t257.length co49, .int .i64 1] ?_; (with_reducible refine (laws_heldIntS.calls kj47 _ _ t257 1 t267 _ ?s1 ?s2 A61.out).mono ?_); (case s1 => exact cr HO_7); (case s2 => exact rq1 HO_7); rintro e w' ⟨rfl, ⟨nd, rfl⟩⟩; refine ⟨_, rfl, ?_⟩))
          go_ret
          exact ⟨eq_, bq⟩
         rw [if_neg c62] at H; have c62b0 : decide (t267 < 0) = false := decide_eq_false c62; clear c62; by_cases c63 : t267 = t256
         ·rw [if_pos c63] at H; have c63b0 : (t267 == t256) = true := beq_iff_eq.mpr c63; have c63b1 : (t267 != t256) = false := bne_eq_false_iff_eq.mpr c63; clear c63; obtain rfl := Option.some.inj H; go_wp2_with (first | ((with_reducible refine gate_callee (f := 15) rfl ?_); refine goesQ (some 90) Try.func15 #[.slice Ao49 t257.length co49, .int .i64 1] ?_; (with_reducible refine (laws_heldIntS.calls kj47 _ _ t257 1 t267 _ ?s1 ?s2 A61.out).mono ?_); (case s1 => exact cr HO_7); (case s2 => exact rq1 HO_7); rintro e w' ⟨rfl, ⟨nd, rfl⟩⟩; refine ⟨_, rfl, ?_⟩))
          go_ret
          exact ⟨eq_, bq⟩
         rw [if_neg c63] at H; have c63b0 : (t267 == t256) = false := beq_eq_false_iff_ne.mpr c63; have c63b1 : (t267 != t256) = true := bne_iff_ne.mpr c63; obtain rfl := Option.some.inj H; go_wp2_with (first | ((with_reducible refine gate_callee (f := 15) rfl ?_); refine goesQ (some 90) Try.func15 #[.slice Ao49 t257.length co49, .int .i64 1] ?_; (with_reducible refine (laws_heldIntS.calls kj47 _ _ t257 1 t267 _ ?s1 ?s2 A61.out).mono ?_); (case s1 => exact cr HO_7); (case s2 => exact rq1 HO_7); rintro e w' ⟨rfl, ⟨nd, rfl⟩⟩; refine ⟨_, rfl, ?_⟩))
         go_ret
         exact ⟨eq_, bq⟩
      rw [if_neg c45] at H; have c45b0 : (t258 == t256) = false := beq_eq_false_iff_ne.mpr c45; have c45b1 : (t258 != t256) = true := bne_iff_ne.mpr c45; obtain rfl := Option.some.inj H; obtain ⟨Ao64, co64, eo64⟩ := Kd.R_slice HO_7.out; subst eo64; go_wp2_with (first | ((with_reducible refine gate_callee (f := 14) rfl ?_); refine goesQ (some 64) Try.func14 #[.slice Ao64 t245.length co64, .int .i64 1] ?_; (with_reducible refine (laws_markIntS.calls kj27 (fun k_ => some k_ = (.slice Ao64 t245.length co64 : Value).ownBlock) (.slice Ao64 t245.length co64) t245 1 t256 t257 w _ ?s1 ?s2 A40.out).mono ?_); (case s1 => repeat (first | (with_reducible first | exact HB.out | apply below_alloc | apply pw_below_drewN | apply below_drew1) | exact HB.out)); (case s2 => exact Kd.R_tight rfl HO_7.out); rintro e w65 ⟨rfl, hy0, hb, hkp⟩; refine ⟨_, rfl, ?_⟩; replace HO_7 := am (Kd.R_reok rfl hy0 (fun k_ e_ => HO_7.out.1 k_ e_)); replace HB := am (hb); (try clear hb hkp hy0)) | ((with_reducible refine gate_callee (f := 15) rfl ?_); refine goesL_ (some 67) rfl rfl Try.func15 (by kernel_rfl) rfl #[.slice Ao64 t257.length co64, .int .i64 1] rfl (by (try simp only [List.map_toArray, List.map_cons, List.map_nil]); first | done | (rw [show t257.length = t245.length from (Kd.R_reads' HO_7.out).1.symm] <;> rfl) | rfl | (simp only [List.length_drop, List.length_take]; rfl)) ?_; (with_reducible refine (laws_heldIntS.calls kj27 _ _ t257 1 t258 _ ?s1 ?s2 A41.out).mono ?_); (case s1 => exact cr HO_7); (case s2 => rw [show t257.length = t245.length from (Kd.R_reads' HO_7.out).1.symm]; exact rq1 HO_7); rintro e w' ⟨rfl, ⟨nd, rfl⟩⟩; refine ⟨_, rfl, ?_⟩))
      go_ret
      exact ⟨eq_, bq⟩
   replace c26 := Bool.eq_false_iff.mpr c26; subst c26; rw [if_neg (show ¬ (false = true) by decide)] at H; try dsimp only at H
   obtain rfl := Option.some.inj H; go_wp2_with (first | ((with_reducible refine gate_callee (f := 9) rfl ?_); refine goesQ (some 43) Try.func9 #[.slice A0 l0.length c0] ?_; (with_reducible refine (laws_toBoardS.calls kj8 _ _ l0 t250 _ ?s1 ?s2 A24.out).mono ?_); (case s1 => exact cq (Kd.C_below HR0.out HB.out)); (case s2 => exact HC0.out); rintro e w66 ⟨v251, rfl, ho0, hb⟩; refine ⟨_, rfl, ?_⟩; have HO252 := am (Kd.S_lower (Kd.S_new' ho0 (Kd.S_lt (by (with_reducible repeat (first | apply Kd.S_alloc | apply Kd.S_drewN | apply Kd.S_drew)); exact HO_6.out))) (below_size bq)); replace HO_6 := am (Kd.S_elder' (by (with_reducible repeat (first | apply Kd.S_alloc | apply Kd.S_drewN | apply Kd.S_drew)); exact HO_6.out) (Kd.S_base ho0) hb); replace HB := sb hb; (try clear hb ho0); obtain ⟨Ao67, co67, eo67⟩ := Kd.S_slice HO252.out; subst eo67) | ((with_reducible refine gate_callee (f := 12) rfl ?_); refine goesQ (some 44) Try.func12 #[.slice Ao15 t242.length co15, .slice Ao67 t250.length co67] ?_; (with_reducible refine (laws_eqBoardS.calls kj8 _ _ t242 _ _ t250 false _ ?s1 ?s2 ?s3 ?s4 A25.out).mono ?_); (case s1 => exact cq (Kd.S_reads' HO_6.out).2.2); (case s2 => exact (Kd.S_reads' HO_6.out).2.1); (case s3 => exact cq (Kd.S_reads' HO252.out).2.2); (case s4 => exact (Kd.S_reads' HO252.out).2.1); rintro e w68 ⟨rfl, hb⟩; refine ⟨_, rfl, ?_⟩; replace HB := sb hb; (try clear hb)))
   go_ret
   exact ⟨eq_, bq⟩



end Go.Proofs.Ytmokdglmbjofeaa.Pall
