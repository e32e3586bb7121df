/- The law FnExactJoinScripts of plain lists and numbers: whatever the input, it answers true. Condition: the lengths are those of rows that fit a machine. -/
import Derived.Test.YtcmlbihdneigcaaDoorMFnExactJoinScripts0
namespace Go.Proofs.YtcmlbihdneigcaaDoor.Pure
open Go.RowKit Go.Proofs.YtcmlbihdneigcaaDoor.Pall Go.Proofs.YtcmlbihdneigcaaDoorW.PrintWords Go.Proofs.YtcmlbihdneigcaaDoorW.PrintLast Go.Proofs.YtcmlbihdneigcaaDoorW.PrintMore
set_option linter.unusedVariables false
set_option linter.unusedSimpArgs false

/-! ### Ground: rounds, and a row seen as what is behind and what is ahead -/
theorem ev_up {α : Type} {g : Nat → Option α} {r : α} (h : Ev (fun k => g (k + 1)) r) : Ev g r := by
  obtain ⟨K, hK⟩ := h
  refine ⟨K + 1, fun k hk => ?_⟩
  obtain ⟨m, rfl⟩ : ∃ m, k = m + 1 := ⟨k - 1, by omega⟩
  exact hK m (by omega)
theorem ev_eq {α : Type} {g : Nat → Option α} {r r' : α} (h : Ev g r) (e : r = r') : Ev g r' := e ▸ h
theorem ev_bind {α β : Type} {g : Nat → Option α} {f : Nat → α → Option β} {a : α} {r : β} (h : Ev g a) (k : Ev (fun n => f n a) r) : Ev (fun n => (g n).bind (f n)) r := Ev.bind h k
theorem wrap_id {x : Int} (h0 : -9223372036854775808 ≤ x) (h1 : x ≤ 9223372036854775807) : wrap64 x = x := by unfold wrap64; omega
theorem bt_byte (s : ByteArray) (i : Nat) (h : i < s.data.toList.length) : bt s (i : Int) = ((s.data.toList[i]'h).toNat : Int) := by
  have hs : i < s.size := h
  unfold bt
  rw [dif_pos (by simpa using hs)]
  rfl
theorem byte_ten (x : UInt8) : ((x.toNat : Int) = 10) = (x = 10) := by
  apply propext
  constructor
  · intro h
    have : x.toNat = 10 := by omega
    exact UInt8.toNat_inj.1 this
  · rintro rfl; rfl
theorem spec_l1Split_l0 (s : ByteArray) (hs : s.size ≤ 100000) : ∀ (n : Nat) (x5 : List ByteArray) (from_ i : Nat), i + n = s.size → from_ ≤ i → x5.length ≤ i → ∃ y : List ByteArray, y.length = x5.length + 1 + (s.data.toList.drop i).count 10 ∧ Ev (fun k => spec_l1Split.l0 k s 10 x5 (from_ : Int) (i : Int)) y
  | 0, x5, from_, i, h, hf, hx => by
    have g : ((i : Int) < (s.size : Int)) = False := by apply eq_false; omega
    have g1 : (0 ≤ (from_ : Int)) = True := by apply eq_true; omega
    have g2 : ((from_ : Int) ≤ (s.size : Int)) = True := by apply eq_true; omega
    have g3 : (x5.length < 8796093022208) = True := by apply eq_true; omega
    have e : s.data.toList.drop i = [] := List.drop_eq_nil_of_le (show s.size ≤ i by omega)
    refine ⟨x5 ++ [s.extract ((from_ : Int)).toNat s.size], by simp [e], ev_up ?_⟩
    simp only [spec_l1Split.l0, g, g1, g2, g3, ↓reduceIte]
    exact Ev.now _
  | n + 1, x5, from_, i, h, hf, hx => by
    have hi : i < s.data.toList.length := by show i < s.size; omega
    have g : ((i : Int) < (s.size : Int)) = True := by apply eq_true; omega
    have g0 : (0 ≤ (i : Int)) = True := by apply eq_true; omega
    have g1 : (0 ≤ (from_ : Int)) = True := by apply eq_true; omega
    have g2 : ((from_ : Int) ≤ (i : Int)) = True := by apply eq_true; omega
    have g4 : ((i : Int) ≤ (s.size : Int)) = True := by apply eq_true; omega
    have g3 : (x5.length < 8796093022208) = True := by apply eq_true; omega
    have hw : wrap64 ((i : Int) + 1) = ((i + 1 : Nat) : Int) := by rw [wrap_id (by omega) (by omega)]; omega
    have hd := List.drop_eq_getElem_cons hi
    by_cases hb : s.data.toList[i] = 10
    · obtain ⟨y, hy, E⟩ := spec_l1Split_l0 s hs n (x5 ++ [s.extract ((from_ : Int)).toNat ((i : Int)).toNat]) (i + 1) (i + 1) (by omega) (by omega) (by simp; omega)
      refine ⟨y, ?_, ev_up ?_⟩
      · rw [hy, hd, hb, List.length_append, List.count_cons_self, List.length_singleton]; omega
      · have g5 : (bt s (i : Int) = 10) = True := by rw [bt_byte s i hi, byte_ten, hb]; simp
        simp only [spec_l1Split.l0, g, g0, g1, g2, g3, g4, g5, hw, ↓reduceIte]
        exact E
    · obtain ⟨y, hy, E⟩ := spec_l1Split_l0 s hs n x5 from_ (i + 1) (by omega) (by omega) (by omega)
      refine ⟨y, ?_, ev_up ?_⟩
      · rw [hy, hd, List.count_cons_of_ne (by simpa using hb)]
      · have g5 : (bt s (i : Int) = 10) = False := by rw [bt_byte s i hi, byte_ten]; simpa using hb
        simp only [spec_l1Split.l0, g, g0, g5, hw, ↓reduceIte]
        exact E
theorem spec_l1Split_ev (s : ByteArray) (hs : s.size ≤ 100000) : ∃ y : List ByteArray, y.length = 1 + s.data.toList.count 10 ∧ Ev (fun k => spec_l1Split.f k s 10) y := by
  obtain ⟨y, hy, E⟩ := spec_l1Split_l0 s hs s.size [] 0 0 (by omega) (by omega) (by simp)
  exact ⟨y, by simpa using hy, by simpa [spec_l1Split.f] using E⟩
/-- A script: short, each line ended, few lines. -/
def okScript (s : ByteArray) : Bool := decide (s.size ≤ 2000) && (decide (s.size = 0) || (bt s ((s.size : Int) - 1) == 10)) && decide (s.data.toList.count 10 ≤ 40)
theorem empty_size (s : ByteArray) : (s.toList = ([] : List UInt8)) = (s.size = 0) := by
  rw [Go.ByteArray.toList_eq]
  apply propext
  show _ ↔ s.data.toList.length = 0
  exact List.length_eq_zero_iff.symm
theorem spec_csLines_ev (s : ByteArray) (hs : s.size ≤ 9223372036854775807) : ∃ y : List ByteArray, Ev (fun k => spec_csLines.f k s) (y, okScript s) := by
  have bad : Ev (fun k => spec_csLines.j0 k s true) (([] : List ByteArray), false) := by
    refine ev_up ?_
    simp only [spec_csLines.j0, ↓reduceIte]
    exact Ev.now _
  have good : s.size ≤ 2000 → ∃ y : List ByteArray, Ev (fun k => spec_csLines.j0 k s false) (y, decide (s.data.toList.count 10 ≤ 40)) := by
    intro h2
    obtain ⟨y, hy, E⟩ := spec_l1Split_ev s (by omega)
    have hc : s.data.toList.count 10 ≤ s.size := List.count_le_length
    have hw : wrap64 ((y.length : Int) - 1) = (y.length : Int) - 1 := wrap_id (by omega) (by omega)
    have g1 : (0 ≤ (y.length : Int) - 1) = True := by apply eq_true; omega
    have g2 : ((y.length : Int) - 1 ≤ (y.length : Int)) = True := by apply eq_true; omega
    have hl : ((y.take ((y.length : Int) - 1).toNat).length : Int) = (s.data.toList.count 10 : Int) := by
      rw [List.length_take]; omega
    by_cases h40 : s.data.toList.count 10 ≤ 40
    · refine ⟨y.take ((y.length : Int) - 1).toNat, ev_up ?_⟩
      simp only [spec_csLines.j0, Bool.false_eq_true, ↓reduceIte]
      refine ev_bind E ?_
      have g3 : ((s.data.toList.count 10 : Int) > 40) = False := by apply eq_false; omega
      simp only [hw, g1, g2, hl, g3, Option.bind_some, ↓reduceIte, h40, decide_true]
      exact Ev.now _
    · refine ⟨[], ev_up ?_⟩
      simp only [spec_csLines.j0, Bool.false_eq_true, ↓reduceIte]
      refine ev_bind E ?_
      have g3 : ((s.data.toList.count 10 : Int) > 40) = True := by apply eq_true; omega
      simp only [hw, g1, g2, hl, g3, Option.bind_some, ↓reduceIte, h40, decide_false]
      exact Ev.now _
  simp only [spec_csLines.f, empty_size]
  by_cases h2 : s.size ≤ 2000
  · have g : ((s.size : Int) > 2000) = False := by apply eq_false; omega
    simp only [g, ↓reduceIte]
    obtain ⟨y, G⟩ := good h2
    by_cases h0 : s.size = 0
    · refine ⟨y, ?_⟩
      simp only [h0, ↓reduceIte]
      refine ev_eq G ?_
      simp [okScript, h2, h0]
    · have hw : wrap64 ((s.size : Int) - 1) = (s.size : Int) - 1 := wrap_id (by omega) (by omega)
      have g1 : (0 ≤ (s.size : Int) - 1) = True := by apply eq_true; omega
      have g2 : ((s.size : Int) - 1 < (s.size : Int)) = True := by apply eq_true; omega
      simp only [h0, hw, g1, g2, ↓reduceIte]
      by_cases hb : bt s ((s.size : Int) - 1) = 10
      · have e : (bt s ((s.size : Int) - 1) != 10) = false := by simp [hb]
        rw [e]
        refine ⟨y, ev_eq G ?_⟩
        simp [okScript, h2, hb]
      · have e : (bt s ((s.size : Int) - 1) != 10) = true := by simp [hb]
        rw [e]
        refine ⟨[], ev_eq bad ?_⟩
        simp [okScript, h0, hb]
  · have g : ((s.size : Int) > 2000) = True := by apply eq_true; omega
    simp only [g, ↓reduceIte]
    refine ⟨[], ev_eq bad ?_⟩
    simp [okScript, h2]
def rJoin (a b : ByteArray) : ByteArray × Bool := if okScript a = true ∧ okScript b = true ∧ okScript (a ++ b) = true then (a ++ b, true) else (⟨#[]⟩, false)
theorem spec_JoinScripts_ev (a b : ByteArray) (ha : a.size ≤ 1048576) (hb : b.size ≤ 1048576) : Ev (fun k => spec_JoinScripts.f k a b) (rJoin a b) := by
  obtain ⟨y1, E1⟩ := spec_csLines_ev a (by omega)
  obtain ⟨y2, E2⟩ := spec_csLines_ev b (by omega)
  obtain ⟨y3, E3⟩ := spec_csLines_ev (a ++ b) (by rw [ByteArray.size_append]; omega)
  have g : (a.size + b.size ≤ 9223372036854775807) = True := by apply eq_true; omega
  simp only [spec_JoinScripts.f]
  refine ev_bind E1 (ev_bind E2 ?_)
  simp only [g, ↓reduceIte]
  refine ev_bind E3 ?_
  unfold rJoin
  cases okScript a <;> cases okScript b <;> cases okScript (a ++ b) <;> simpa using Ev.now _
theorem last_count (s : ByteArray) (h0 : s.size ≠ 0) (hb : bt s ((s.size : Int) - 1) = 10) : s.data.toList.count 10 = Go.Lib.countB (s.extract 0 (((s.size : Int) - 1)).toNat) ⟨#[10]⟩ + 1 := by
  have hn : (((s.size : Int) - 1)).toNat = s.size - 1 := by omega
  have hi : s.size - 1 < s.data.toList.length := by show s.size - 1 < s.size; omega
  have e1 : ((⟨#[10]⟩ : ByteArray)).data.toList = [10] := rfl
  rw [hn]
  show _ = Go.Lib.count _ _ + 1
  rw [e1, Go.Lib.count_one, Go.Lib.extract_from_zero]
  have hx : s.data.toList[s.size - 1]'hi = 10 := by
    have := bt_byte s (s.size - 1) hi
    rw [show ((s.size - 1 : Nat) : Int) = (s.size : Int) - 1 by omega, hb] at this
    exact (byte_ten _).mp this.symm
  conv => lhs; rw [← List.take_append_drop (s.size - 1) s.data.toList]
  rw [List.count_append, List.drop_eq_getElem_cons hi, hx, List.drop_eq_nil_of_le (show s.size ≤ s.size - 1 + 1 by omega)]
  rfl
theorem suffix_eq (s : ByteArray) (hs : s.size ≤ 100000) (h0 : s.size ≠ 0) : strings_HasSuffix.f s ⟨#[10]⟩ = some (bt s ((s.size : Int) - 1) == 10) := by
  have e1 : ((⟨#[10]⟩ : ByteArray)).size = 1 := rfl
  have hw : wrap64 ((s.size : Int) - ((1 : Nat) : Int)) = (s.size : Int) - 1 := wrap_id (by omega) (by omega)
  have g0 : ((s.size : Int) ≥ ((1 : Nat) : Int)) = True := by apply eq_true; omega
  have g1 : (0 ≤ (s.size : Int) - 1) = True := by apply eq_true; omega
  have g2 : ((s.size : Int) - 1 ≤ (s.size : Int)) = True := by apply eq_true; omega
  have hn : (((s.size : Int) - 1)).toNat = s.size - 1 := by omega
  have hi : s.size - 1 < s.data.toList.length := by show s.size - 1 < s.size; omega
  simp only [strings_HasSuffix.f, stringslite_HasSuffix.f, e1, hw, g0, g1, g2, ↓reduceIte, Option.bind_some]
  have e3 : (s.extract (((s.size : Int) - 1)).toNat s.size).toList = [s.data.toList[s.size - 1]'hi] := by
    rw [Go.ByteArray.toList_eq, Go.Lib.extract_to_end, hn, List.drop_eq_getElem_cons hi, List.drop_eq_nil_of_le (show s.size ≤ s.size - 1 + 1 by omega)]
  have e4 : ((⟨#[10]⟩ : ByteArray)).toList = [10] := by rw [Go.ByteArray.toList_eq]
  have e5 := bt_byte s (s.size - 1) hi
  rw [show ((s.size - 1 : Nat) : Int) = (s.size : Int) - 1 by omega] at e5
  rw [e3, e4, e5]
  congr 1
  rw [Bool.eq_iff_iff, beq_iff_eq, beq_iff_eq, byte_ten]
  simp
theorem impl_isScript_ev (s : ByteArray) (hs : s.size ≤ 9223372036854775807) : Ev (fun k => impl_isScript.f k s) (okScript s) := by
  simp only [impl_isScript.f]
  by_cases h2 : s.size ≤ 2000
  · have g : ((s.size : Int) > 2000) = False := by apply eq_false; omega
    simp only [g, ↓reduceIte]
    simp only [impl_linesOf.f, empty_size]
    by_cases h0 : s.size = 0
    · have he : s.data.toList = [] := List.length_eq_zero_iff.1 h0
      have eo : okScript s = true := by simp [okScript, h0, he]
      simp only [h0, Option.bind_some, ↓reduceIte, eo]
      exact Ev.now _
    · simp only [h0, suffix_eq s (by omega) h0, Option.bind_some, ↓reduceIte]
      by_cases hb : bt s ((s.size : Int) - 1) = 10
      · have hw : wrap64 ((s.size : Int) - 1) = (s.size : Int) - 1 := wrap_id (by omega) (by omega)
        have g1 : (0 ≤ (s.size : Int) - 1) = True := by apply eq_true; omega
        have g2 : ((s.size : Int) - 1 ≤ (s.size : Int)) = True := by apply eq_true; omega
        have eb : (bt s ((s.size : Int) - 1) == 10) = true := by simp [hb]
        have hl := last_count s h0 hb
        have hc : s.data.toList.count 10 ≤ s.size := List.count_le_length
        have hz : (s.extract 0 (((s.size : Int) - 1)).toNat).size ≤ s.size := by
          show (s.extract 0 (((s.size : Int) - 1)).toNat).data.toList.length ≤ s.data.toList.length
          rw [Go.Lib.extract_from_zero, List.length_take]; omega
        have hm : (100000 : Nat) ≤ maxLen := by decide
        have e1 : ((⟨#[10]⟩ : ByteArray)).size = 1 := rfl
        have gs : ((s.extract 0 (((s.size : Int) - 1)).toNat).size < 4294967281 ∧ 1 ≤ ((⟨#[10]⟩ : ByteArray)).size ∧ Go.Lib.countB (s.extract 0 (((s.size : Int) - 1)).toNat) ⟨#[10]⟩ + 1 ≤ maxLen) = True := by
          apply eq_true; refine ⟨by omega, by rw [e1]; exact Nat.le_refl _, by omega⟩
        have len := Go.Lib.splitB_all ⟨#[10]⟩ (by rw [e1]; exact Nat.le_refl _) 0 (Go.Lib.countB (s.extract 0 (((s.size : Int) - 1)).toNat) ⟨#[10]⟩) (s.extract 0 (((s.size : Int) - 1)).toNat) rfl
        simp only [eb, hw, g1, g2, strings_Split.f, gs, ↓reduceIte, Option.bind_some, len]
        refine ev_eq (Ev.now _) ?_
        unfold okScript
        rw [hl]
        have d1 : decide (s.size ≤ 2000) = true := decide_eq_true h2
        rw [d1, eb, Bool.or_true, Bool.true_and, Bool.true_and, Bool.eq_iff_iff, decide_eq_true_iff, decide_eq_true_iff]
        omega
      · have eb : (bt s ((s.size : Int) - 1) == 10) = false := by simp [hb]
        simp only [eb, Bool.false_eq_true, ↓reduceIte, Option.bind_some]
        refine ev_eq (Ev.now _) ?_
        simp [okScript, h0, hb]
  · have g : ((s.size : Int) > 2000) = True := by apply eq_true; omega
    simp only [g, ↓reduceIte]
    refine ev_eq (Ev.now _) ?_
    simp [okScript, h2]
theorem impl_JoinScripts_ev (a b : ByteArray) (ha : a.size ≤ 1048576) (hb : b.size ≤ 1048576) : Ev (fun k => impl_JoinScripts.f k a b) (rJoin a b) := by
  have g : (a.size + b.size ≤ 9223372036854775807) = True := by apply eq_true; omega
  have E1 := impl_isScript_ev a (by omega)
  have E2 := impl_isScript_ev b (by omega)
  have E3 := impl_isScript_ev (a ++ b) (by rw [ByteArray.size_append]; omega)
  simp only [impl_JoinScripts.f]
  refine ev_bind E1 ?_
  unfold rJoin
  cases okScript a
  · simpa using Ev.now _
  · simp only [↓reduceIte]
    refine ev_bind E2 ?_
    cases okScript b
    · simpa using Ev.now _
    · simp only [g, ↓reduceIte]
      refine ev_bind E3 ?_
      cases okScript (a ++ b) <;> simpa using Ev.now _
theorem FnExactJoinScripts (a b : ByteArray) (wa : a.size ≤ maxLen) (wb : b.size ≤ maxLen) : ∃ k, laws_FnExactJoinScripts.f k a b = some true := by
  refine Ev.rounds (g := fun k => laws_FnExactJoinScripts.f k a b) ?_
  simp only [laws_FnExactJoinScripts.f]
  by_cases ha : (a.size : Int) > 1048576
  · simp only [ha, ↓reduceIte]; exact Ev.now _
  · by_cases hb : (b.size : Int) > 1048576
    · simp only [ha, hb, ↓reduceIte]; exact Ev.now _
    · simp only [ha, hb, ↓reduceIte]
      refine ev_bind (spec_JoinScripts_ev a b (by omega) (by omega)) (ev_bind (impl_JoinScripts_ev a b (by omega) (by omega)) ?_)
      simp only [bne_self_eq_false, Bool.false_eq_true, ↓reduceIte]
      exact Ev.now _

end Go.Proofs.YtcmlbihdneigcaaDoor.Pure
