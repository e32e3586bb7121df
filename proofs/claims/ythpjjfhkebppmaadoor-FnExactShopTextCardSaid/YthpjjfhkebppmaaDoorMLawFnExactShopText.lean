/- The law FnExactShopText: for whatever input that can be read as data the call returns true, and each argument reads as it read before. No condition. -/
import Derived.Test.YthpjjfhkebppmaaDoorRows
import Derived.Test.YthpjjfhkebppmaaDoorMFnExactShopText1
import Derived.Test.YthpjjfhkebppmaaDoorMPureFnExactShopText
import Derived.Test.YthpjjfhkebppmaaDoorMOpenFnExactShopText
import Derived.WalkKit
import Derived.ProofKit
import Derived.OpenShut
import Derived.ShutString
import Derived.ChangeOld
import Derived.Below
import Derived.SizedLaws
import Derived.Lib.LaidTab
import Derived.Stop.LaidErr
import Derived.Test.YthpjjfhkebppmaaDoorCards
import Derived.Test.YthpjjfhkebppmaaDoorTie
import Derived.LaidMore
import Derived.Lay
import Derived.MakeChecks
import Derived.SevenTiedAt
import Derived.Stop.Joined
namespace Go.Proofs.YthpjjfhkebppmaaDoor.fnExactShopText
open Go.ChangeShapes Go.WideShapes Go.ChangeAt Go.RowKit Go.Proofs.YthpjjfhkebppmaaDoor.Pall Go.Proofs.YthpjjfhkebppmaaDoor.Open Go.Proofs.YthpjjfhkebppmaaDoorW.PrintWords
open Go.ChangeMaps (open_string shut_string)
set_option linter.unusedVariables false
theorem own : ownKnob Tryd.prog.godebug = none := by kernel_rfl
theorem laidOut : laidOutB Tryd.prog = true := by kernel_rfl
def laidL : List (String × DataW Unit) := Rows.fnExactShopTextRow.laid
theorem door_met (os : Os) (args : Array Value) : laidMetH Tryd.prog laidL ((World.laidAll Tryd.prog os laidL).forCall (fun _ _ => 0) ⟨#[], args, []⟩).memory := by
  rw [MakeChecks.laidMetH_plain _ _ _ (by kernel_rfl)]
  exact laidMet_laidAll _ (by kernel_rfl) (by kernel_rfl)
theorem pow_at {w : World} (h : laidMetH Tryd.prog laidL w) : PowHeld w := by
  rw [MakeChecks.laidMetH_plain _ _ _ (by kernel_rfl)] at h
  have e : (Rows.laid_internal_strconv_uint64pow10 : DataW Unit) = Lib.tabData .u64 Lib.pow10Tab := by kernel_rfl
  have h2 : laidMet Tryd.prog [("internal/strconv.uint64pow10", Lib.tabData .u64 Lib.pow10Tab)] w := by rw [← e]; exact h.tail.tail
  have hce : Tryd.prog.cellsOf 70 = 1 := by kernel_rfl
  have hct : Tryd.prog.cellsOf 80 = 20 := by kernel_rfl
  obtain ⟨g, hg, ht⟩ : ∃ g, Tryd.prog.globalNamed "internal/strconv.uint64pow10" = some g ∧ (Tryd.prog.globals[g]?).map (·.type) = some 80 := by
    first
      | exact ⟨0, by kernel_rfl, by kernel_rfl⟩
      | exact ⟨1, by kernel_rfl, by kernel_rfl⟩
      | exact ⟨2, by kernel_rfl, by kernel_rfl⟩
      | exact ⟨3, by kernel_rfl, by kernel_rfl⟩
  exact Lib.tabIs_of_head hg ht Tryd.underlying80 Tryd.underlying70 hce hct h2
set_option maxRecDepth 100000 in
theorem lifted (os : Os) (started : os.Started) (H : Type) (enc : TypeId × Value → H) :
    ReturnsInHanded {} Tryd.checked os 3 .any (fun w args => (Rows.fnExactShopTextSpec.pre enc Tryd.prog Tryd.f3 [] false w args ∧ laidMetH Tryd.prog laidL w) ∧ sizedMet enc Tryd.prog Tryd.f3 (OpenSpec.ofChange Rows.fnExactShopTextSpec) false w args) (Rows.fnExactShopTextSpec.post enc Tryd.prog Tryd.f3 false true false false) := by
  refine returnsInHanded_of_change_and (C := Tryd.checked) (X := fun w _ => laidMetH Tryd.prog laidL w) (fun _ _ _ hh h => h.of_heap hh) own started (by kernel_rfl) Tryd.func3
    (ChangeSpec.witness_shaped (enc := enc) (C := Tryd.checked) (os := os) (X := fun w _ => laidMetH Tryd.prog laidL w) false (World.laidAll Tryd.prog os laidL) #[.agg #[.slice none 0 0, .slice none 0 0]] 8 (World.laidAll_os _ _ _) (World.shaped_of_ZipB (by kernel_rfl) (by kernel_rfl)) (by kernel_rfl) (by kernel_rfl) (by kernel_rfl) (door_met os _)) ?_
  intro W base args ds gs before hval0 hW hcnd hsz0 hL _
  have hval : ∀ (j : Nat) t v, Tryd.f3.params[j]? = some t → args[j]? = some v → Value.okWide Tryd.prog W .any base t v := hval0
  have hW' := hW
  obtain ⟨p, q, hA0, hV, rfl, hfz, hnd⟩ := hW
  have hA : DataW.TrodAll enc Tryd.prog W 0 (fun _ => true) true Tryd.f3.params.toList args.toList ds p := hA0
  rw [Tryd.params3] at hA hval
  obtain ⟨v0, vs0, d0, ds0, p0, q0, hargs, rfl, rfl, h0, r0⟩ := trodAll_cons hA
  obtain ⟨rfl, rfl, rfl⟩ := trodAll_nil r0
  obtain rfl : args = #[v0] := by cases args; simp_all
  obtain ⟨rfl, rfl⟩ := trodVars_none hV
  have k0 := h0
  have lt0 : ∀ x ∈ p0, x.block < W.heap.size := by obtain ⟨m, hm⟩ := k0; exact DataW.trod_lt m _ _ _ hm
  obtain ⟨cs0, rfl, hz0⟩ := okWide_struct Tryd.underlying25 (hval 0 25 v0 rfl rfl)
  obtain ⟨⟨l0_0, l0_1⟩, ⟨_, _, hcs0, ⟨A0_0, c0_0, rfl, hc0_0, hr0_0⟩, ⟨A0_1, c0_1, rfl, hc0_1, hr0_1⟩⟩, ⟨⟨wl0_0, we0_0⟩, ⟨wl0_1, we0_1⟩⟩⟩ := struct_arg (opens_struct2 Tryd.underlying25 (by kernel_rfl) rfl rfl (opens_slice 3 Tryd.underlying22 (by kernel_rfl) (opens_int (k := .i64) Tryd.underlying3 (by kernel_rfl))) (opens_slice 51 Tryd.underlying23 (by kernel_rfl) (opens_iso (opens_struct4 Tryd.underlying51 (by kernel_rfl) rfl rfl rfl rfl (opens_int (k := .i64) Tryd.underlying3 (by kernel_rfl)) (opens_int (k := .i64) Tryd.underlying3 (by kernel_rfl)) (opens_int (k := .i64) Tryd.underlying3 (by kernel_rfl)) (opens_int (k := .i64) Tryd.underlying3 (by kernel_rfl))) (fun x : S51 => (x.f0, x.f1, x.f2, x.f3)) (fun y => ⟨y.1, y.2.1, y.2.2.1, y.2.2.2⟩) (fun _ => rfl)))) h0
  obtain rfl : cs0 = #[.slice A0_0 l0_0.length c0_0, .slice A0_1 l0_1.length c0_1] := by cases cs0; simpa using hcs0
  clear hA0 hval0 hsz0
  obtain ⟨k, hk⟩ := Pure.FnExactShopText l0_0 l0_1 wl0_0 we0_0 wl0_1 we0_1
  refine (laws_FnExactShopText.calls k _ _ _ _ _ _ true W hr0_0 hc0_0 hr0_1 hc0_1 (pow_at hL) hk).mono fun e W' ⟨he, bel⟩ => ?_
  subst he
  exact ⟨_, rfl, _, _, _, [], _, [], hW', trodAll_mk1 (shut_bool Tryd.underlying4 _), (trodAll_cons_mk (Below.trod laidOut (by kernel_rfl) (of_decide_eq_true (by kernel_rfl)) k0 bel lt0) trodAll_mk0), rfl, bel.frame _, fun h => by cases h⟩
theorem over : Rows.fnExactShopTextRow.holds Tryd.pinned (OpenSpec.ofChange Rows.fnExactShopTextSpec) :=
  OpenClaim.holds_of_wide 3 Tryd.f3 rfl rfl rfl rfl rfl rfl rfl ⟨rfl, rfl, rfl, rfl, rfl⟩ rfl rfl rfl rfl rfl (by kernel_rfl) Tryd.func3 (by kernel_rfl)
    (of_decide_eq_true (by kernel_rfl)) (by unfold Func.isWrapper; first | (rw [if_pos (by decide +kernel)]; kernel_rfl) | (rw [if_neg (by decide +kernel)]; exact ⟨rfl, rfl⟩))
    (fun os started H enc _ => lifted os started H enc)
theorem card : Rows.FnExactShopTextCardSaid :=
  Claim7.holds_tied_plain_at .later [] [.data, .data, .data] true (true, "2b6f4ae3daf2beeb074bd35acbdbe40a112ae062ab1bde19150336f5e9655279") false
    over (fun _ h => by cases h) (by kernel_rfl) (fun _ h => by cases h) fnExactShopText_row_tie rfl ⟨rfl, rfl⟩ (by kernel_rfl) rfl
    (fun f fn hf hfn => by
      obtain rfl : f = 3 := Option.some.inj ((show Tryd.prog.funcNamed "loop.example/g00942/laws.FnExactShopText" = some 3 by kernel_rfl).symm.trans hf) |>.symm
      obtain rfl : fn = Tryd.f3 := (Option.some.inj (Tryd.func3.symm.trans hfn)).symm
      exact ⟨by kernel_rfl, fun j t ht => by
        rw [Tryd.params3] at ht
        have hm : t ∈ [25] := by simpa using Array.mem_of_getElem? ht
        have hall : ([25].all fun u => !Tryd.prog.wantsStandIn u) = true := by kernel_rfl
        exact (show Tryd.prog.wantsStandIn t = false by simpa using List.all_eq_true.1 hall t hm)⟩)
    (by kernel_rfl)
#print axioms card
end Go.Proofs.YthpjjfhkebppmaaDoor.fnExactShopText
namespace Go.Proofs.YthpjjfhkebppmaaDoor
theorem fnExactShopText_holds : Rows.FnExactShopTextCardSaid := fnExactShopText.card
end Go.Proofs.YthpjjfhkebppmaaDoor
