/- The law FnExactSessionText: for whatever input that can be read as data the call returns true, and each argument reads as it read before. No condition. -/
import Derived.Test.YtkkgjljcgnegpaaDoorRows
import Derived.Test.YtkkgjljcgnegpaaDoorMFnExactSessionText1
import Derived.Test.YtkkgjljcgnegpaaDoorMPureFnExactSessionText
import Derived.Test.YtkkgjljcgnegpaaDoorMOpenFnExactSessionText
import Derived.WalkKit
import Derived.ProofKit
import Derived.OpenShut
import Derived.ShutString
import Derived.ChangeOld
import Derived.Below
import Derived.SizedLaws
import Derived.Test.YtkkgjljcgnegpaaDoorCards
import Derived.Test.YtkkgjljcgnegpaaDoorTie
import Derived.LaidMore
import Derived.SevenTiedAt
import Derived.Stop.Joined
namespace Go.Proofs.YtkkgjljcgnegpaaDoor.fnExactSessionText
open Go.ChangeShapes Go.WideShapes Go.ChangeAt Go.RowKit Go.Proofs.YtkkgjljcgnegpaaDoor.Pall Go.Proofs.YtkkgjljcgnegpaaDoor.Open Go.Proofs.YtkkgjljcgnegpaaDoorW.PrintWords
open Go.ChangeMaps (open_string shut_string)
set_option linter.unusedVariables false
theorem own : ownKnob Tryd.prog.godebug = none := by kernel_rfl
theorem laidOut : laidOutB Tryd.prog = true := by kernel_rfl
def laidL : List (String × DataW Unit) := Rows.fnExactSessionTextRow.laid
theorem door_met (os : Os) (args : Array Value) : laidMetH Tryd.prog laidL ((World.doorLaid Tryd.prog 24 os).forCall (fun _ _ => 0) ⟨#[], args, []⟩).memory :=
  laidMetH_of_parts3 (fuel := 8) (laidMet_of_run' 8 (by kernel_rfl) (by kernel_rfl)) (by kernel_rfl) (by kernel_rfl)
set_option maxRecDepth 100000 in
theorem lifted (os : Os) (started : os.Started) (H : Type) (enc : TypeId × Value → H) :
    ReturnsInHanded {} Tryd.checked os 3 .any (fun w args => (Rows.fnExactSessionTextSpec.pre enc Tryd.prog Tryd.f3 [] false w args ∧ laidMetH Tryd.prog laidL w) ∧ sizedMet enc Tryd.prog Tryd.f3 (OpenSpec.ofChange Rows.fnExactSessionTextSpec) false w args) (Rows.fnExactSessionTextSpec.post enc Tryd.prog Tryd.f3 false true false false) := by
  refine returnsInHanded_of_change_and (C := Tryd.checked) (X := fun w _ => laidMetH Tryd.prog laidL w) (fun _ _ _ hh h => h.of_heap hh) own started (by kernel_rfl) Tryd.func3
    (ChangeSpec.witness_shaped (enc := enc) (C := Tryd.checked) (os := os) (X := fun w _ => laidMetH Tryd.prog laidL w) false (World.doorLaid Tryd.prog 24 os) #[.agg #[.int .i64 0, .int .i64 0, .slice none 0 0, .slice none 0 0, .slice none 0 0]] 8 rfl (World.shaped_of_RefB (by kernel_rfl) (by kernel_rfl)) (by kernel_rfl) (by kernel_rfl) (by kernel_rfl) (door_met os _)) ?_
  intro W base args ds gs before hval0 hW hcnd hsz0 hL _
  have hval : ∀ (j : Nat) t v, Tryd.f3.params[j]? = some t → args[j]? = some v → Value.okWide Tryd.prog W .any base t v := hval0
  have hW' := hW
  obtain ⟨p, q, hA0, hV, rfl, hfz, hnd⟩ := hW
  have hA : DataW.TrodAll enc Tryd.prog W 0 (fun _ => true) true Tryd.f3.params.toList args.toList ds p := hA0
  rw [Tryd.params3] at hA hval
  obtain ⟨v0, vs0, d0, ds0, p0, q0, hargs, rfl, rfl, h0, r0⟩ := trodAll_cons hA
  obtain ⟨rfl, rfl, rfl⟩ := trodAll_nil r0
  obtain rfl : args = #[v0] := by cases args; simp_all
  obtain ⟨rfl, rfl⟩ := trodVars_none hV
  have k0 := h0
  have lt0 : ∀ x ∈ p0, x.block < W.heap.size := by obtain ⟨m, hm⟩ := k0; exact DataW.trod_lt m _ _ _ hm
  obtain ⟨cs0, rfl, hz0⟩ := okWide_struct Tryd.underlying27 (hval 0 27 v0 rfl rfl)
  obtain ⟨⟨⟨a0_0, ⟨a0_1, l0_2⟩⟩, ⟨l0_3, l0_4⟩⟩, ⟨_, _, hcs0, ⟨_, _, rfl, rfl, ⟨_, _, rfl, rfl, ⟨A0_2, c0_2, rfl, hc0_2, hr0_2⟩⟩⟩, ⟨_, _, rfl, ⟨A0_3, c0_3, rfl, hc0_3, hr0_3⟩, ⟨A0_4, c0_4, rfl, hc0_4, hr0_4⟩⟩⟩, ⟨⟨w0_0, ⟨w0_1, ⟨wl0_2, we0_2⟩⟩⟩, ⟨⟨wl0_3, we0_3⟩, ⟨wl0_4, we0_4⟩⟩⟩⟩ := struct_arg (opens_struct3 Tryd.underlying27 (by kernel_rfl) rfl rfl rfl (opens_struct3 Tryd.underlying24 (by kernel_rfl) rfl rfl rfl (opens_int (k := .i64) Tryd.underlying3 (by kernel_rfl)) (opens_int (k := .i64) Tryd.underlying3 (by kernel_rfl)) (opens_slice 66 Tryd.underlying22 (by kernel_rfl) (opens_iso (opens_struct2 Tryd.underlying66 (by kernel_rfl) rfl rfl (opens_int (k := .i64) Tryd.underlying3 (by kernel_rfl)) (opens_int (k := .i64) Tryd.underlying3 (by kernel_rfl))) (fun x : S66 => (x.f0, x.f1)) (fun y => ⟨y.1, y.2⟩) (fun _ => rfl)))) (opens_slice 68 Tryd.underlying25 (by kernel_rfl) (opens_iso (opens_struct4 Tryd.underlying68 (by kernel_rfl) rfl rfl rfl rfl (opens_int (k := .i64) Tryd.underlying3 (by kernel_rfl)) (opens_int (k := .i64) Tryd.underlying3 (by kernel_rfl)) (opens_int (k := .i64) Tryd.underlying3 (by kernel_rfl)) (opens_iso (opens_struct2 Tryd.underlying66 (by kernel_rfl) rfl rfl (opens_int (k := .i64) Tryd.underlying3 (by kernel_rfl)) (opens_int (k := .i64) Tryd.underlying3 (by kernel_rfl))) (fun x : S66 => (x.f0, x.f1)) (fun y => ⟨y.1, y.2⟩) (fun _ => rfl))) (fun x : S68 => (x.f0, x.f1, x.f2, x.f3)) (fun y => ⟨y.1, y.2.1, y.2.2.1, y.2.2.2⟩) (fun _ => rfl))) (opens_slice 68 Tryd.underlying25 (by kernel_rfl) (opens_iso (opens_struct4 Tryd.underlying68 (by kernel_rfl) rfl rfl rfl rfl (opens_int (k := .i64) Tryd.underlying3 (by kernel_rfl)) (opens_int (k := .i64) Tryd.underlying3 (by kernel_rfl)) (opens_int (k := .i64) Tryd.underlying3 (by kernel_rfl)) (opens_iso (opens_struct2 Tryd.underlying66 (by kernel_rfl) rfl rfl (opens_int (k := .i64) Tryd.underlying3 (by kernel_rfl)) (opens_int (k := .i64) Tryd.underlying3 (by kernel_rfl))) (fun x : S66 => (x.f0, x.f1)) (fun y => ⟨y.1, y.2⟩) (fun _ => rfl))) (fun x : S68 => (x.f0, x.f1, x.f2, x.f3)) (fun y => ⟨y.1, y.2.1, y.2.2.1, y.2.2.2⟩) (fun _ => rfl)))) h0
  obtain rfl : cs0 = #[.int .i64 a0_0, .int .i64 a0_1, .slice A0_2 l0_2.length c0_2, .slice A0_3 l0_3.length c0_3, .slice A0_4 l0_4.length c0_4] := by cases cs0; simpa using hcs0
  clear hA0 hval0 hsz0
  obtain ⟨k, hk⟩ := Pure.FnExactSessionText a0_0 a0_1 l0_2 l0_3 l0_4 w0_0 w0_1 wl0_2 we0_2 wl0_3 we0_3 wl0_4 we0_4
  refine (laws_FnExactSessionText.calls k _ _ _ _ _ _ _ _ _ _ _ true W hr0_2 hc0_2 hr0_3 hc0_3 hr0_4 hc0_4 hk).mono fun e W' ⟨he, bel⟩ => ?_
  subst he
  exact ⟨_, rfl, _, _, _, [], _, [], hW', trodAll_mk1 (shut_bool Tryd.underlying4 _), (trodAll_cons_mk (Below.trod laidOut (by kernel_rfl) (of_decide_eq_true (by kernel_rfl)) k0 bel lt0) trodAll_mk0), rfl, bel.frame _, fun h => by cases h⟩
theorem over : Rows.fnExactSessionTextRow.holds Tryd.pinned (OpenSpec.ofChange Rows.fnExactSessionTextSpec) :=
  OpenClaim.holds_of_wide 3 Tryd.f3 rfl rfl rfl rfl rfl rfl rfl ⟨rfl, rfl, rfl, rfl, rfl⟩ rfl rfl rfl rfl rfl (by kernel_rfl) Tryd.func3 (by kernel_rfl)
    (of_decide_eq_true (by kernel_rfl)) (by unfold Func.isWrapper; first | (rw [if_pos (by decide +kernel)]; kernel_rfl) | (rw [if_neg (by decide +kernel)]; exact ⟨rfl, rfl⟩))
    (fun os started H enc _ => lifted os started H enc)
theorem card : Rows.FnExactSessionTextCardSaid :=
  Claim7.holds_tied_plain_at .later [] [.data, .data, .data] true (true, "22e618c4aa65a5b6e32a97b38960b14b8e10101c8dbd2d641ccb70f7545dbb1b") false
    over (fun _ h => by cases h) (by kernel_rfl) (fun _ h => by cases h) fnExactSessionText_row_tie rfl ⟨rfl, rfl⟩ (by kernel_rfl) rfl
    (fun f fn hf hfn => by
      obtain rfl : f = 3 := Option.some.inj ((show Tryd.prog.funcNamed "loop.example/g00942/laws.FnExactSessionText" = some 3 by kernel_rfl).symm.trans hf) |>.symm
      obtain rfl : fn = Tryd.f3 := (Option.some.inj (Tryd.func3.symm.trans hfn)).symm
      exact ⟨by kernel_rfl, fun j t ht => by
        rw [Tryd.params3] at ht
        have hm : t ∈ [27] := by simpa using Array.mem_of_getElem? ht
        have hall : ([27].all fun u => !Tryd.prog.wantsStandIn u) = true := by kernel_rfl
        exact (show Tryd.prog.wantsStandIn t = false by simpa using List.all_eq_true.1 hall t hm)⟩)
    (by kernel_rfl)
#print axioms card
end Go.Proofs.YtkkgjljcgnegpaaDoor.fnExactSessionText
namespace Go.Proofs.YtkkgjljcgnegpaaDoor
theorem fnExactSessionText_holds : Rows.FnExactSessionTextCardSaid := fnExactSessionText.card
end Go.Proofs.YtkkgjljcgnegpaaDoor
