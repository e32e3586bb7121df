/- The law FnExactShortSession: for whatever input that can be read as data the call returns true, and each argument reads as it read before. No condition. -/
import Derived.Test.YtkkgjljcgnegpaaRows
import Derived.Test.YtkkgjljcgnegpaaMFnExactShortSession5
import Derived.Test.YtkkgjljcgnegpaaMPureFnExactShortSession
import Derived.Test.YtkkgjljcgnegpaaMOpenFnExactShortSession
import Derived.WalkKit
import Derived.ProofKit
import Derived.OpenShut
import Derived.ShutString
import Derived.ChangeOld
import Derived.Below
import Derived.SizedLaws
namespace Go.Proofs.Ytkkgjljcgnegpaa.fnExactShortSession
open Go.ChangeShapes Go.WideShapes Go.ChangeAt Go.RowKit Go.Proofs.Ytkkgjljcgnegpaa.Pall Go.Proofs.Ytkkgjljcgnegpaa.Open Go.Proofs.YtkkgjljcgnegpaaW.PrintWords
open Go.ChangeMaps (open_string shut_string)
set_option linter.unusedVariables false
theorem own : ownKnob Try.prog.godebug = none := by kernel_rfl
theorem laidOut : laidOutB Try.prog = true := by kernel_rfl
set_option maxRecDepth 100000 in
theorem lifted (os : Os) (started : os.Started) (H : Type) (enc : TypeId × Value → H) :
    ReturnsInHanded {} Try.checked os 12 .any (Rows.fnExactShortSessionSpec.pre6 enc Try.prog Try.f12 Rows.fnExactShortSessionRow.domain false) (Rows.fnExactShortSessionSpec.post enc Try.prog Try.f12 false true false false) := by
  refine returnsInHanded_of_change_sized (C := Try.checked) own started (by kernel_rfl) Try.func12
    (ChangeSpec.witness6 (enc := enc) (C := Try.checked) false ⟨#[], #[.agg #[.int .i64 0, .int .i64 0, .slice none 0 0, .slice none 0 0, .slice none 0 0]], []⟩ 8 (by kernel_rfl) (by kernel_rfl) (by kernel_rfl) (by kernel_rfl)) ?_
  intro W base args ds gs before hval0 hW hcnd hsz0 _
  have hval : ∀ (j : Nat) t v, Try.f12.params[j]? = some t → args[j]? = some v → Value.okWide Try.prog W .any base t v := hval0
  have hW' := hW
  obtain ⟨p, q, hA0, hV, rfl, hfz, hnd⟩ := hW
  have hA : DataW.TrodAll enc Try.prog W 0 (fun _ => true) true Try.f12.params.toList args.toList ds p := hA0
  rw [Try.params12] at hA hval
  obtain ⟨v0, vs0, d0, ds0, p0, q0, hargs, rfl, rfl, h0, r0⟩ := trodAll_cons hA
  obtain ⟨rfl, rfl, rfl⟩ := trodAll_nil r0
  obtain rfl : args = #[v0] := by cases args; simp_all
  obtain ⟨rfl, rfl⟩ := trodVars_none hV
  have k0 := h0
  have lt0 : ∀ x ∈ p0, x.block < W.heap.size := by obtain ⟨m, hm⟩ := k0; exact DataW.trod_lt m _ _ _ hm
  obtain ⟨cs0, rfl, hz0⟩ := okWide_struct Try.underlying27 (hval 0 27 v0 rfl rfl)
  obtain ⟨⟨⟨a0_0, ⟨a0_1, l0_2⟩⟩, ⟨l0_3, l0_4⟩⟩, ⟨_, _, hcs0, ⟨_, _, rfl, rfl, ⟨_, _, rfl, rfl, ⟨A0_2, c0_2, rfl, hc0_2, hr0_2⟩⟩⟩, ⟨_, _, rfl, ⟨A0_3, c0_3, rfl, hc0_3, hr0_3⟩, ⟨A0_4, c0_4, rfl, hc0_4, hr0_4⟩⟩⟩, ⟨⟨w0_0, ⟨w0_1, ⟨wl0_2, we0_2⟩⟩⟩, ⟨⟨wl0_3, we0_3⟩, ⟨wl0_4, we0_4⟩⟩⟩⟩ := struct_arg (opens_struct3 Try.underlying27 (by kernel_rfl) rfl rfl rfl (opens_struct3 Try.underlying24 (by kernel_rfl) rfl rfl rfl (opens_int (k := .i64) Try.underlying3 (by kernel_rfl)) (opens_int (k := .i64) Try.underlying3 (by kernel_rfl)) (opens_slice 54 Try.underlying22 (by kernel_rfl) (opens_iso (opens_struct2 Try.underlying54 (by kernel_rfl) rfl rfl (opens_int (k := .i64) Try.underlying3 (by kernel_rfl)) (opens_int (k := .i64) Try.underlying3 (by kernel_rfl))) (fun x : S54 => (x.f0, x.f1)) (fun y => ⟨y.1, y.2⟩) (fun _ => rfl)))) (opens_slice 56 Try.underlying25 (by kernel_rfl) (opens_iso (opens_struct4 Try.underlying56 (by kernel_rfl) rfl rfl rfl rfl (opens_int (k := .i64) Try.underlying3 (by kernel_rfl)) (opens_int (k := .i64) Try.underlying3 (by kernel_rfl)) (opens_int (k := .i64) Try.underlying3 (by kernel_rfl)) (opens_iso (opens_struct2 Try.underlying54 (by kernel_rfl) rfl rfl (opens_int (k := .i64) Try.underlying3 (by kernel_rfl)) (opens_int (k := .i64) Try.underlying3 (by kernel_rfl))) (fun x : S54 => (x.f0, x.f1)) (fun y => ⟨y.1, y.2⟩) (fun _ => rfl))) (fun x : S56 => (x.f0, x.f1, x.f2, x.f3)) (fun y => ⟨y.1, y.2.1, y.2.2.1, y.2.2.2⟩) (fun _ => rfl))) (opens_slice 56 Try.underlying25 (by kernel_rfl) (opens_iso (opens_struct4 Try.underlying56 (by kernel_rfl) rfl rfl rfl rfl (opens_int (k := .i64) Try.underlying3 (by kernel_rfl)) (opens_int (k := .i64) Try.underlying3 (by kernel_rfl)) (opens_int (k := .i64) Try.underlying3 (by kernel_rfl)) (opens_iso (opens_struct2 Try.underlying54 (by kernel_rfl) rfl rfl (opens_int (k := .i64) Try.underlying3 (by kernel_rfl)) (opens_int (k := .i64) Try.underlying3 (by kernel_rfl))) (fun x : S54 => (x.f0, x.f1)) (fun y => ⟨y.1, y.2⟩) (fun _ => rfl))) (fun x : S56 => (x.f0, x.f1, x.f2, x.f3)) (fun y => ⟨y.1, y.2.1, y.2.2.1, y.2.2.2⟩) (fun _ => rfl)))) h0
  obtain rfl : cs0 = #[.int .i64 a0_0, .int .i64 a0_1, .slice A0_2 l0_2.length c0_2, .slice A0_3 l0_3.length c0_3, .slice A0_4 l0_4.length c0_4] := by cases cs0; simpa using hcs0
  clear hA0 hval0 hsz0
  obtain ⟨k, hk⟩ := Pure.FnExactShortSession a0_0 a0_1 l0_2 l0_3 l0_4 w0_0 w0_1 wl0_2 we0_2 wl0_3 we0_3 wl0_4 we0_4
  refine (laws_FnExactShortSession.calls k _ _ _ _ _ _ _ _ _ _ _ true W hr0_2 hc0_2 hr0_3 hc0_3 hr0_4 hc0_4 hk).mono fun e W' ⟨he, bel⟩ => ?_
  subst he
  exact ⟨_, rfl, _, _, _, [], _, [], hW', trodAll_mk1 (shut_bool Try.underlying4 _), (trodAll_cons_mk (Below.trod laidOut (by kernel_rfl) (of_decide_eq_true (by kernel_rfl)) k0 bel lt0) trodAll_mk0), rfl, bel.frame _, fun h => by cases h⟩
theorem over : Rows.fnExactShortSessionRow.holds Try.pinned (OpenSpec.ofChange Rows.fnExactShortSessionSpec) :=
  OpenClaim.holds_of_wide 12 Try.f12 rfl rfl rfl rfl rfl rfl rfl ⟨rfl, rfl, rfl, rfl, rfl⟩ rfl rfl rfl rfl rfl (by kernel_rfl) Try.func12 (by kernel_rfl)
    (of_decide_eq_true (by kernel_rfl)) (by unfold Func.isWrapper; first | (rw [if_pos (by decide +kernel)]; kernel_rfl) | (rw [if_neg (by decide +kernel)]; exact ⟨rfl, rfl⟩))
    (fun os started H enc _ => lifted os started H enc)
theorem proved : Rows.FnExactShortSessionSaid := over
#print axioms proved
end Go.Proofs.Ytkkgjljcgnegpaa.fnExactShortSession
namespace Go.Proofs.Ytkkgjljcgnegpaa
theorem fnExactShortSession_holds : Rows.FnExactShortSessionSaid := fnExactShortSession.proved
end Go.Proofs.Ytkkgjljcgnegpaa
