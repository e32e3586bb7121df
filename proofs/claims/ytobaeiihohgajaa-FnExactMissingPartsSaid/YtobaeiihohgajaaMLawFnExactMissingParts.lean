/- The law FnExactMissingParts: for whatever input that can be read as data the call returns true, and each argument reads as it read before. No condition. -/
import Derived.Test.YtobaeiihohgajaaRows
import Derived.Test.YtobaeiihohgajaaMFnExactMissingParts2
import Derived.Test.YtobaeiihohgajaaMPureFnExactMissingParts
import Derived.Test.YtobaeiihohgajaaMOpenFnExactMissingParts
import Derived.WalkKit
import Derived.ProofKit
import Derived.OpenShut
import Derived.ShutString
import Derived.ChangeOld
import Derived.Below
import Derived.SizedLaws
namespace Go.Proofs.Ytobaeiihohgajaa.fnExactMissingParts
open Go.ChangeShapes Go.WideShapes Go.ChangeAt Go.RowKit Go.Proofs.Ytobaeiihohgajaa.Pall Go.Proofs.Ytobaeiihohgajaa.Open Go.Proofs.YtobaeiihohgajaaW.PrintWords
open Go.ChangeMaps (open_string shut_string)
set_option linter.unusedVariables false
theorem own : ownKnob Try.prog.godebug = none := by kernel_rfl
theorem laidOut : laidOutB Try.prog = true := by kernel_rfl
set_option maxRecDepth 100000 in
theorem lifted (os : Os) (started : os.Started) (H : Type) (enc : TypeId × Value → H) :
    ReturnsInHanded {} Try.checked os 7 .any (Rows.fnExactMissingPartsSpec.pre6 enc Try.prog Try.f7 Rows.fnExactMissingPartsRow.domain false) (Rows.fnExactMissingPartsSpec.post enc Try.prog Try.f7 false true false false) := by
  refine returnsInHanded_of_change_sized (C := Try.checked) own started (by kernel_rfl) Try.func7
    (ChangeSpec.witness6 (enc := enc) (C := Try.checked) false ⟨#[], #[.slice none 0 0, .agg #[.int .i64 0, .int .i64 0, .slice none 0 0]], []⟩ 8 (by kernel_rfl) (by kernel_rfl) (by kernel_rfl) (by kernel_rfl)) ?_
  intro W base args ds gs before hval0 hW hcnd hsz0 _
  have hval : ∀ (j : Nat) t v, Try.f7.params[j]? = some t → args[j]? = some v → Value.okWide Try.prog W .any base t v := hval0
  have hW' := hW
  obtain ⟨p, q, hA0, hV, rfl, hfz, hnd⟩ := hW
  have hA : DataW.TrodAll enc Try.prog W 0 (fun _ => true) true Try.f7.params.toList args.toList ds p := hA0
  rw [Try.params7] at hA hval
  obtain ⟨v0, vs0, d0, ds0, p0, q0, hargs, rfl, rfl, h0, r0⟩ := trodAll_cons hA
  obtain ⟨v1, vs1, d1, ds1, p1, q1, rfl, rfl, rfl, h1, r1⟩ := trodAll_cons r0
  obtain ⟨rfl, rfl, rfl⟩ := trodAll_nil r1
  obtain rfl : args = #[v0, v1] := by cases args; simp_all
  obtain ⟨rfl, rfl⟩ := trodVars_none hV
  have k0 := h0
  have lt0 : ∀ x ∈ p0, x.block < W.heap.size := by obtain ⟨m, hm⟩ := k0; exact DataW.trod_lt m _ _ _ hm
  obtain ⟨a0, len0, cap0, rfl⟩ := okWide_slice Try.underlying22 (hval 0 22 v0 rfl rfl)
  obtain ⟨l0, rfl, hc0, hr0, wl0, we0⟩ := slice_arg (opens_slice 3 Try.underlying22 (by kernel_rfl) (opens_int (k := .i64) Try.underlying3 (by kernel_rfl))) h0
  have k1 := h1
  have lt1 : ∀ x ∈ p1, x.block < W.heap.size := by obtain ⟨m, hm⟩ := k1; exact DataW.trod_lt m _ _ _ hm
  obtain ⟨cs1, rfl, hz1⟩ := okWide_struct Try.underlying29 (hval 1 29 v1 rfl rfl)
  obtain ⟨⟨a1_0, ⟨a1_1, l1_2⟩⟩, ⟨_, _, hcs1, rfl, ⟨_, _, rfl, rfl, ⟨A1_2, c1_2, rfl, hc1_2, hr1_2⟩⟩⟩, ⟨w1_0, ⟨w1_1, ⟨wl1_2, we1_2⟩⟩⟩⟩ := struct_arg (opens_struct3 Try.underlying29 (by kernel_rfl) rfl rfl rfl (opens_int (k := .i64) Try.underlying3 (by kernel_rfl)) (opens_int (k := .i64) Try.underlying3 (by kernel_rfl)) (opens_slice 106 Try.underlying27 (by kernel_rfl) (opens_iso (opens_struct2 Try.underlying106 (by kernel_rfl) rfl rfl (opens_int (k := .i64) Try.underlying3 (by kernel_rfl)) (opens_int (k := .i64) Try.underlying3 (by kernel_rfl))) (fun x : S106 => (x.f0, x.f1)) (fun y => ⟨y.1, y.2⟩) (fun _ => rfl)))) h1
  obtain rfl : cs1 = #[.int .i64 a1_0, .int .i64 a1_1, .slice A1_2 l1_2.length c1_2] := by cases cs1; simpa using hcs1
  clear hA0 hval0 hsz0
  obtain ⟨k, hk⟩ := Pure.FnExactMissingParts l0 a1_0 a1_1 l1_2 wl0 we0 w1_0 w1_1 wl1_2 we1_2
  refine (laws_FnExactMissingParts.calls k _ _ _ _ _ _ _ _ true W hr0 hc0 hr1_2 hc1_2 hk).mono fun e W' ⟨he, bel⟩ => ?_
  subst he
  exact ⟨_, rfl, _, _, _, [], _, [], hW', trodAll_mk1 (shut_bool Try.underlying4 _), (trodAll_cons_mk (Below.trod laidOut (by kernel_rfl) (of_decide_eq_true (by kernel_rfl)) k0 bel lt0) (trodAll_cons_mk (Below.trod laidOut (by kernel_rfl) (of_decide_eq_true (by kernel_rfl)) k1 bel lt1) trodAll_mk0)), rfl, bel.frame _, fun h => by cases h⟩
theorem over : Rows.fnExactMissingPartsRow.holds Try.pinned (OpenSpec.ofChange Rows.fnExactMissingPartsSpec) :=
  OpenClaim.holds_of_wide 7 Try.f7 rfl rfl rfl rfl rfl rfl rfl ⟨rfl, rfl, rfl, rfl, rfl⟩ rfl rfl rfl rfl rfl (by kernel_rfl) Try.func7 (by kernel_rfl)
    (of_decide_eq_true (by kernel_rfl)) (by unfold Func.isWrapper; first | (rw [if_pos (by decide +kernel)]; kernel_rfl) | (rw [if_neg (by decide +kernel)]; exact ⟨rfl, rfl⟩))
    (fun os started H enc _ => lifted os started H enc)
theorem proved : Rows.FnExactMissingPartsSaid := over
#print axioms proved
end Go.Proofs.Ytobaeiihohgajaa.fnExactMissingParts
namespace Go.Proofs.Ytobaeiihohgajaa
/-- The row, under a short name, for the claim. -/
theorem fnExactMissingParts_holds : Rows.FnExactMissingPartsSaid := fnExactMissingParts.proved
end Go.Proofs.Ytobaeiihohgajaa
