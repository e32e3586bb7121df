/- The law FnExactSharedKit: for whatever input that can be read as data the call returns true, and each argument reads as it read before. No condition. -/
import Derived.Test.YtmokdglmbjofeaaRows
import Derived.Test.YtmokdglmbjofeaaMFnExactSharedKit1
import Derived.Test.YtmokdglmbjofeaaMPureFnExactSharedKit
import Derived.Test.YtmokdglmbjofeaaMOpenFnExactSharedKit
import Derived.WalkKit
import Derived.ProofKit
import Derived.OpenShut
import Derived.ShutString
import Derived.ChangeOld
import Derived.Below
import Derived.SizedLaws
namespace Go.Proofs.Ytmokdglmbjofeaa.fnExactSharedKit
open Go.ChangeShapes Go.WideShapes Go.ChangeAt Go.RowKit Go.Proofs.Ytmokdglmbjofeaa.Pall Go.Proofs.Ytmokdglmbjofeaa.Open Go.Proofs.YtmokdglmbjofeaaW.PrintWords
open Go.ChangeMaps (open_string shut_string)
set_option linter.unusedVariables false
theorem own : ownKnob Try.prog.godebug = none := by kernel_rfl
theorem laidOut : laidOutB Try.prog = true := by kernel_rfl
set_option maxRecDepth 100000 in
theorem lifted (os : Os) (started : os.Started) (H : Type) (enc : TypeId × Value → H) :
    ReturnsInHanded {} Try.checked os 4 .any (Rows.fnExactSharedKitSpec.pre6 enc Try.prog Try.f4 Rows.fnExactSharedKitRow.domain false) (Rows.fnExactSharedKitSpec.post enc Try.prog Try.f4 false true false false) := by
  refine returnsInHanded_of_change_sized (C := Try.checked) own started (by kernel_rfl) Try.func4
    (ChangeSpec.witness6 (enc := enc) (C := Try.checked) false ⟨#[], #[.slice none 0 0], []⟩ 8 (by kernel_rfl) (by kernel_rfl) (by kernel_rfl) (by kernel_rfl)) ?_
  intro W base args ds gs before hval0 hW hcnd hsz0 _
  have hval : ∀ (j : Nat) t v, Try.f4.params[j]? = some t → args[j]? = some v → Value.okWide Try.prog W .any base t v := hval0
  have hW' := hW
  obtain ⟨p, q, hA0, hV, rfl, hfz, hnd⟩ := hW
  have hA : DataW.TrodAll enc Try.prog W 0 (fun _ => true) true Try.f4.params.toList args.toList ds p := hA0
  rw [Try.params4] at hA hval
  obtain ⟨v0, vs0, d0, ds0, p0, q0, hargs, rfl, rfl, h0, r0⟩ := trodAll_cons hA
  obtain ⟨rfl, rfl, rfl⟩ := trodAll_nil r0
  obtain rfl : args = #[v0] := by cases args; simp_all
  obtain ⟨rfl, rfl⟩ := trodVars_none hV
  have k0 := h0
  have lt0 : ∀ x ∈ p0, x.block < W.heap.size := by obtain ⟨m, hm⟩ := k0; exact DataW.trod_lt m _ _ _ hm
  obtain ⟨a0, len0, cap0, rfl⟩ := okWide_slice Try.underlying22 (hval 0 22 v0 rfl rfl)
  obtain ⟨l0, rfl, hc0, hr0, wl0, we0⟩ := slice_arg (opens_slice 47 Try.underlying22 (by kernel_rfl) (opens_iso (opens_struct3 Try.underlying47 (by kernel_rfl) rfl rfl rfl (opens_int (k := .i64) Try.underlying3 (by kernel_rfl)) (opens_int (k := .i64) Try.underlying3 (by kernel_rfl)) (opens_slice 77 Try.underlying45 (by kernel_rfl) (opens_iso (opens_struct2 Try.underlying77 (by kernel_rfl) rfl rfl (opens_int (k := .i64) Try.underlying3 (by kernel_rfl)) (opens_int (k := .i64) Try.underlying3 (by kernel_rfl))) (fun x : S77 => (x.f0, x.f1)) (fun y => ⟨y.1, y.2⟩) (fun _ => rfl)))) (fun x : S47 => (x.f0, x.f1, x.f2)) (fun y => ⟨y.1, y.2.1, y.2.2⟩) (fun _ => rfl))) h0
  clear hA0 hval0 hsz0
  obtain ⟨k, hk⟩ := Pure.FnExactSharedKit l0 wl0 we0
  refine (laws_FnExactSharedKit.calls k _ _ _ true W hr0 hc0 hk).mono fun e W' ⟨he, bel⟩ => ?_
  subst he
  exact ⟨_, rfl, _, _, _, [], _, [], hW', trodAll_mk1 (shut_bool Try.underlying4 _), (trodAll_cons_mk (Below.trod laidOut (by kernel_rfl) (of_decide_eq_true (by kernel_rfl)) k0 bel lt0) trodAll_mk0), rfl, bel.frame _, fun h => by cases h⟩
theorem over : Rows.fnExactSharedKitRow.holds Try.pinned (OpenSpec.ofChange Rows.fnExactSharedKitSpec) :=
  OpenClaim.holds_of_wide 4 Try.f4 rfl rfl rfl rfl rfl rfl rfl ⟨rfl, rfl, rfl, rfl, rfl⟩ rfl rfl rfl rfl rfl (by kernel_rfl) Try.func4 (by kernel_rfl)
    (of_decide_eq_true (by kernel_rfl)) (by unfold Func.isWrapper; first | (rw [if_pos (by decide +kernel)]; kernel_rfl) | (rw [if_neg (by decide +kernel)]; exact ⟨rfl, rfl⟩))
    (fun os started H enc _ => lifted os started H enc)
theorem proved : Rows.FnExactSharedKitSaid := over
#print axioms proved
end Go.Proofs.Ytmokdglmbjofeaa.fnExactSharedKit
namespace Go.Proofs.Ytmokdglmbjofeaa
theorem fnExactSharedKit_holds : Rows.FnExactSharedKitSaid := fnExactSharedKit.proved
end Go.Proofs.Ytmokdglmbjofeaa
