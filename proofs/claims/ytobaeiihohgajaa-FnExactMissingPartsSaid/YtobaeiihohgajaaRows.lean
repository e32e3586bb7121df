/-
  No cell of these rows narrows 'for every input' (looked for: loops, veiled, ifaces, maps, wideKeys, modest, calm, conditions, laid).
  DERIVED. THE GIVEN ROWS OF THIS SEAT. 12 by the template 'for every input the law returns true; each argument reads behind the call as it read before'; 0 by the template 'total and deterministic' (their statements: YtobaeiihohgajaaTotals.lean).
  GIVEN WITH THE SEED: the statements are not yours to turn. If you find one false, say at which input.
  Laid BY PROGRAM, IN A SANDBOX (cutbox-rows.mjs): the forced cells as the released guide's own fill.sh prints them over the translation f044addfc326ab53… (all of the seat's roots in one cut). By AI agents, Wed Nov 11 2026. No macro, syntax, notation, axiom, sorry.
-/
import Derived.Test.YtobaeiihohgajaaChecked
import GoSem.Claim
import GoSem.ClaimJoined
import GoSem.ClaimMapViews
import Derived.JoinedTies
import Derived.KernelRfl
namespace Go.Proofs.Ytobaeiihohgajaa
/- THE CELL 'sum', in the pinned program and in every row, IS THE sha256 OF THE DUMP (.gsa) THAT YtobaeiihohgajaaProg.lean LOADS. Nothing in Lean hashes anything: it is a label: what it is worth is what the hold of that sum in a sandbox is worth. -/
noncomputable def Try.pinned : Pinned := { name := "ytobaeiihohgajaa", sum := "f044addfc326ab531aa4c4eb23beaec75e8ead8e0b7ff9f6bf8fc334369a2c45", checked := Try.checked }
namespace Rows
def none {H : Type} : Left H := { results := [], args := [] }

/-- 'laws.FnExactKitPrice': WHATEVER THE INPUT: true; the input reads as it did. -/
def fnExactKitPriceSpec : ChangeSpec := { name := "fnExactKitPrice", fn := fun _ => fun
  | [d1, d2] => { results := [.lit (.bool true)], args := [d1, d2] }
  | _ => none }
def fnExactKitPriceRow : OpenClaim := { program := "ytobaeiihohgajaa", sum := "f044addfc326ab531aa4c4eb23beaec75e8ead8e0b7ff9f6bf8fc334369a2c45", func := "loop.example/g00942/laws.FnExactKitPrice", spec := "fnExactKitPrice", apart := false }
def FnExactKitPriceSaid : Prop := fnExactKitPriceRow.holds Try.pinned (OpenSpec.ofChange fnExactKitPriceSpec)

/-- ITS FALSE NEIGHBOUR: 'it returns false'. Refute it at one input. -/
def fnExactKitPriceWrong : ChangeSpec := { name := "fnExactKitPrice", fn := fun _ => fun
  | [d1, d2] => { results := [.lit (.bool false)], args := [d1, d2] }
  | _ => none }
def FnExactKitPriceWrongFalsely : Prop := fnExactKitPriceRow.holds Try.pinned (OpenSpec.ofChange fnExactKitPriceWrong)

/-- 'laws.FnExactNeededParts': WHATEVER THE INPUT: true; the input reads as it did. -/
def fnExactNeededPartsSpec : ChangeSpec := { name := "fnExactNeededParts", fn := fun _ => fun
  | [d] => { results := [.lit (.bool true)], args := [d] }
  | _ => none }
def fnExactNeededPartsRow : OpenClaim := { program := "ytobaeiihohgajaa", sum := "f044addfc326ab531aa4c4eb23beaec75e8ead8e0b7ff9f6bf8fc334369a2c45", func := "loop.example/g00942/laws.FnExactNeededParts", spec := "fnExactNeededParts", apart := false }
def FnExactNeededPartsSaid : Prop := fnExactNeededPartsRow.holds Try.pinned (OpenSpec.ofChange fnExactNeededPartsSpec)

/-- ITS FALSE NEIGHBOUR: 'it returns false'. Refute it at one input. -/
def fnExactNeededPartsWrong : ChangeSpec := { name := "fnExactNeededParts", fn := fun _ => fun
  | [d] => { results := [.lit (.bool false)], args := [d] }
  | _ => none }
def FnExactNeededPartsWrongFalsely : Prop := fnExactNeededPartsRow.holds Try.pinned (OpenSpec.ofChange fnExactNeededPartsWrong)

/-- 'laws.FnExactCanMake': WHATEVER THE INPUT: true; the input reads as it did. -/
def fnExactCanMakeSpec : ChangeSpec := { name := "fnExactCanMake", fn := fun _ => fun
  | [d1, d2] => { results := [.lit (.bool true)], args := [d1, d2] }
  | _ => none }
def fnExactCanMakeRow : OpenClaim := { program := "ytobaeiihohgajaa", sum := "f044addfc326ab531aa4c4eb23beaec75e8ead8e0b7ff9f6bf8fc334369a2c45", func := "loop.example/g00942/laws.FnExactCanMake", spec := "fnExactCanMake", apart := false }
def FnExactCanMakeSaid : Prop := fnExactCanMakeRow.holds Try.pinned (OpenSpec.ofChange fnExactCanMakeSpec)

/-- ITS FALSE NEIGHBOUR: 'it returns false'. Refute it at one input. -/
def fnExactCanMakeWrong : ChangeSpec := { name := "fnExactCanMake", fn := fun _ => fun
  | [d1, d2] => { results := [.lit (.bool false)], args := [d1, d2] }
  | _ => none }
def FnExactCanMakeWrongFalsely : Prop := fnExactCanMakeRow.holds Try.pinned (OpenSpec.ofChange fnExactCanMakeWrong)

/-- 'laws.FnExactMostCopies': WHATEVER THE INPUT: true; the input reads as it did. -/
def fnExactMostCopiesSpec : ChangeSpec := { name := "fnExactMostCopies", fn := fun _ => fun
  | [d1, d2] => { results := [.lit (.bool true)], args := [d1, d2] }
  | _ => none }
def fnExactMostCopiesRow : OpenClaim := { program := "ytobaeiihohgajaa", sum := "f044addfc326ab531aa4c4eb23beaec75e8ead8e0b7ff9f6bf8fc334369a2c45", func := "loop.example/g00942/laws.FnExactMostCopies", spec := "fnExactMostCopies", apart := false }
def FnExactMostCopiesSaid : Prop := fnExactMostCopiesRow.holds Try.pinned (OpenSpec.ofChange fnExactMostCopiesSpec)

/-- ITS FALSE NEIGHBOUR: 'it returns false'. Refute it at one input. -/
def fnExactMostCopiesWrong : ChangeSpec := { name := "fnExactMostCopies", fn := fun _ => fun
  | [d1, d2] => { results := [.lit (.bool false)], args := [d1, d2] }
  | _ => none }
def FnExactMostCopiesWrongFalsely : Prop := fnExactMostCopiesRow.holds Try.pinned (OpenSpec.ofChange fnExactMostCopiesWrong)

/-- 'laws.FnExactMissingParts': WHATEVER THE INPUT: true; the input reads as it did. -/
def fnExactMissingPartsSpec : ChangeSpec := { name := "fnExactMissingParts", fn := fun _ => fun
  | [d1, d2] => { results := [.lit (.bool true)], args := [d1, d2] }
  | _ => none }
def fnExactMissingPartsRow : OpenClaim := { program := "ytobaeiihohgajaa", sum := "f044addfc326ab531aa4c4eb23beaec75e8ead8e0b7ff9f6bf8fc334369a2c45", func := "loop.example/g00942/laws.FnExactMissingParts", spec := "fnExactMissingParts", apart := false }
def FnExactMissingPartsSaid : Prop := fnExactMissingPartsRow.holds Try.pinned (OpenSpec.ofChange fnExactMissingPartsSpec)

/-- ITS FALSE NEIGHBOUR: 'it returns false'. Refute it at one input. -/
def fnExactMissingPartsWrong : ChangeSpec := { name := "fnExactMissingParts", fn := fun _ => fun
  | [d1, d2] => { results := [.lit (.bool false)], args := [d1, d2] }
  | _ => none }
def FnExactMissingPartsWrongFalsely : Prop := fnExactMissingPartsRow.holds Try.pinned (OpenSpec.ofChange fnExactMissingPartsWrong)

/-- 'laws.FnExactRestOfKit': WHATEVER THE INPUT: true; the input reads as it did. -/
def fnExactRestOfKitSpec : ChangeSpec := { name := "fnExactRestOfKit", fn := fun _ => fun
  | [d1, d2] => { results := [.lit (.bool true)], args := [d1, d2] }
  | _ => none }
def fnExactRestOfKitRow : OpenClaim := { program := "ytobaeiihohgajaa", sum := "f044addfc326ab531aa4c4eb23beaec75e8ead8e0b7ff9f6bf8fc334369a2c45", func := "loop.example/g00942/laws.FnExactRestOfKit", spec := "fnExactRestOfKit", apart := false }
def FnExactRestOfKitSaid : Prop := fnExactRestOfKitRow.holds Try.pinned (OpenSpec.ofChange fnExactRestOfKitSpec)

/-- ITS FALSE NEIGHBOUR: 'it returns false'. Refute it at one input. -/
def fnExactRestOfKitWrong : ChangeSpec := { name := "fnExactRestOfKit", fn := fun _ => fun
  | [d1, d2] => { results := [.lit (.bool false)], args := [d1, d2] }
  | _ => none }
def FnExactRestOfKitWrongFalsely : Prop := fnExactRestOfKitRow.holds Try.pinned (OpenSpec.ofChange fnExactRestOfKitWrong)

/-- 'laws.FnExactFewestKits': WHATEVER THE INPUT: true; the input reads as it did. -/
def fnExactFewestKitsSpec : ChangeSpec := { name := "fnExactFewestKits", fn := fun _ => fun
  | [d1, d2] => { results := [.lit (.bool true)], args := [d1, d2] }
  | _ => none }
def fnExactFewestKitsRow : OpenClaim := { program := "ytobaeiihohgajaa", sum := "f044addfc326ab531aa4c4eb23beaec75e8ead8e0b7ff9f6bf8fc334369a2c45", func := "loop.example/g00942/laws.FnExactFewestKits", spec := "fnExactFewestKits", unfollowed := true, recurses := true, apart := false }
def FnExactFewestKitsSaid : Prop := fnExactFewestKitsRow.holds Try.pinned (OpenSpec.ofChange fnExactFewestKitsSpec)

/-- ITS FALSE NEIGHBOUR: 'it returns false'. Refute it at one input. -/
def fnExactFewestKitsWrong : ChangeSpec := { name := "fnExactFewestKits", fn := fun _ => fun
  | [d1, d2] => { results := [.lit (.bool false)], args := [d1, d2] }
  | _ => none }
def FnExactFewestKitsWrongFalsely : Prop := fnExactFewestKitsRow.holds Try.pinned (OpenSpec.ofChange fnExactFewestKitsWrong)

/-- 'laws.FnExactCheapestKits': WHATEVER THE INPUT: true; the input reads as it did. -/
def fnExactCheapestKitsSpec : ChangeSpec := { name := "fnExactCheapestKits", fn := fun _ => fun
  | [d1, d2, d3] => { results := [.lit (.bool true)], args := [d1, d2, d3] }
  | _ => none }
def fnExactCheapestKitsRow : OpenClaim := { program := "ytobaeiihohgajaa", sum := "f044addfc326ab531aa4c4eb23beaec75e8ead8e0b7ff9f6bf8fc334369a2c45", func := "loop.example/g00942/laws.FnExactCheapestKits", spec := "fnExactCheapestKits", unfollowed := true, recurses := true, apart := false }
def FnExactCheapestKitsSaid : Prop := fnExactCheapestKitsRow.holds Try.pinned (OpenSpec.ofChange fnExactCheapestKitsSpec)

/-- ITS FALSE NEIGHBOUR: 'it returns false'. Refute it at one input. -/
def fnExactCheapestKitsWrong : ChangeSpec := { name := "fnExactCheapestKits", fn := fun _ => fun
  | [d1, d2, d3] => { results := [.lit (.bool false)], args := [d1, d2, d3] }
  | _ => none }
def FnExactCheapestKitsWrongFalsely : Prop := fnExactCheapestKitsRow.holds Try.pinned (OpenSpec.ofChange fnExactCheapestKitsWrong)

/-- 'laws.FnExactSumKit': WHATEVER THE INPUT: true; the input reads as it did. -/
def fnExactSumKitSpec : ChangeSpec := { name := "fnExactSumKit", fn := fun _ => fun
  | [d] => { results := [.lit (.bool true)], args := [d] }
  | _ => none }
def fnExactSumKitRow : OpenClaim := { program := "ytobaeiihohgajaa", sum := "f044addfc326ab531aa4c4eb23beaec75e8ead8e0b7ff9f6bf8fc334369a2c45", func := "loop.example/g00942/laws.FnExactSumKit", spec := "fnExactSumKit", apart := false }
def FnExactSumKitSaid : Prop := fnExactSumKitRow.holds Try.pinned (OpenSpec.ofChange fnExactSumKitSpec)

/-- ITS FALSE NEIGHBOUR: 'it returns false'. Refute it at one input. -/
def fnExactSumKitWrong : ChangeSpec := { name := "fnExactSumKit", fn := fun _ => fun
  | [d] => { results := [.lit (.bool false)], args := [d] }
  | _ => none }
def FnExactSumKitWrongFalsely : Prop := fnExactSumKitRow.holds Try.pinned (OpenSpec.ofChange fnExactSumKitWrong)

/-- 'laws.FnExactSharedKit': WHATEVER THE INPUT: true; the input reads as it did. -/
def fnExactSharedKitSpec : ChangeSpec := { name := "fnExactSharedKit", fn := fun _ => fun
  | [d] => { results := [.lit (.bool true)], args := [d] }
  | _ => none }
def fnExactSharedKitRow : OpenClaim := { program := "ytobaeiihohgajaa", sum := "f044addfc326ab531aa4c4eb23beaec75e8ead8e0b7ff9f6bf8fc334369a2c45", func := "loop.example/g00942/laws.FnExactSharedKit", spec := "fnExactSharedKit", apart := false }
def FnExactSharedKitSaid : Prop := fnExactSharedKitRow.holds Try.pinned (OpenSpec.ofChange fnExactSharedKitSpec)

/-- ITS FALSE NEIGHBOUR: 'it returns false'. Refute it at one input. -/
def fnExactSharedKitWrong : ChangeSpec := { name := "fnExactSharedKit", fn := fun _ => fun
  | [d] => { results := [.lit (.bool false)], args := [d] }
  | _ => none }
def FnExactSharedKitWrongFalsely : Prop := fnExactSharedKitRow.holds Try.pinned (OpenSpec.ofChange fnExactSharedKitWrong)

/-- 'laws.FnKits': WHATEVER THE INPUT: true; the input reads as it did. -/
def fnKitsSpec : ChangeSpec := { name := "fnKits", fn := fun _ => fun
  | [d1, d2] => { results := [.lit (.bool true)], args := [d1, d2] }
  | _ => none }
def fnKitsRow : OpenClaim := { program := "ytobaeiihohgajaa", sum := "f044addfc326ab531aa4c4eb23beaec75e8ead8e0b7ff9f6bf8fc334369a2c45", func := "loop.example/g00942/laws.FnKits", spec := "fnKits", apart := false }
def FnKitsSaid : Prop := fnKitsRow.holds Try.pinned (OpenSpec.ofChange fnKitsSpec)

/-- ITS FALSE NEIGHBOUR: 'it returns false'. Refute it at one input. -/
def fnKitsWrong : ChangeSpec := { name := "fnKits", fn := fun _ => fun
  | [d1, d2] => { results := [.lit (.bool false)], args := [d1, d2] }
  | _ => none }
def FnKitsWrongFalsely : Prop := fnKitsRow.holds Try.pinned (OpenSpec.ofChange fnKitsWrong)

/-- 'laws.FnPurchases': WHATEVER THE INPUT: true; the input reads as it did. -/
def fnPurchasesSpec : ChangeSpec := { name := "fnPurchases", fn := fun _ => fun
  | [d1, d2] => { results := [.lit (.bool true)], args := [d1, d2] }
  | _ => none }
def fnPurchasesRow : OpenClaim := { program := "ytobaeiihohgajaa", sum := "f044addfc326ab531aa4c4eb23beaec75e8ead8e0b7ff9f6bf8fc334369a2c45", func := "loop.example/g00942/laws.FnPurchases", spec := "fnPurchases", unfollowed := true, recurses := true, apart := false }
def FnPurchasesSaid : Prop := fnPurchasesRow.holds Try.pinned (OpenSpec.ofChange fnPurchasesSpec)

/-- ITS FALSE NEIGHBOUR: 'it returns false'. Refute it at one input. -/
def fnPurchasesWrong : ChangeSpec := { name := "fnPurchases", fn := fun _ => fun
  | [d1, d2] => { results := [.lit (.bool false)], args := [d1, d2] }
  | _ => none }
def FnPurchasesWrongFalsely : Prop := fnPurchasesRow.holds Try.pinned (OpenSpec.ofChange fnPurchasesWrong)

/- THE SECOND FORM. 'bulk': how many values and letters a reading holds, each counted each time it is reached (what is shared counts as often as it is met; a slice's spare places count too). A statement '..UptoSaid' is the law's where the arguments, and the package variables that the reading takes, are together of bulk at most 1048576: NARROWER than '..Said'. Prove '..Said' where nothing that the law and all that it calls make is longer than what came in: it says more and counts as full. Else prove '..UptoSaid'. A law counts once. -/
mutual
def uptoBulk {H : Type} : DataW H → Nat
  | .lit (.string bytes) => bytes.length + 1
  | .lit _ => 1
  | .nil => 1
  | .ptr d => uptoBulk d + 1
  | .slice elems spare => uptoBulkAll elems + uptoBulkAll spare + 1
  | .agg parts => uptoBulkAll parts + 1
  | .iface _ d => uptoBulk d + 1
  | .map entries => uptoBulkEntries entries + 1
  | .held _ => 1
def uptoBulkAll {H : Type} : List (DataW H) → Nat
  | [] => 0
  | d :: r => uptoBulk d + uptoBulkAll r
def uptoBulkEntries {H : Type} : List (Lit × DataW H) → Nat
  | [] => 0
  | x :: r => uptoBulkEntry x + uptoBulkEntries r
def uptoBulkEntry {H : Type} : Lit × DataW H → Nat
  | (.string bytes, d) => bytes.length + uptoBulk d + 1
  | (_, d) => uptoBulk d + 1
 end
def uptoSmall : (H : Type) → List (DataW H) → Bool := fun _ ds => decide (uptoBulkAll ds ≤ 1048576)
def OpenSpec.upto (s : _root_.Go.ChangeSpec) : _root_.Go.OpenSpec := { _root_.Go.OpenSpec.ofChange s with cond := some uptoSmall }

/-- 'laws.FnExactKitPrice', WHERE WHAT IT READS IS OF BULK AT MOST 1048576: true; the input reads as it did. -/
def fnExactKitPriceUptoRow : OpenClaim := { program := "ytobaeiihohgajaa", sum := "f044addfc326ab531aa4c4eb23beaec75e8ead8e0b7ff9f6bf8fc334369a2c45", func := "loop.example/g00942/laws.FnExactKitPrice", spec := "fnExactKitPrice", apart := false, narrowed := true }
def FnExactKitPriceUptoSaid : Prop := fnExactKitPriceUptoRow.holds Try.pinned (OpenSpec.upto fnExactKitPriceSpec)

/-- 'laws.FnExactNeededParts', WHERE WHAT IT READS IS OF BULK AT MOST 1048576: true; the input reads as it did. -/
def fnExactNeededPartsUptoRow : OpenClaim := { program := "ytobaeiihohgajaa", sum := "f044addfc326ab531aa4c4eb23beaec75e8ead8e0b7ff9f6bf8fc334369a2c45", func := "loop.example/g00942/laws.FnExactNeededParts", spec := "fnExactNeededParts", apart := false, narrowed := true }
def FnExactNeededPartsUptoSaid : Prop := fnExactNeededPartsUptoRow.holds Try.pinned (OpenSpec.upto fnExactNeededPartsSpec)

/-- 'laws.FnExactCanMake', WHERE WHAT IT READS IS OF BULK AT MOST 1048576: true; the input reads as it did. -/
def fnExactCanMakeUptoRow : OpenClaim := { program := "ytobaeiihohgajaa", sum := "f044addfc326ab531aa4c4eb23beaec75e8ead8e0b7ff9f6bf8fc334369a2c45", func := "loop.example/g00942/laws.FnExactCanMake", spec := "fnExactCanMake", apart := false, narrowed := true }
def FnExactCanMakeUptoSaid : Prop := fnExactCanMakeUptoRow.holds Try.pinned (OpenSpec.upto fnExactCanMakeSpec)

/-- 'laws.FnExactMostCopies', WHERE WHAT IT READS IS OF BULK AT MOST 1048576: true; the input reads as it did. -/
def fnExactMostCopiesUptoRow : OpenClaim := { program := "ytobaeiihohgajaa", sum := "f044addfc326ab531aa4c4eb23beaec75e8ead8e0b7ff9f6bf8fc334369a2c45", func := "loop.example/g00942/laws.FnExactMostCopies", spec := "fnExactMostCopies", apart := false, narrowed := true }
def FnExactMostCopiesUptoSaid : Prop := fnExactMostCopiesUptoRow.holds Try.pinned (OpenSpec.upto fnExactMostCopiesSpec)

/-- 'laws.FnExactMissingParts', WHERE WHAT IT READS IS OF BULK AT MOST 1048576: true; the input reads as it did. -/
def fnExactMissingPartsUptoRow : OpenClaim := { program := "ytobaeiihohgajaa", sum := "f044addfc326ab531aa4c4eb23beaec75e8ead8e0b7ff9f6bf8fc334369a2c45", func := "loop.example/g00942/laws.FnExactMissingParts", spec := "fnExactMissingParts", apart := false, narrowed := true }
def FnExactMissingPartsUptoSaid : Prop := fnExactMissingPartsUptoRow.holds Try.pinned (OpenSpec.upto fnExactMissingPartsSpec)

/-- 'laws.FnExactRestOfKit', WHERE WHAT IT READS IS OF BULK AT MOST 1048576: true; the input reads as it did. -/
def fnExactRestOfKitUptoRow : OpenClaim := { program := "ytobaeiihohgajaa", sum := "f044addfc326ab531aa4c4eb23beaec75e8ead8e0b7ff9f6bf8fc334369a2c45", func := "loop.example/g00942/laws.FnExactRestOfKit", spec := "fnExactRestOfKit", apart := false, narrowed := true }
def FnExactRestOfKitUptoSaid : Prop := fnExactRestOfKitUptoRow.holds Try.pinned (OpenSpec.upto fnExactRestOfKitSpec)

/-- 'laws.FnExactFewestKits', WHERE WHAT IT READS IS OF BULK AT MOST 1048576: true; the input reads as it did. -/
def fnExactFewestKitsUptoRow : OpenClaim := { program := "ytobaeiihohgajaa", sum := "f044addfc326ab531aa4c4eb23beaec75e8ead8e0b7ff9f6bf8fc334369a2c45", func := "loop.example/g00942/laws.FnExactFewestKits", spec := "fnExactFewestKits", unfollowed := true, recurses := true, apart := false, narrowed := true }
def FnExactFewestKitsUptoSaid : Prop := fnExactFewestKitsUptoRow.holds Try.pinned (OpenSpec.upto fnExactFewestKitsSpec)

/-- 'laws.FnExactCheapestKits', WHERE WHAT IT READS IS OF BULK AT MOST 1048576: true; the input reads as it did. -/
def fnExactCheapestKitsUptoRow : OpenClaim := { program := "ytobaeiihohgajaa", sum := "f044addfc326ab531aa4c4eb23beaec75e8ead8e0b7ff9f6bf8fc334369a2c45", func := "loop.example/g00942/laws.FnExactCheapestKits", spec := "fnExactCheapestKits", unfollowed := true, recurses := true, apart := false, narrowed := true }
def FnExactCheapestKitsUptoSaid : Prop := fnExactCheapestKitsUptoRow.holds Try.pinned (OpenSpec.upto fnExactCheapestKitsSpec)

/-- 'laws.FnExactSumKit', WHERE WHAT IT READS IS OF BULK AT MOST 1048576: true; the input reads as it did. -/
def fnExactSumKitUptoRow : OpenClaim := { program := "ytobaeiihohgajaa", sum := "f044addfc326ab531aa4c4eb23beaec75e8ead8e0b7ff9f6bf8fc334369a2c45", func := "loop.example/g00942/laws.FnExactSumKit", spec := "fnExactSumKit", apart := false, narrowed := true }
def FnExactSumKitUptoSaid : Prop := fnExactSumKitUptoRow.holds Try.pinned (OpenSpec.upto fnExactSumKitSpec)

/-- 'laws.FnExactSharedKit', WHERE WHAT IT READS IS OF BULK AT MOST 1048576: true; the input reads as it did. -/
def fnExactSharedKitUptoRow : OpenClaim := { program := "ytobaeiihohgajaa", sum := "f044addfc326ab531aa4c4eb23beaec75e8ead8e0b7ff9f6bf8fc334369a2c45", func := "loop.example/g00942/laws.FnExactSharedKit", spec := "fnExactSharedKit", apart := false, narrowed := true }
def FnExactSharedKitUptoSaid : Prop := fnExactSharedKitUptoRow.holds Try.pinned (OpenSpec.upto fnExactSharedKitSpec)

/-- 'laws.FnKits', WHERE WHAT IT READS IS OF BULK AT MOST 1048576: true; the input reads as it did. -/
def fnKitsUptoRow : OpenClaim := { program := "ytobaeiihohgajaa", sum := "f044addfc326ab531aa4c4eb23beaec75e8ead8e0b7ff9f6bf8fc334369a2c45", func := "loop.example/g00942/laws.FnKits", spec := "fnKits", apart := false, narrowed := true }
def FnKitsUptoSaid : Prop := fnKitsUptoRow.holds Try.pinned (OpenSpec.upto fnKitsSpec)

/-- 'laws.FnPurchases', WHERE WHAT IT READS IS OF BULK AT MOST 1048576: true; the input reads as it did. -/
def fnPurchasesUptoRow : OpenClaim := { program := "ytobaeiihohgajaa", sum := "f044addfc326ab531aa4c4eb23beaec75e8ead8e0b7ff9f6bf8fc334369a2c45", func := "loop.example/g00942/laws.FnPurchases", spec := "fnPurchases", unfollowed := true, recurses := true, apart := false, narrowed := true }
def FnPurchasesUptoSaid : Prop := fnPurchasesUptoRow.holds Try.pinned (OpenSpec.upto fnPurchasesSpec)

end Rows
end Go.Proofs.Ytobaeiihohgajaa
