/-
  No cell of these rows narrows 'for every input' (looked for: loops, veiled, ifaces, maps, wideKeys, modest, calm, conditions, laid).
  DERIVED. THE GIVEN ROWS OF THIS SEAT. 4 by the template 'for every input the law returns true; each argument reads behind the call as it read before'; 0 by the template 'total and deterministic' (their statements: YtmokdglmbjofeaaTotals.lean).
  GIVEN WITH THE SEED: the statements are not yours to turn. If you find one false, say at which input.
  Laid BY PROGRAM, IN A SANDBOX (cutbox-rows.mjs): the forced cells as the released guide's own fill.sh prints them over the translation 4d0a737a4f67c407… (all of the seat's roots in one cut). By AI agents, Wed Nov 11 2026. No macro, syntax, notation, axiom, sorry.
-/
import Derived.Test.YtmokdglmbjofeaaChecked
import GoSem.Claim
import GoSem.ClaimJoined
import GoSem.ClaimMapViews
import Derived.JoinedTies
import Derived.KernelRfl
namespace Go.Proofs.Ytmokdglmbjofeaa
/- THE CELL 'sum', in the pinned program and in every row, IS THE sha256 OF THE DUMP (.gsa) THAT YtmokdglmbjofeaaProg.lean LOADS. Nothing in Lean hashes anything: it is a label: what it is worth is what the hold of that sum in a sandbox is worth. -/
noncomputable def Try.pinned : Pinned := { name := "ytmokdglmbjofeaa", sum := "4d0a737a4f67c407838cc637bd115e03ce69112e331442395751c4fb45831349", checked := Try.checked }
namespace Rows
def none {H : Type} : Left H := { results := [], args := [] }

/-- 'laws.FnExactSumKit': WHATEVER THE INPUT: true; the input reads as it did. -/
def fnExactSumKitSpec : ChangeSpec := { name := "fnExactSumKit", fn := fun _ => fun
  | [d] => { results := [.lit (.bool true)], args := [d] }
  | _ => none }
def fnExactSumKitRow : OpenClaim := { program := "ytmokdglmbjofeaa", sum := "4d0a737a4f67c407838cc637bd115e03ce69112e331442395751c4fb45831349", func := "loop.example/g00942/laws.FnExactSumKit", spec := "fnExactSumKit", apart := false }
def FnExactSumKitSaid : Prop := fnExactSumKitRow.holds Try.pinned (OpenSpec.ofChange fnExactSumKitSpec)

/-- ITS FALSE NEIGHBOUR: 'it returns false'. Refute it at one input. -/
def fnExactSumKitWrong : ChangeSpec := { name := "fnExactSumKit", fn := fun _ => fun
  | [d] => { results := [.lit (.bool false)], args := [d] }
  | _ => none }
def FnExactSumKitWrongFalsely : Prop := fnExactSumKitRow.holds Try.pinned (OpenSpec.ofChange fnExactSumKitWrong)

/-- 'laws.FnExactSharedKit': WHATEVER THE INPUT: true; the input reads as it did. -/
def fnExactSharedKitSpec : ChangeSpec := { name := "fnExactSharedKit", fn := fun _ => fun
  | [d] => { results := [.lit (.bool true)], args := [d] }
  | _ => none }
def fnExactSharedKitRow : OpenClaim := { program := "ytmokdglmbjofeaa", sum := "4d0a737a4f67c407838cc637bd115e03ce69112e331442395751c4fb45831349", func := "loop.example/g00942/laws.FnExactSharedKit", spec := "fnExactSharedKit", apart := false }
def FnExactSharedKitSaid : Prop := fnExactSharedKitRow.holds Try.pinned (OpenSpec.ofChange fnExactSharedKitSpec)

/-- ITS FALSE NEIGHBOUR: 'it returns false'. Refute it at one input. -/
def fnExactSharedKitWrong : ChangeSpec := { name := "fnExactSharedKit", fn := fun _ => fun
  | [d] => { results := [.lit (.bool false)], args := [d] }
  | _ => none }
def FnExactSharedKitWrongFalsely : Prop := fnExactSharedKitRow.holds Try.pinned (OpenSpec.ofChange fnExactSharedKitWrong)

/-- 'laws.FnExactFewestKits': WHATEVER THE INPUT: true; the input reads as it did. -/
def fnExactFewestKitsSpec : ChangeSpec := { name := "fnExactFewestKits", fn := fun _ => fun
  | [d1, d2] => { results := [.lit (.bool true)], args := [d1, d2] }
  | _ => none }
def fnExactFewestKitsRow : OpenClaim := { program := "ytmokdglmbjofeaa", sum := "4d0a737a4f67c407838cc637bd115e03ce69112e331442395751c4fb45831349", func := "loop.example/g00942/laws.FnExactFewestKits", spec := "fnExactFewestKits", unfollowed := true, recurses := true, apart := false }
def FnExactFewestKitsSaid : Prop := fnExactFewestKitsRow.holds Try.pinned (OpenSpec.ofChange fnExactFewestKitsSpec)

/-- ITS FALSE NEIGHBOUR: 'it returns false'. Refute it at one input. -/
def fnExactFewestKitsWrong : ChangeSpec := { name := "fnExactFewestKits", fn := fun _ => fun
  | [d1, d2] => { results := [.lit (.bool false)], args := [d1, d2] }
  | _ => none }
def FnExactFewestKitsWrongFalsely : Prop := fnExactFewestKitsRow.holds Try.pinned (OpenSpec.ofChange fnExactFewestKitsWrong)

/-- 'laws.FnExactCheapestKits': WHATEVER THE INPUT: true; the input reads as it did. -/
def fnExactCheapestKitsSpec : ChangeSpec := { name := "fnExactCheapestKits", fn := fun _ => fun
  | [d1, d2, d3] => { results := [.lit (.bool true)], args := [d1, d2, d3] }
  | _ => none }
def fnExactCheapestKitsRow : OpenClaim := { program := "ytmokdglmbjofeaa", sum := "4d0a737a4f67c407838cc637bd115e03ce69112e331442395751c4fb45831349", func := "loop.example/g00942/laws.FnExactCheapestKits", spec := "fnExactCheapestKits", unfollowed := true, recurses := true, apart := false }
def FnExactCheapestKitsSaid : Prop := fnExactCheapestKitsRow.holds Try.pinned (OpenSpec.ofChange fnExactCheapestKitsSpec)

/-- ITS FALSE NEIGHBOUR: 'it returns false'. Refute it at one input. -/
def fnExactCheapestKitsWrong : ChangeSpec := { name := "fnExactCheapestKits", fn := fun _ => fun
  | [d1, d2, d3] => { results := [.lit (.bool false)], args := [d1, d2, d3] }
  | _ => none }
def FnExactCheapestKitsWrongFalsely : Prop := fnExactCheapestKitsRow.holds Try.pinned (OpenSpec.ofChange fnExactCheapestKitsWrong)

/- THE SECOND FORM. 'bulk': how many values and letters a reading holds, each counted each time it is reached (what is shared counts as often as it is met; a slice's spare places count too). A statement '..UptoSaid' is the law's where the arguments, and the package variables that the reading takes, are together of bulk at most 1048576: NARROWER than '..Said'. Prove '..Said' where nothing that the law and all that it calls make is longer than what came in: it says more and counts as full. Else prove '..UptoSaid'. A law counts once. -/
mutual
def uptoBulk {H : Type} : DataW H → Nat
  | .lit (.string bytes) => bytes.length + 1
  | .lit _ => 1
  | .nil => 1
  | .ptr d => uptoBulk d + 1
  | .slice elems spare => uptoBulkAll elems + uptoBulkAll spare + 1
  | .agg parts => uptoBulkAll parts + 1
  | .iface _ d => uptoBulk d + 1
  | .map entries => uptoBulkEntries entries + 1
  | .held _ => 1
def uptoBulkAll {H : Type} : List (DataW H) → Nat
  | [] => 0
  | d :: r => uptoBulk d + uptoBulkAll r
def uptoBulkEntries {H : Type} : List (Lit × DataW H) → Nat
  | [] => 0
  | x :: r => uptoBulkEntry x + uptoBulkEntries r
def uptoBulkEntry {H : Type} : Lit × DataW H → Nat
  | (.string bytes, d) => bytes.length + uptoBulk d + 1
  | (_, d) => uptoBulk d + 1
 end
def uptoSmall : (H : Type) → List (DataW H) → Bool := fun _ ds => decide (uptoBulkAll ds ≤ 1048576)
def OpenSpec.upto (s : _root_.Go.ChangeSpec) : _root_.Go.OpenSpec := { _root_.Go.OpenSpec.ofChange s with cond := some uptoSmall }

/-- 'laws.FnExactSumKit', WHERE WHAT IT READS IS OF BULK AT MOST 1048576: true; the input reads as it did. -/
def fnExactSumKitUptoRow : OpenClaim := { program := "ytmokdglmbjofeaa", sum := "4d0a737a4f67c407838cc637bd115e03ce69112e331442395751c4fb45831349", func := "loop.example/g00942/laws.FnExactSumKit", spec := "fnExactSumKit", apart := false, narrowed := true }
def FnExactSumKitUptoSaid : Prop := fnExactSumKitUptoRow.holds Try.pinned (OpenSpec.upto fnExactSumKitSpec)

/-- 'laws.FnExactSharedKit', WHERE WHAT IT READS IS OF BULK AT MOST 1048576: true; the input reads as it did. -/
def fnExactSharedKitUptoRow : OpenClaim := { program := "ytmokdglmbjofeaa", sum := "4d0a737a4f67c407838cc637bd115e03ce69112e331442395751c4fb45831349", func := "loop.example/g00942/laws.FnExactSharedKit", spec := "fnExactSharedKit", apart := false, narrowed := true }
def FnExactSharedKitUptoSaid : Prop := fnExactSharedKitUptoRow.holds Try.pinned (OpenSpec.upto fnExactSharedKitSpec)

/-- 'laws.FnExactFewestKits', WHERE WHAT IT READS IS OF BULK AT MOST 1048576: true; the input reads as it did. -/
def fnExactFewestKitsUptoRow : OpenClaim := { program := "ytmokdglmbjofeaa", sum := "4d0a737a4f67c407838cc637bd115e03ce69112e331442395751c4fb45831349", func := "loop.example/g00942/laws.FnExactFewestKits", spec := "fnExactFewestKits", unfollowed := true, recurses := true, apart := false, narrowed := true }
def FnExactFewestKitsUptoSaid : Prop := fnExactFewestKitsUptoRow.holds Try.pinned (OpenSpec.upto fnExactFewestKitsSpec)

/-- 'laws.FnExactCheapestKits', WHERE WHAT IT READS IS OF BULK AT MOST 1048576: true; the input reads as it did. -/
def fnExactCheapestKitsUptoRow : OpenClaim := { program := "ytmokdglmbjofeaa", sum := "4d0a737a4f67c407838cc637bd115e03ce69112e331442395751c4fb45831349", func := "loop.example/g00942/laws.FnExactCheapestKits", spec := "fnExactCheapestKits", unfollowed := true, recurses := true, apart := false, narrowed := true }
def FnExactCheapestKitsUptoSaid : Prop := fnExactCheapestKitsUptoRow.holds Try.pinned (OpenSpec.upto fnExactCheapestKitsSpec)

end Rows
end Go.Proofs.Ytmokdglmbjofeaa
