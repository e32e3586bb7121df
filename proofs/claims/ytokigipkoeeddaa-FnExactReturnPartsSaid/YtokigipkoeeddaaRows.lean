/-
  No cell of these rows narrows 'for every input' (looked for: loops, veiled, ifaces, maps, wideKeys, modest, calm, conditions, laid).
  DERIVED. THE GIVEN ROWS OF THIS SEAT. 4 by the template 'for every input the law returns true; each argument reads behind the call as it read before'; 0 by the template 'total and deterministic' (their statements: YtokigipkoeeddaaTotals.lean).
  GIVEN WITH THE SEED: the statements are not yours to turn. If you find one false, say at which input.
  Laid BY PROGRAM, IN A SANDBOX (cutbox-rows.mjs): the forced cells as the released guide's own fill.sh prints them over the translation 6170af08d34c2320… (all of the seat's roots in one cut). By AI agents, Wed Nov 11 2026. No macro, syntax, notation, axiom, sorry.
-/
import Derived.Test.YtokigipkoeeddaaChecked
import GoSem.Claim
import GoSem.ClaimJoined
import GoSem.ClaimMapViews
import Derived.JoinedTies
import Derived.KernelRfl
namespace Go.Proofs.Ytokigipkoeeddaa
/- THE CELL 'sum', in the pinned program and in every row, IS THE sha256 OF THE DUMP (.gsa) THAT YtokigipkoeeddaaProg.lean LOADS. Nothing in Lean hashes anything: it is a label: what it is worth is what the hold of that sum in a sandbox is worth. -/
noncomputable def Try.pinned : Pinned := { name := "ytokigipkoeeddaa", sum := "6170af08d34c2320630a39d56b01147ac3c0459ba45c758a4e64e6e5a4dc05bd", checked := Try.checked }
namespace Rows
def none {H : Type} : Left H := { results := [], args := [] }

/-- 'laws.FnExactLostParts': WHATEVER THE INPUT: true; the input reads as it did. -/
def fnExactLostPartsSpec : ChangeSpec := { name := "fnExactLostParts", fn := fun _ => fun
  | [d1, d2] => { results := [.lit (.bool true)], args := [d1, d2] }
  | _ => none }
def fnExactLostPartsRow : OpenClaim := { program := "ytokigipkoeeddaa", sum := "6170af08d34c2320630a39d56b01147ac3c0459ba45c758a4e64e6e5a4dc05bd", func := "loop.example/g00942/laws.FnExactLostParts", spec := "fnExactLostParts", apart := false }
def FnExactLostPartsSaid : Prop := fnExactLostPartsRow.holds Try.pinned (OpenSpec.ofChange fnExactLostPartsSpec)

/-- ITS FALSE NEIGHBOUR: 'it returns false'. Refute it at one input. -/
def fnExactLostPartsWrong : ChangeSpec := { name := "fnExactLostParts", fn := fun _ => fun
  | [d1, d2] => { results := [.lit (.bool false)], args := [d1, d2] }
  | _ => none }
def FnExactLostPartsWrongFalsely : Prop := fnExactLostPartsRow.holds Try.pinned (OpenSpec.ofChange fnExactLostPartsWrong)

/-- 'laws.FnExactExtendLoan': WHATEVER THE INPUT: true; the input reads as it did. -/
def fnExactExtendLoanSpec : ChangeSpec := { name := "fnExactExtendLoan", fn := fun _ => fun
  | [d1, d2, d3] => { results := [.lit (.bool true)], args := [d1, d2, d3] }
  | _ => none }
def fnExactExtendLoanRow : OpenClaim := { program := "ytokigipkoeeddaa", sum := "6170af08d34c2320630a39d56b01147ac3c0459ba45c758a4e64e6e5a4dc05bd", func := "loop.example/g00942/laws.FnExactExtendLoan", spec := "fnExactExtendLoan", apart := false }
def FnExactExtendLoanSaid : Prop := fnExactExtendLoanRow.holds Try.pinned (OpenSpec.ofChange fnExactExtendLoanSpec)

/-- ITS FALSE NEIGHBOUR: 'it returns false'. Refute it at one input. -/
def fnExactExtendLoanWrong : ChangeSpec := { name := "fnExactExtendLoan", fn := fun _ => fun
  | [d1, d2, d3] => { results := [.lit (.bool false)], args := [d1, d2, d3] }
  | _ => none }
def FnExactExtendLoanWrongFalsely : Prop := fnExactExtendLoanRow.holds Try.pinned (OpenSpec.ofChange fnExactExtendLoanWrong)

/-- 'laws.FnExactLendParts': WHATEVER THE INPUT: true; the input reads as it did. -/
def fnExactLendPartsSpec : ChangeSpec := { name := "fnExactLendParts", fn := fun _ => fun
  | [d1, d2] => { results := [.lit (.bool true)], args := [d1, d2] }
  | _ => none }
def fnExactLendPartsRow : OpenClaim := { program := "ytokigipkoeeddaa", sum := "6170af08d34c2320630a39d56b01147ac3c0459ba45c758a4e64e6e5a4dc05bd", func := "loop.example/g00942/laws.FnExactLendParts", spec := "fnExactLendParts", apart := false }
def FnExactLendPartsSaid : Prop := fnExactLendPartsRow.holds Try.pinned (OpenSpec.ofChange fnExactLendPartsSpec)

/-- ITS FALSE NEIGHBOUR: 'it returns false'. Refute it at one input. -/
def fnExactLendPartsWrong : ChangeSpec := { name := "fnExactLendParts", fn := fun _ => fun
  | [d1, d2] => { results := [.lit (.bool false)], args := [d1, d2] }
  | _ => none }
def FnExactLendPartsWrongFalsely : Prop := fnExactLendPartsRow.holds Try.pinned (OpenSpec.ofChange fnExactLendPartsWrong)

/-- 'laws.FnExactReturnParts': WHATEVER THE INPUT: true; the input reads as it did. -/
def fnExactReturnPartsSpec : ChangeSpec := { name := "fnExactReturnParts", fn := fun _ => fun
  | [d1, d2, d3, d4] => { results := [.lit (.bool true)], args := [d1, d2, d3, d4] }
  | _ => none }
def fnExactReturnPartsRow : OpenClaim := { program := "ytokigipkoeeddaa", sum := "6170af08d34c2320630a39d56b01147ac3c0459ba45c758a4e64e6e5a4dc05bd", func := "loop.example/g00942/laws.FnExactReturnParts", spec := "fnExactReturnParts", unfollowed := true, recurses := true, apart := false }
def FnExactReturnPartsSaid : Prop := fnExactReturnPartsRow.holds Try.pinned (OpenSpec.ofChange fnExactReturnPartsSpec)

/-- ITS FALSE NEIGHBOUR: 'it returns false'. Refute it at one input. -/
def fnExactReturnPartsWrong : ChangeSpec := { name := "fnExactReturnParts", fn := fun _ => fun
  | [d1, d2, d3, d4] => { results := [.lit (.bool false)], args := [d1, d2, d3, d4] }
  | _ => none }
def FnExactReturnPartsWrongFalsely : Prop := fnExactReturnPartsRow.holds Try.pinned (OpenSpec.ofChange fnExactReturnPartsWrong)

/- THE SECOND FORM. 'bulk': how many values and letters a reading holds, each counted each time it is reached (what is shared counts as often as it is met; a slice's spare places count too). A statement '..UptoSaid' is the law's where the arguments, and the package variables that the reading takes, are together of bulk at most 1048576: NARROWER than '..Said'. Prove '..Said' where nothing that the law and all that it calls make is longer than what came in: it says more and counts as full. Else prove '..UptoSaid'. A law counts once. -/
mutual
def uptoBulk {H : Type} : DataW H → Nat
  | .lit (.string bytes) => bytes.length + 1
  | .lit _ => 1
  | .nil => 1
  | .ptr d => uptoBulk d + 1
  | .slice elems spare => uptoBulkAll elems + uptoBulkAll spare + 1
  | .agg parts => uptoBulkAll parts + 1
  | .iface _ d => uptoBulk d + 1
  | .map entries => uptoBulkEntries entries + 1
  | .held _ => 1
def uptoBulkAll {H : Type} : List (DataW H) → Nat
  | [] => 0
  | d :: r => uptoBulk d + uptoBulkAll r
def uptoBulkEntries {H : Type} : List (Lit × DataW H) → Nat
  | [] => 0
  | x :: r => uptoBulkEntry x + uptoBulkEntries r
def uptoBulkEntry {H : Type} : Lit × DataW H → Nat
  | (.string bytes, d) => bytes.length + uptoBulk d + 1
  | (_, d) => uptoBulk d + 1
 end
def uptoSmall : (H : Type) → List (DataW H) → Bool := fun _ ds => decide (uptoBulkAll ds ≤ 1048576)
def OpenSpec.upto (s : _root_.Go.ChangeSpec) : _root_.Go.OpenSpec := { _root_.Go.OpenSpec.ofChange s with cond := some uptoSmall }

/-- 'laws.FnExactLostParts', WHERE WHAT IT READS IS OF BULK AT MOST 1048576: true; the input reads as it did. -/
def fnExactLostPartsUptoRow : OpenClaim := { program := "ytokigipkoeeddaa", sum := "6170af08d34c2320630a39d56b01147ac3c0459ba45c758a4e64e6e5a4dc05bd", func := "loop.example/g00942/laws.FnExactLostParts", spec := "fnExactLostParts", apart := false, narrowed := true }
def FnExactLostPartsUptoSaid : Prop := fnExactLostPartsUptoRow.holds Try.pinned (OpenSpec.upto fnExactLostPartsSpec)

/-- 'laws.FnExactExtendLoan', WHERE WHAT IT READS IS OF BULK AT MOST 1048576: true; the input reads as it did. -/
def fnExactExtendLoanUptoRow : OpenClaim := { program := "ytokigipkoeeddaa", sum := "6170af08d34c2320630a39d56b01147ac3c0459ba45c758a4e64e6e5a4dc05bd", func := "loop.example/g00942/laws.FnExactExtendLoan", spec := "fnExactExtendLoan", apart := false, narrowed := true }
def FnExactExtendLoanUptoSaid : Prop := fnExactExtendLoanUptoRow.holds Try.pinned (OpenSpec.upto fnExactExtendLoanSpec)

/-- 'laws.FnExactLendParts', WHERE WHAT IT READS IS OF BULK AT MOST 1048576: true; the input reads as it did. -/
def fnExactLendPartsUptoRow : OpenClaim := { program := "ytokigipkoeeddaa", sum := "6170af08d34c2320630a39d56b01147ac3c0459ba45c758a4e64e6e5a4dc05bd", func := "loop.example/g00942/laws.FnExactLendParts", spec := "fnExactLendParts", apart := false, narrowed := true }
def FnExactLendPartsUptoSaid : Prop := fnExactLendPartsUptoRow.holds Try.pinned (OpenSpec.upto fnExactLendPartsSpec)

/-- 'laws.FnExactReturnParts', WHERE WHAT IT READS IS OF BULK AT MOST 1048576: true; the input reads as it did. -/
def fnExactReturnPartsUptoRow : OpenClaim := { program := "ytokigipkoeeddaa", sum := "6170af08d34c2320630a39d56b01147ac3c0459ba45c758a4e64e6e5a4dc05bd", func := "loop.example/g00942/laws.FnExactReturnParts", spec := "fnExactReturnParts", unfollowed := true, recurses := true, apart := false, narrowed := true }
def FnExactReturnPartsUptoSaid : Prop := fnExactReturnPartsUptoRow.holds Try.pinned (OpenSpec.upto fnExactReturnPartsSpec)

end Rows
end Go.Proofs.Ytokigipkoeeddaa
