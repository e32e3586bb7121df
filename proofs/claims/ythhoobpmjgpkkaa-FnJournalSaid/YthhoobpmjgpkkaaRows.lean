/-
  No cell of these rows narrows 'for every input' (looked for: loops, veiled, ifaces, maps, wideKeys, modest, calm, conditions, laid).
  DERIVED. THE GIVEN ROWS OF THIS SEAT. 8 by the template 'for every input the law returns true; each argument reads behind the call as it read before'; 0 by the template 'total and deterministic' (their statements: YthhoobpmjgpkkaaTotals.lean).
  GIVEN WITH THE SEED: the statements are not yours to turn. If you find one false, say at which input.
  Laid BY PROGRAM, IN A SANDBOX (cutbox-rows.mjs): the forced cells as the released guide's own fill.sh prints them over the translation 5997162701755f19… (all of the seat's roots in one cut). By AI agents, Wed Nov 11 2026. No macro, syntax, notation, axiom, sorry.
-/
import Derived.Test.YthhoobpmjgpkkaaChecked
import GoSem.Claim
import GoSem.ClaimJoined
import GoSem.ClaimMapViews
import Derived.JoinedTies
import Derived.KernelRfl
namespace Go.Proofs.Ythhoobpmjgpkkaa
/- THE CELL 'sum', in the pinned program and in every row, IS THE sha256 OF THE DUMP (.gsa) THAT YthhoobpmjgpkkaaProg.lean LOADS. Nothing in Lean hashes anything: it is a label: what it is worth is what the hold of that sum in a sandbox is worth. -/
noncomputable def Try.pinned : Pinned := { name := "ythhoobpmjgpkkaa", sum := "5997162701755f19e6a50a2cf8955d728c270d663c8047943d9d898455754495", checked := Try.checked }
namespace Rows
def none {H : Type} : Left H := { results := [], args := [] }

/-- 'laws.FnExactFewestKits': WHATEVER THE INPUT: true; the input reads as it did. -/
def fnExactFewestKitsSpec : ChangeSpec := { name := "fnExactFewestKits", fn := fun _ => fun
  | [d1, d2] => { results := [.lit (.bool true)], args := [d1, d2] }
  | _ => none }
def fnExactFewestKitsRow : OpenClaim := { program := "ythhoobpmjgpkkaa", sum := "5997162701755f19e6a50a2cf8955d728c270d663c8047943d9d898455754495", func := "loop.example/g00942/laws.FnExactFewestKits", spec := "fnExactFewestKits", unfollowed := true, recurses := true, apart := false }
def FnExactFewestKitsSaid : Prop := fnExactFewestKitsRow.holds Try.pinned (OpenSpec.ofChange fnExactFewestKitsSpec)

/-- ITS FALSE NEIGHBOUR: 'it returns false'. Refute it at one input. -/
def fnExactFewestKitsWrong : ChangeSpec := { name := "fnExactFewestKits", fn := fun _ => fun
  | [d1, d2] => { results := [.lit (.bool false)], args := [d1, d2] }
  | _ => none }
def FnExactFewestKitsWrongFalsely : Prop := fnExactFewestKitsRow.holds Try.pinned (OpenSpec.ofChange fnExactFewestKitsWrong)

/-- 'laws.FnExactCheapestKits': WHATEVER THE INPUT: true; the input reads as it did. -/
def fnExactCheapestKitsSpec : ChangeSpec := { name := "fnExactCheapestKits", fn := fun _ => fun
  | [d1, d2, d3] => { results := [.lit (.bool true)], args := [d1, d2, d3] }
  | _ => none }
def fnExactCheapestKitsRow : OpenClaim := { program := "ythhoobpmjgpkkaa", sum := "5997162701755f19e6a50a2cf8955d728c270d663c8047943d9d898455754495", func := "loop.example/g00942/laws.FnExactCheapestKits", spec := "fnExactCheapestKits", unfollowed := true, recurses := true, apart := false }
def FnExactCheapestKitsSaid : Prop := fnExactCheapestKitsRow.holds Try.pinned (OpenSpec.ofChange fnExactCheapestKitsSpec)

/-- ITS FALSE NEIGHBOUR: 'it returns false'. Refute it at one input. -/
def fnExactCheapestKitsWrong : ChangeSpec := { name := "fnExactCheapestKits", fn := fun _ => fun
  | [d1, d2, d3] => { results := [.lit (.bool false)], args := [d1, d2, d3] }
  | _ => none }
def FnExactCheapestKitsWrongFalsely : Prop := fnExactCheapestKitsRow.holds Try.pinned (OpenSpec.ofChange fnExactCheapestKitsWrong)

/-- 'laws.FnShopLoans': WHATEVER THE INPUT: true; the input reads as it did. -/
def fnShopLoansSpec : ChangeSpec := { name := "fnShopLoans", fn := fun _ => fun
  | [d1, d2] => { results := [.lit (.bool true)], args := [d1, d2] }
  | _ => none }
def fnShopLoansRow : OpenClaim := { program := "ythhoobpmjgpkkaa", sum := "5997162701755f19e6a50a2cf8955d728c270d663c8047943d9d898455754495", func := "loop.example/g00942/laws.FnShopLoans", spec := "fnShopLoans", unfollowed := true, recurses := true, apart := false }
def FnShopLoansSaid : Prop := fnShopLoansRow.holds Try.pinned (OpenSpec.ofChange fnShopLoansSpec)

/-- ITS FALSE NEIGHBOUR: 'it returns false'. Refute it at one input. -/
def fnShopLoansWrong : ChangeSpec := { name := "fnShopLoans", fn := fun _ => fun
  | [d1, d2] => { results := [.lit (.bool false)], args := [d1, d2] }
  | _ => none }
def FnShopLoansWrongFalsely : Prop := fnShopLoansRow.holds Try.pinned (OpenSpec.ofChange fnShopLoansWrong)

/-- 'laws.FnCuts': WHATEVER THE INPUT: true; the input reads as it did. -/
def fnCutsSpec : ChangeSpec := { name := "fnCuts", fn := fun _ => fun
  | [d1, d2] => { results := [.lit (.bool true)], args := [d1, d2] }
  | _ => none }
def fnCutsRow : OpenClaim := { program := "ythhoobpmjgpkkaa", sum := "5997162701755f19e6a50a2cf8955d728c270d663c8047943d9d898455754495", func := "loop.example/g00942/laws.FnCuts", spec := "fnCuts", apart := false }
def FnCutsSaid : Prop := fnCutsRow.holds Try.pinned (OpenSpec.ofChange fnCutsSpec)

/-- ITS FALSE NEIGHBOUR: 'it returns false'. Refute it at one input. -/
def fnCutsWrong : ChangeSpec := { name := "fnCuts", fn := fun _ => fun
  | [d1, d2] => { results := [.lit (.bool false)], args := [d1, d2] }
  | _ => none }
def FnCutsWrongFalsely : Prop := fnCutsRow.holds Try.pinned (OpenSpec.ofChange fnCutsWrong)

/-- 'laws.FnKits': WHATEVER THE INPUT: true; the input reads as it did. -/
def fnKitsSpec : ChangeSpec := { name := "fnKits", fn := fun _ => fun
  | [d1, d2] => { results := [.lit (.bool true)], args := [d1, d2] }
  | _ => none }
def fnKitsRow : OpenClaim := { program := "ythhoobpmjgpkkaa", sum := "5997162701755f19e6a50a2cf8955d728c270d663c8047943d9d898455754495", func := "loop.example/g00942/laws.FnKits", spec := "fnKits", apart := false }
def FnKitsSaid : Prop := fnKitsRow.holds Try.pinned (OpenSpec.ofChange fnKitsSpec)

/-- ITS FALSE NEIGHBOUR: 'it returns false'. Refute it at one input. -/
def fnKitsWrong : ChangeSpec := { name := "fnKits", fn := fun _ => fun
  | [d1, d2] => { results := [.lit (.bool false)], args := [d1, d2] }
  | _ => none }
def FnKitsWrongFalsely : Prop := fnKitsRow.holds Try.pinned (OpenSpec.ofChange fnKitsWrong)

/-- 'laws.FnJournal': WHATEVER THE INPUT: true; the input reads as it did. -/
def fnJournalSpec : ChangeSpec := { name := "fnJournal", fn := fun _ => fun
  | [d1, d2] => { results := [.lit (.bool true)], args := [d1, d2] }
  | _ => none }
def fnJournalRow : OpenClaim := { program := "ythhoobpmjgpkkaa", sum := "5997162701755f19e6a50a2cf8955d728c270d663c8047943d9d898455754495", func := "loop.example/g00942/laws.FnJournal", spec := "fnJournal", apart := false }
def FnJournalSaid : Prop := fnJournalRow.holds Try.pinned (OpenSpec.ofChange fnJournalSpec)

/-- ITS FALSE NEIGHBOUR: 'it returns false'. Refute it at one input. -/
def fnJournalWrong : ChangeSpec := { name := "fnJournal", fn := fun _ => fun
  | [d1, d2] => { results := [.lit (.bool false)], args := [d1, d2] }
  | _ => none }
def FnJournalWrongFalsely : Prop := fnJournalRow.holds Try.pinned (OpenSpec.ofChange fnJournalWrong)

/-- 'laws.FnPurchases': WHATEVER THE INPUT: true; the input reads as it did. -/
def fnPurchasesSpec : ChangeSpec := { name := "fnPurchases", fn := fun _ => fun
  | [d1, d2] => { results := [.lit (.bool true)], args := [d1, d2] }
  | _ => none }
def fnPurchasesRow : OpenClaim := { program := "ythhoobpmjgpkkaa", sum := "5997162701755f19e6a50a2cf8955d728c270d663c8047943d9d898455754495", func := "loop.example/g00942/laws.FnPurchases", spec := "fnPurchases", unfollowed := true, recurses := true, apart := false }
def FnPurchasesSaid : Prop := fnPurchasesRow.holds Try.pinned (OpenSpec.ofChange fnPurchasesSpec)

/-- ITS FALSE NEIGHBOUR: 'it returns false'. Refute it at one input. -/
def fnPurchasesWrong : ChangeSpec := { name := "fnPurchases", fn := fun _ => fun
  | [d1, d2] => { results := [.lit (.bool false)], args := [d1, d2] }
  | _ => none }
def FnPurchasesWrongFalsely : Prop := fnPurchasesRow.holds Try.pinned (OpenSpec.ofChange fnPurchasesWrong)

/-- 'laws.FnSessionActs': WHATEVER THE INPUT: true; the input reads as it did. -/
def fnSessionActsSpec : ChangeSpec := { name := "fnSessionActs", fn := fun _ => fun
  | [d1, d2] => { results := [.lit (.bool true)], args := [d1, d2] }
  | _ => none }
def fnSessionActsRow : OpenClaim := { program := "ythhoobpmjgpkkaa", sum := "5997162701755f19e6a50a2cf8955d728c270d663c8047943d9d898455754495", func := "loop.example/g00942/laws.FnSessionActs", spec := "fnSessionActs", apart := false }
def FnSessionActsSaid : Prop := fnSessionActsRow.holds Try.pinned (OpenSpec.ofChange fnSessionActsSpec)

/-- ITS FALSE NEIGHBOUR: 'it returns false'. Refute it at one input. -/
def fnSessionActsWrong : ChangeSpec := { name := "fnSessionActs", fn := fun _ => fun
  | [d1, d2] => { results := [.lit (.bool false)], args := [d1, d2] }
  | _ => none }
def FnSessionActsWrongFalsely : Prop := fnSessionActsRow.holds Try.pinned (OpenSpec.ofChange fnSessionActsWrong)

/- THE SECOND FORM. 'bulk': how many values and letters a reading holds, each counted each time it is reached (what is shared counts as often as it is met; a slice's spare places count too). A statement '..UptoSaid' is the law's where the arguments, and the package variables that the reading takes, are together of bulk at most 1048576: NARROWER than '..Said'. Prove '..Said' where nothing that the law and all that it calls make is longer than what came in: it says more and counts as full. Else prove '..UptoSaid'. A law counts once. -/
mutual
def uptoBulk {H : Type} : DataW H → Nat
  | .lit (.string bytes) => bytes.length + 1
  | .lit _ => 1
  | .nil => 1
  | .ptr d => uptoBulk d + 1
  | .slice elems spare => uptoBulkAll elems + uptoBulkAll spare + 1
  | .agg parts => uptoBulkAll parts + 1
  | .iface _ d => uptoBulk d + 1
  | .map entries => uptoBulkEntries entries + 1
  | .held _ => 1
def uptoBulkAll {H : Type} : List (DataW H) → Nat
  | [] => 0
  | d :: r => uptoBulk d + uptoBulkAll r
def uptoBulkEntries {H : Type} : List (Lit × DataW H) → Nat
  | [] => 0
  | x :: r => uptoBulkEntry x + uptoBulkEntries r
def uptoBulkEntry {H : Type} : Lit × DataW H → Nat
  | (.string bytes, d) => bytes.length + uptoBulk d + 1
  | (_, d) => uptoBulk d + 1
 end
def uptoSmall : (H : Type) → List (DataW H) → Bool := fun _ ds => decide (uptoBulkAll ds ≤ 1048576)
def OpenSpec.upto (s : _root_.Go.ChangeSpec) : _root_.Go.OpenSpec := { _root_.Go.OpenSpec.ofChange s with cond := some uptoSmall }

/-- 'laws.FnExactFewestKits', WHERE WHAT IT READS IS OF BULK AT MOST 1048576: true; the input reads as it did. -/
def fnExactFewestKitsUptoRow : OpenClaim := { program := "ythhoobpmjgpkkaa", sum := "5997162701755f19e6a50a2cf8955d728c270d663c8047943d9d898455754495", func := "loop.example/g00942/laws.FnExactFewestKits", spec := "fnExactFewestKits", unfollowed := true, recurses := true, apart := false, narrowed := true }
def FnExactFewestKitsUptoSaid : Prop := fnExactFewestKitsUptoRow.holds Try.pinned (OpenSpec.upto fnExactFewestKitsSpec)

/-- 'laws.FnExactCheapestKits', WHERE WHAT IT READS IS OF BULK AT MOST 1048576: true; the input reads as it did. -/
def fnExactCheapestKitsUptoRow : OpenClaim := { program := "ythhoobpmjgpkkaa", sum := "5997162701755f19e6a50a2cf8955d728c270d663c8047943d9d898455754495", func := "loop.example/g00942/laws.FnExactCheapestKits", spec := "fnExactCheapestKits", unfollowed := true, recurses := true, apart := false, narrowed := true }
def FnExactCheapestKitsUptoSaid : Prop := fnExactCheapestKitsUptoRow.holds Try.pinned (OpenSpec.upto fnExactCheapestKitsSpec)

/-- 'laws.FnShopLoans', WHERE WHAT IT READS IS OF BULK AT MOST 1048576: true; the input reads as it did. -/
def fnShopLoansUptoRow : OpenClaim := { program := "ythhoobpmjgpkkaa", sum := "5997162701755f19e6a50a2cf8955d728c270d663c8047943d9d898455754495", func := "loop.example/g00942/laws.FnShopLoans", spec := "fnShopLoans", unfollowed := true, recurses := true, apart := false, narrowed := true }
def FnShopLoansUptoSaid : Prop := fnShopLoansUptoRow.holds Try.pinned (OpenSpec.upto fnShopLoansSpec)

/-- 'laws.FnCuts', WHERE WHAT IT READS IS OF BULK AT MOST 1048576: true; the input reads as it did. -/
def fnCutsUptoRow : OpenClaim := { program := "ythhoobpmjgpkkaa", sum := "5997162701755f19e6a50a2cf8955d728c270d663c8047943d9d898455754495", func := "loop.example/g00942/laws.FnCuts", spec := "fnCuts", apart := false, narrowed := true }
def FnCutsUptoSaid : Prop := fnCutsUptoRow.holds Try.pinned (OpenSpec.upto fnCutsSpec)

/-- 'laws.FnKits', WHERE WHAT IT READS IS OF BULK AT MOST 1048576: true; the input reads as it did. -/
def fnKitsUptoRow : OpenClaim := { program := "ythhoobpmjgpkkaa", sum := "5997162701755f19e6a50a2cf8955d728c270d663c8047943d9d898455754495", func := "loop.example/g00942/laws.FnKits", spec := "fnKits", apart := false, narrowed := true }
def FnKitsUptoSaid : Prop := fnKitsUptoRow.holds Try.pinned (OpenSpec.upto fnKitsSpec)

/-- 'laws.FnJournal', WHERE WHAT IT READS IS OF BULK AT MOST 1048576: true; the input reads as it did. -/
def fnJournalUptoRow : OpenClaim := { program := "ythhoobpmjgpkkaa", sum := "5997162701755f19e6a50a2cf8955d728c270d663c8047943d9d898455754495", func := "loop.example/g00942/laws.FnJournal", spec := "fnJournal", apart := false, narrowed := true }
def FnJournalUptoSaid : Prop := fnJournalUptoRow.holds Try.pinned (OpenSpec.upto fnJournalSpec)

/-- 'laws.FnPurchases', WHERE WHAT IT READS IS OF BULK AT MOST 1048576: true; the input reads as it did. -/
def fnPurchasesUptoRow : OpenClaim := { program := "ythhoobpmjgpkkaa", sum := "5997162701755f19e6a50a2cf8955d728c270d663c8047943d9d898455754495", func := "loop.example/g00942/laws.FnPurchases", spec := "fnPurchases", unfollowed := true, recurses := true, apart := false, narrowed := true }
def FnPurchasesUptoSaid : Prop := fnPurchasesUptoRow.holds Try.pinned (OpenSpec.upto fnPurchasesSpec)

/-- 'laws.FnSessionActs', WHERE WHAT IT READS IS OF BULK AT MOST 1048576: true; the input reads as it did. -/
def fnSessionActsUptoRow : OpenClaim := { program := "ythhoobpmjgpkkaa", sum := "5997162701755f19e6a50a2cf8955d728c270d663c8047943d9d898455754495", func := "loop.example/g00942/laws.FnSessionActs", spec := "fnSessionActs", apart := false, narrowed := true }
def FnSessionActsUptoSaid : Prop := fnSessionActsUptoRow.holds Try.pinned (OpenSpec.upto fnSessionActsSpec)

end Rows
end Go.Proofs.Ythhoobpmjgpkkaa
