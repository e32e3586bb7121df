/-
  No cell of these rows narrows 'for every input' (looked for: loops, veiled, ifaces, maps, wideKeys, modest, calm, conditions, laid).
  DERIVED. THE GIVEN ROWS OF THIS SEAT. 13 by the template 'for every input the law returns true; each argument reads behind the call as it read before'; 0 by the template 'total and deterministic' (their statements: YtojblklecncjnaaTotals.lean).
  GIVEN WITH THE SEED: the statements are not yours to turn. If you find one false, say at which input.
  Laid BY PROGRAM, IN A SANDBOX (cutbox-rows.mjs): the forced cells as the released guide's own fill.sh prints them over the translation 9f85caf93299a417… (all of the seat's roots in one cut). By AI agents, Wed Nov 11 2026. No macro, syntax, notation, axiom, sorry.
-/
import Derived.Test.YtojblklecncjnaaChecked
import GoSem.Claim
import GoSem.ClaimJoined
import GoSem.ClaimMapViews
import Derived.JoinedTies
import Derived.KernelRfl
namespace Go.Proofs.Ytojblklecncjnaa
/- THE CELL 'sum', in the pinned program and in every row, IS THE sha256 OF THE DUMP (.gsa) THAT YtojblklecncjnaaProg.lean LOADS. Nothing in Lean hashes anything: it is a label: what it is worth is what the hold of that sum in a sandbox is worth. -/
noncomputable def Try.pinned : Pinned := { name := "ytojblklecncjnaa", sum := "9f85caf93299a4172c6af73dc052f3aa213af728b7088325fc2fcc0c7b603ad9", checked := Try.checked }
namespace Rows
def none {H : Type} : Left H := { results := [], args := [] }

/-- 'laws.FnExactIsJournalRecord': WHATEVER THE INPUT: true; the input reads as it did. -/
def fnExactIsJournalRecordSpec : ChangeSpec := { name := "fnExactIsJournalRecord", fn := fun _ => fun
  | [d] => { results := [.lit (.bool true)], args := [d] }
  | _ => none }
def fnExactIsJournalRecordRow : OpenClaim := { program := "ytojblklecncjnaa", sum := "9f85caf93299a4172c6af73dc052f3aa213af728b7088325fc2fcc0c7b603ad9", func := "loop.example/g00942/laws.FnExactIsJournalRecord", spec := "fnExactIsJournalRecord", apart := false }
def FnExactIsJournalRecordSaid : Prop := fnExactIsJournalRecordRow.holds Try.pinned (OpenSpec.ofChange fnExactIsJournalRecordSpec)

/-- ITS FALSE NEIGHBOUR: 'it returns false'. Refute it at one input. -/
def fnExactIsJournalRecordWrong : ChangeSpec := { name := "fnExactIsJournalRecord", fn := fun _ => fun
  | [d] => { results := [.lit (.bool false)], args := [d] }
  | _ => none }
def FnExactIsJournalRecordWrongFalsely : Prop := fnExactIsJournalRecordRow.holds Try.pinned (OpenSpec.ofChange fnExactIsJournalRecordWrong)

/-- 'laws.FnExactRecordNumbers': WHATEVER THE INPUT: true; the input reads as it did. -/
def fnExactRecordNumbersSpec : ChangeSpec := { name := "fnExactRecordNumbers", fn := fun _ => fun
  | [d1, d2] => { results := [.lit (.bool true)], args := [d1, d2] }
  | _ => none }
def fnExactRecordNumbersRow : OpenClaim := { program := "ytojblklecncjnaa", sum := "9f85caf93299a4172c6af73dc052f3aa213af728b7088325fc2fcc0c7b603ad9", func := "loop.example/g00942/laws.FnExactRecordNumbers", spec := "fnExactRecordNumbers", apart := false }
def FnExactRecordNumbersSaid : Prop := fnExactRecordNumbersRow.holds Try.pinned (OpenSpec.ofChange fnExactRecordNumbersSpec)

/-- ITS FALSE NEIGHBOUR: 'it returns false'. Refute it at one input. -/
def fnExactRecordNumbersWrong : ChangeSpec := { name := "fnExactRecordNumbers", fn := fun _ => fun
  | [d1, d2] => { results := [.lit (.bool false)], args := [d1, d2] }
  | _ => none }
def FnExactRecordNumbersWrongFalsely : Prop := fnExactRecordNumbersRow.holds Try.pinned (OpenSpec.ofChange fnExactRecordNumbersWrong)

/-- 'laws.FnExactChangeNumber': WHATEVER THE INPUT: true; the input reads as it did. -/
def fnExactChangeNumberSpec : ChangeSpec := { name := "fnExactChangeNumber", fn := fun _ => fun
  | [d1, d2, d3] => { results := [.lit (.bool true)], args := [d1, d2, d3] }
  | _ => none }
def fnExactChangeNumberRow : OpenClaim := { program := "ytojblklecncjnaa", sum := "9f85caf93299a4172c6af73dc052f3aa213af728b7088325fc2fcc0c7b603ad9", func := "loop.example/g00942/laws.FnExactChangeNumber", spec := "fnExactChangeNumber", apart := false }
def FnExactChangeNumberSaid : Prop := fnExactChangeNumberRow.holds Try.pinned (OpenSpec.ofChange fnExactChangeNumberSpec)

/-- ITS FALSE NEIGHBOUR: 'it returns false'. Refute it at one input. -/
def fnExactChangeNumberWrong : ChangeSpec := { name := "fnExactChangeNumber", fn := fun _ => fun
  | [d1, d2, d3] => { results := [.lit (.bool false)], args := [d1, d2, d3] }
  | _ => none }
def FnExactChangeNumberWrongFalsely : Prop := fnExactChangeNumberRow.holds Try.pinned (OpenSpec.ofChange fnExactChangeNumberWrong)

/-- 'laws.FnExactCutNumbers': WHATEVER THE INPUT: true; the input reads as it did. -/
def fnExactCutNumbersSpec : ChangeSpec := { name := "fnExactCutNumbers", fn := fun _ => fun
  | [d1, d2] => { results := [.lit (.bool true)], args := [d1, d2] }
  | _ => none }
def fnExactCutNumbersRow : OpenClaim := { program := "ytojblklecncjnaa", sum := "9f85caf93299a4172c6af73dc052f3aa213af728b7088325fc2fcc0c7b603ad9", func := "loop.example/g00942/laws.FnExactCutNumbers", spec := "fnExactCutNumbers", apart := false }
def FnExactCutNumbersSaid : Prop := fnExactCutNumbersRow.holds Try.pinned (OpenSpec.ofChange fnExactCutNumbersSpec)

/-- ITS FALSE NEIGHBOUR: 'it returns false'. Refute it at one input. -/
def fnExactCutNumbersWrong : ChangeSpec := { name := "fnExactCutNumbers", fn := fun _ => fun
  | [d1, d2] => { results := [.lit (.bool false)], args := [d1, d2] }
  | _ => none }
def FnExactCutNumbersWrongFalsely : Prop := fnExactCutNumbersRow.holds Try.pinned (OpenSpec.ofChange fnExactCutNumbersWrong)

/-- 'laws.FnExactCommittedPart': WHATEVER THE INPUT: true; the input reads as it did. -/
def fnExactCommittedPartSpec : ChangeSpec := { name := "fnExactCommittedPart", fn := fun _ => fun
  | [d] => { results := [.lit (.bool true)], args := [d] }
  | _ => none }
def fnExactCommittedPartRow : OpenClaim := { program := "ytojblklecncjnaa", sum := "9f85caf93299a4172c6af73dc052f3aa213af728b7088325fc2fcc0c7b603ad9", func := "loop.example/g00942/laws.FnExactCommittedPart", spec := "fnExactCommittedPart", apart := false }
def FnExactCommittedPartSaid : Prop := fnExactCommittedPartRow.holds Try.pinned (OpenSpec.ofChange fnExactCommittedPartSpec)

/-- ITS FALSE NEIGHBOUR: 'it returns false'. Refute it at one input. -/
def fnExactCommittedPartWrong : ChangeSpec := { name := "fnExactCommittedPart", fn := fun _ => fun
  | [d] => { results := [.lit (.bool false)], args := [d] }
  | _ => none }
def FnExactCommittedPartWrongFalsely : Prop := fnExactCommittedPartRow.holds Try.pinned (OpenSpec.ofChange fnExactCommittedPartWrong)

/-- 'laws.FnExactJournalNumbers': WHATEVER THE INPUT: true; the input reads as it did. -/
def fnExactJournalNumbersSpec : ChangeSpec := { name := "fnExactJournalNumbers", fn := fun _ => fun
  | [d] => { results := [.lit (.bool true)], args := [d] }
  | _ => none }
def fnExactJournalNumbersRow : OpenClaim := { program := "ytojblklecncjnaa", sum := "9f85caf93299a4172c6af73dc052f3aa213af728b7088325fc2fcc0c7b603ad9", func := "loop.example/g00942/laws.FnExactJournalNumbers", spec := "fnExactJournalNumbers", apart := false }
def FnExactJournalNumbersSaid : Prop := fnExactJournalNumbersRow.holds Try.pinned (OpenSpec.ofChange fnExactJournalNumbersSpec)

/-- ITS FALSE NEIGHBOUR: 'it returns false'. Refute it at one input. -/
def fnExactJournalNumbersWrong : ChangeSpec := { name := "fnExactJournalNumbers", fn := fun _ => fun
  | [d] => { results := [.lit (.bool false)], args := [d] }
  | _ => none }
def FnExactJournalNumbersWrongFalsely : Prop := fnExactJournalNumbersRow.holds Try.pinned (OpenSpec.ofChange fnExactJournalNumbersWrong)

/-- 'laws.FnExactCommittedValues': WHATEVER THE INPUT: true; the input reads as it did. -/
def fnExactCommittedValuesSpec : ChangeSpec := { name := "fnExactCommittedValues", fn := fun _ => fun
  | [d] => { results := [.lit (.bool true)], args := [d] }
  | _ => none }
def fnExactCommittedValuesRow : OpenClaim := { program := "ytojblklecncjnaa", sum := "9f85caf93299a4172c6af73dc052f3aa213af728b7088325fc2fcc0c7b603ad9", func := "loop.example/g00942/laws.FnExactCommittedValues", spec := "fnExactCommittedValues", apart := false }
def FnExactCommittedValuesSaid : Prop := fnExactCommittedValuesRow.holds Try.pinned (OpenSpec.ofChange fnExactCommittedValuesSpec)

/-- ITS FALSE NEIGHBOUR: 'it returns false'. Refute it at one input. -/
def fnExactCommittedValuesWrong : ChangeSpec := { name := "fnExactCommittedValues", fn := fun _ => fun
  | [d] => { results := [.lit (.bool false)], args := [d] }
  | _ => none }
def FnExactCommittedValuesWrongFalsely : Prop := fnExactCommittedValuesRow.holds Try.pinned (OpenSpec.ofChange fnExactCommittedValuesWrong)

/-- 'laws.FnExactCompactJournal': WHATEVER THE INPUT: true; the input reads as it did. -/
def fnExactCompactJournalSpec : ChangeSpec := { name := "fnExactCompactJournal", fn := fun _ => fun
  | [d] => { results := [.lit (.bool true)], args := [d] }
  | _ => none }
def fnExactCompactJournalRow : OpenClaim := { program := "ytojblklecncjnaa", sum := "9f85caf93299a4172c6af73dc052f3aa213af728b7088325fc2fcc0c7b603ad9", func := "loop.example/g00942/laws.FnExactCompactJournal", spec := "fnExactCompactJournal", apart := false }
def FnExactCompactJournalSaid : Prop := fnExactCompactJournalRow.holds Try.pinned (OpenSpec.ofChange fnExactCompactJournalSpec)

/-- ITS FALSE NEIGHBOUR: 'it returns false'. Refute it at one input. -/
def fnExactCompactJournalWrong : ChangeSpec := { name := "fnExactCompactJournal", fn := fun _ => fun
  | [d] => { results := [.lit (.bool false)], args := [d] }
  | _ => none }
def FnExactCompactJournalWrongFalsely : Prop := fnExactCompactJournalRow.holds Try.pinned (OpenSpec.ofChange fnExactCompactJournalWrong)

/-- 'laws.FnExactRecoverRecords': WHATEVER THE INPUT: true; the input reads as it did. -/
def fnExactRecoverRecordsSpec : ChangeSpec := { name := "fnExactRecoverRecords", fn := fun _ => fun
  | [d] => { results := [.lit (.bool true)], args := [d] }
  | _ => none }
def fnExactRecoverRecordsRow : OpenClaim := { program := "ytojblklecncjnaa", sum := "9f85caf93299a4172c6af73dc052f3aa213af728b7088325fc2fcc0c7b603ad9", func := "loop.example/g00942/laws.FnExactRecoverRecords", spec := "fnExactRecoverRecords", apart := false }
def FnExactRecoverRecordsSaid : Prop := fnExactRecoverRecordsRow.holds Try.pinned (OpenSpec.ofChange fnExactRecoverRecordsSpec)

/-- ITS FALSE NEIGHBOUR: 'it returns false'. Refute it at one input. -/
def fnExactRecoverRecordsWrong : ChangeSpec := { name := "fnExactRecoverRecords", fn := fun _ => fun
  | [d] => { results := [.lit (.bool false)], args := [d] }
  | _ => none }
def FnExactRecoverRecordsWrongFalsely : Prop := fnExactRecoverRecordsRow.holds Try.pinned (OpenSpec.ofChange fnExactRecoverRecordsWrong)

/-- 'laws.FnExactLostAfterCut': WHATEVER THE INPUT: true; the input reads as it did. -/
def fnExactLostAfterCutSpec : ChangeSpec := { name := "fnExactLostAfterCut", fn := fun _ => fun
  | [d1, d2] => { results := [.lit (.bool true)], args := [d1, d2] }
  | _ => none }
def fnExactLostAfterCutRow : OpenClaim := { program := "ytojblklecncjnaa", sum := "9f85caf93299a4172c6af73dc052f3aa213af728b7088325fc2fcc0c7b603ad9", func := "loop.example/g00942/laws.FnExactLostAfterCut", spec := "fnExactLostAfterCut", apart := false }
def FnExactLostAfterCutSaid : Prop := fnExactLostAfterCutRow.holds Try.pinned (OpenSpec.ofChange fnExactLostAfterCutSpec)

/-- ITS FALSE NEIGHBOUR: 'it returns false'. Refute it at one input. -/
def fnExactLostAfterCutWrong : ChangeSpec := { name := "fnExactLostAfterCut", fn := fun _ => fun
  | [d1, d2] => { results := [.lit (.bool false)], args := [d1, d2] }
  | _ => none }
def FnExactLostAfterCutWrongFalsely : Prop := fnExactLostAfterCutRow.holds Try.pinned (OpenSpec.ofChange fnExactLostAfterCutWrong)

/-- 'laws.FnExactAppendCommit': WHATEVER THE INPUT: true; the input reads as it did. -/
def fnExactAppendCommitSpec : ChangeSpec := { name := "fnExactAppendCommit", fn := fun _ => fun
  | [d1, d2] => { results := [.lit (.bool true)], args := [d1, d2] }
  | _ => none }
def fnExactAppendCommitRow : OpenClaim := { program := "ytojblklecncjnaa", sum := "9f85caf93299a4172c6af73dc052f3aa213af728b7088325fc2fcc0c7b603ad9", func := "loop.example/g00942/laws.FnExactAppendCommit", spec := "fnExactAppendCommit", apart := false }
def FnExactAppendCommitSaid : Prop := fnExactAppendCommitRow.holds Try.pinned (OpenSpec.ofChange fnExactAppendCommitSpec)

/-- ITS FALSE NEIGHBOUR: 'it returns false'. Refute it at one input. -/
def fnExactAppendCommitWrong : ChangeSpec := { name := "fnExactAppendCommit", fn := fun _ => fun
  | [d1, d2] => { results := [.lit (.bool false)], args := [d1, d2] }
  | _ => none }
def FnExactAppendCommitWrongFalsely : Prop := fnExactAppendCommitRow.holds Try.pinned (OpenSpec.ofChange fnExactAppendCommitWrong)

/-- 'laws.FnCuts': WHATEVER THE INPUT: true; the input reads as it did. -/
def fnCutsSpec : ChangeSpec := { name := "fnCuts", fn := fun _ => fun
  | [d1, d2] => { results := [.lit (.bool true)], args := [d1, d2] }
  | _ => none }
def fnCutsRow : OpenClaim := { program := "ytojblklecncjnaa", sum := "9f85caf93299a4172c6af73dc052f3aa213af728b7088325fc2fcc0c7b603ad9", func := "loop.example/g00942/laws.FnCuts", spec := "fnCuts", apart := false }
def FnCutsSaid : Prop := fnCutsRow.holds Try.pinned (OpenSpec.ofChange fnCutsSpec)

/-- ITS FALSE NEIGHBOUR: 'it returns false'. Refute it at one input. -/
def fnCutsWrong : ChangeSpec := { name := "fnCuts", fn := fun _ => fun
  | [d1, d2] => { results := [.lit (.bool false)], args := [d1, d2] }
  | _ => none }
def FnCutsWrongFalsely : Prop := fnCutsRow.holds Try.pinned (OpenSpec.ofChange fnCutsWrong)

/-- 'laws.FnJournal': WHATEVER THE INPUT: true; the input reads as it did. -/
def fnJournalSpec : ChangeSpec := { name := "fnJournal", fn := fun _ => fun
  | [d1, d2] => { results := [.lit (.bool true)], args := [d1, d2] }
  | _ => none }
def fnJournalRow : OpenClaim := { program := "ytojblklecncjnaa", sum := "9f85caf93299a4172c6af73dc052f3aa213af728b7088325fc2fcc0c7b603ad9", func := "loop.example/g00942/laws.FnJournal", spec := "fnJournal", apart := false }
def FnJournalSaid : Prop := fnJournalRow.holds Try.pinned (OpenSpec.ofChange fnJournalSpec)

/-- ITS FALSE NEIGHBOUR: 'it returns false'. Refute it at one input. -/
def fnJournalWrong : ChangeSpec := { name := "fnJournal", fn := fun _ => fun
  | [d1, d2] => { results := [.lit (.bool false)], args := [d1, d2] }
  | _ => none }
def FnJournalWrongFalsely : Prop := fnJournalRow.holds Try.pinned (OpenSpec.ofChange fnJournalWrong)

/- THE SECOND FORM. 'bulk': how many values and letters a reading holds, each counted each time it is reached (what is shared counts as often as it is met; a slice's spare places count too). A statement '..UptoSaid' is the law's where the arguments, and the package variables that the reading takes, are together of bulk at most 1048576: NARROWER than '..Said'. Prove '..Said' where nothing that the law and all that it calls make is longer than what came in: it says more and counts as full. Else prove '..UptoSaid'. A law counts once. -/
mutual
def uptoBulk {H : Type} : DataW H → Nat
  | .lit (.string bytes) => bytes.length + 1
  | .lit _ => 1
  | .nil => 1
  | .ptr d => uptoBulk d + 1
  | .slice elems spare => uptoBulkAll elems + uptoBulkAll spare + 1
  | .agg parts => uptoBulkAll parts + 1
  | .iface _ d => uptoBulk d + 1
  | .map entries => uptoBulkEntries entries + 1
  | .held _ => 1
def uptoBulkAll {H : Type} : List (DataW H) → Nat
  | [] => 0
  | d :: r => uptoBulk d + uptoBulkAll r
def uptoBulkEntries {H : Type} : List (Lit × DataW H) → Nat
  | [] => 0
  | x :: r => uptoBulkEntry x + uptoBulkEntries r
def uptoBulkEntry {H : Type} : Lit × DataW H → Nat
  | (.string bytes, d) => bytes.length + uptoBulk d + 1
  | (_, d) => uptoBulk d + 1
 end
def uptoSmall : (H : Type) → List (DataW H) → Bool := fun _ ds => decide (uptoBulkAll ds ≤ 1048576)
def OpenSpec.upto (s : _root_.Go.ChangeSpec) : _root_.Go.OpenSpec := { _root_.Go.OpenSpec.ofChange s with cond := some uptoSmall }

/-- 'laws.FnExactIsJournalRecord', WHERE WHAT IT READS IS OF BULK AT MOST 1048576: true; the input reads as it did. -/
def fnExactIsJournalRecordUptoRow : OpenClaim := { program := "ytojblklecncjnaa", sum := "9f85caf93299a4172c6af73dc052f3aa213af728b7088325fc2fcc0c7b603ad9", func := "loop.example/g00942/laws.FnExactIsJournalRecord", spec := "fnExactIsJournalRecord", apart := false, narrowed := true }
def FnExactIsJournalRecordUptoSaid : Prop := fnExactIsJournalRecordUptoRow.holds Try.pinned (OpenSpec.upto fnExactIsJournalRecordSpec)

/-- 'laws.FnExactRecordNumbers', WHERE WHAT IT READS IS OF BULK AT MOST 1048576: true; the input reads as it did. -/
def fnExactRecordNumbersUptoRow : OpenClaim := { program := "ytojblklecncjnaa", sum := "9f85caf93299a4172c6af73dc052f3aa213af728b7088325fc2fcc0c7b603ad9", func := "loop.example/g00942/laws.FnExactRecordNumbers", spec := "fnExactRecordNumbers", apart := false, narrowed := true }
def FnExactRecordNumbersUptoSaid : Prop := fnExactRecordNumbersUptoRow.holds Try.pinned (OpenSpec.upto fnExactRecordNumbersSpec)

/-- 'laws.FnExactChangeNumber', WHERE WHAT IT READS IS OF BULK AT MOST 1048576: true; the input reads as it did. -/
def fnExactChangeNumberUptoRow : OpenClaim := { program := "ytojblklecncjnaa", sum := "9f85caf93299a4172c6af73dc052f3aa213af728b7088325fc2fcc0c7b603ad9", func := "loop.example/g00942/laws.FnExactChangeNumber", spec := "fnExactChangeNumber", apart := false, narrowed := true }
def FnExactChangeNumberUptoSaid : Prop := fnExactChangeNumberUptoRow.holds Try.pinned (OpenSpec.upto fnExactChangeNumberSpec)

/-- 'laws.FnExactCutNumbers', WHERE WHAT IT READS IS OF BULK AT MOST 1048576: true; the input reads as it did. -/
def fnExactCutNumbersUptoRow : OpenClaim := { program := "ytojblklecncjnaa", sum := "9f85caf93299a4172c6af73dc052f3aa213af728b7088325fc2fcc0c7b603ad9", func := "loop.example/g00942/laws.FnExactCutNumbers", spec := "fnExactCutNumbers", apart := false, narrowed := true }
def FnExactCutNumbersUptoSaid : Prop := fnExactCutNumbersUptoRow.holds Try.pinned (OpenSpec.upto fnExactCutNumbersSpec)

/-- 'laws.FnExactCommittedPart', WHERE WHAT IT READS IS OF BULK AT MOST 1048576: true; the input reads as it did. -/
def fnExactCommittedPartUptoRow : OpenClaim := { program := "ytojblklecncjnaa", sum := "9f85caf93299a4172c6af73dc052f3aa213af728b7088325fc2fcc0c7b603ad9", func := "loop.example/g00942/laws.FnExactCommittedPart", spec := "fnExactCommittedPart", apart := false, narrowed := true }
def FnExactCommittedPartUptoSaid : Prop := fnExactCommittedPartUptoRow.holds Try.pinned (OpenSpec.upto fnExactCommittedPartSpec)

/-- 'laws.FnExactJournalNumbers', WHERE WHAT IT READS IS OF BULK AT MOST 1048576: true; the input reads as it did. -/
def fnExactJournalNumbersUptoRow : OpenClaim := { program := "ytojblklecncjnaa", sum := "9f85caf93299a4172c6af73dc052f3aa213af728b7088325fc2fcc0c7b603ad9", func := "loop.example/g00942/laws.FnExactJournalNumbers", spec := "fnExactJournalNumbers", apart := false, narrowed := true }
def FnExactJournalNumbersUptoSaid : Prop := fnExactJournalNumbersUptoRow.holds Try.pinned (OpenSpec.upto fnExactJournalNumbersSpec)

/-- 'laws.FnExactCommittedValues', WHERE WHAT IT READS IS OF BULK AT MOST 1048576: true; the input reads as it did. -/
def fnExactCommittedValuesUptoRow : OpenClaim := { program := "ytojblklecncjnaa", sum := "9f85caf93299a4172c6af73dc052f3aa213af728b7088325fc2fcc0c7b603ad9", func := "loop.example/g00942/laws.FnExactCommittedValues", spec := "fnExactCommittedValues", apart := false, narrowed := true }
def FnExactCommittedValuesUptoSaid : Prop := fnExactCommittedValuesUptoRow.holds Try.pinned (OpenSpec.upto fnExactCommittedValuesSpec)

/-- 'laws.FnExactCompactJournal', WHERE WHAT IT READS IS OF BULK AT MOST 1048576: true; the input reads as it did. -/
def fnExactCompactJournalUptoRow : OpenClaim := { program := "ytojblklecncjnaa", sum := "9f85caf93299a4172c6af73dc052f3aa213af728b7088325fc2fcc0c7b603ad9", func := "loop.example/g00942/laws.FnExactCompactJournal", spec := "fnExactCompactJournal", apart := false, narrowed := true }
def FnExactCompactJournalUptoSaid : Prop := fnExactCompactJournalUptoRow.holds Try.pinned (OpenSpec.upto fnExactCompactJournalSpec)

/-- 'laws.FnExactRecoverRecords', WHERE WHAT IT READS IS OF BULK AT MOST 1048576: true; the input reads as it did. -/
def fnExactRecoverRecordsUptoRow : OpenClaim := { program := "ytojblklecncjnaa", sum := "9f85caf93299a4172c6af73dc052f3aa213af728b7088325fc2fcc0c7b603ad9", func := "loop.example/g00942/laws.FnExactRecoverRecords", spec := "fnExactRecoverRecords", apart := false, narrowed := true }
def FnExactRecoverRecordsUptoSaid : Prop := fnExactRecoverRecordsUptoRow.holds Try.pinned (OpenSpec.upto fnExactRecoverRecordsSpec)

/-- 'laws.FnExactLostAfterCut', WHERE WHAT IT READS IS OF BULK AT MOST 1048576: true; the input reads as it did. -/
def fnExactLostAfterCutUptoRow : OpenClaim := { program := "ytojblklecncjnaa", sum := "9f85caf93299a4172c6af73dc052f3aa213af728b7088325fc2fcc0c7b603ad9", func := "loop.example/g00942/laws.FnExactLostAfterCut", spec := "fnExactLostAfterCut", apart := false, narrowed := true }
def FnExactLostAfterCutUptoSaid : Prop := fnExactLostAfterCutUptoRow.holds Try.pinned (OpenSpec.upto fnExactLostAfterCutSpec)

/-- 'laws.FnExactAppendCommit', WHERE WHAT IT READS IS OF BULK AT MOST 1048576: true; the input reads as it did. -/
def fnExactAppendCommitUptoRow : OpenClaim := { program := "ytojblklecncjnaa", sum := "9f85caf93299a4172c6af73dc052f3aa213af728b7088325fc2fcc0c7b603ad9", func := "loop.example/g00942/laws.FnExactAppendCommit", spec := "fnExactAppendCommit", apart := false, narrowed := true }
def FnExactAppendCommitUptoSaid : Prop := fnExactAppendCommitUptoRow.holds Try.pinned (OpenSpec.upto fnExactAppendCommitSpec)

/-- 'laws.FnCuts', WHERE WHAT IT READS IS OF BULK AT MOST 1048576: true; the input reads as it did. -/
def fnCutsUptoRow : OpenClaim := { program := "ytojblklecncjnaa", sum := "9f85caf93299a4172c6af73dc052f3aa213af728b7088325fc2fcc0c7b603ad9", func := "loop.example/g00942/laws.FnCuts", spec := "fnCuts", apart := false, narrowed := true }
def FnCutsUptoSaid : Prop := fnCutsUptoRow.holds Try.pinned (OpenSpec.upto fnCutsSpec)

/-- 'laws.FnJournal', WHERE WHAT IT READS IS OF BULK AT MOST 1048576: true; the input reads as it did. -/
def fnJournalUptoRow : OpenClaim := { program := "ytojblklecncjnaa", sum := "9f85caf93299a4172c6af73dc052f3aa213af728b7088325fc2fcc0c7b603ad9", func := "loop.example/g00942/laws.FnJournal", spec := "fnJournal", apart := false, narrowed := true }
def FnJournalUptoSaid : Prop := fnJournalUptoRow.holds Try.pinned (OpenSpec.upto fnJournalSpec)

end Rows
end Go.Proofs.Ytojblklecncjnaa
