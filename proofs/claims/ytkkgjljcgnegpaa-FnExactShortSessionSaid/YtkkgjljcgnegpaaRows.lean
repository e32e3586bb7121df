/-
  No cell of these rows narrows 'for every input' (looked for: loops, veiled, ifaces, maps, wideKeys, modest, calm, conditions, laid).
  DERIVED. THE GIVEN ROWS OF THIS SEAT. 11 by the template 'for every input the law returns true; each argument reads behind the call as it read before'; 0 by the template 'total and deterministic' (their statements: YtkkgjljcgnegpaaTotals.lean).
  GIVEN WITH THE SEED: the statements are not yours to turn. If you find one false, say at which input.
  Laid BY PROGRAM, IN A SANDBOX (cutbox-rows.mjs): the forced cells as the released guide's own fill.sh prints them over the translation 3689adae45a40700… (all of the seat's roots in one cut). By AI agents, Wed Nov 11 2026. No macro, syntax, notation, axiom, sorry.
-/
import Derived.Test.YtkkgjljcgnegpaaChecked
import GoSem.Claim
import GoSem.ClaimJoined
import GoSem.ClaimMapViews
import Derived.JoinedTies
import Derived.KernelRfl
namespace Go.Proofs.Ytkkgjljcgnegpaa
/- THE CELL 'sum', in the pinned program and in every row, IS THE sha256 OF THE DUMP (.gsa) THAT YtkkgjljcgnegpaaProg.lean LOADS. Nothing in Lean hashes anything: it is a label: what it is worth is what the hold of that sum in a sandbox is worth. -/
noncomputable def Try.pinned : Pinned := { name := "ytkkgjljcgnegpaa", sum := "3689adae45a40700d5cabdc9d99bcef42761dd70260032daa34484e1763848d1", checked := Try.checked }
namespace Rows
def none {H : Type} : Left H := { results := [], args := [] }

/-- 'laws.FnExactIsSession': WHATEVER THE INPUT: true; the input reads as it did. -/
def fnExactIsSessionSpec : ChangeSpec := { name := "fnExactIsSession", fn := fun _ => fun
  | [d] => { results := [.lit (.bool true)], args := [d] }
  | _ => none }
def fnExactIsSessionRow : OpenClaim := { program := "ytkkgjljcgnegpaa", sum := "3689adae45a40700d5cabdc9d99bcef42761dd70260032daa34484e1763848d1", func := "loop.example/g00942/laws.FnExactIsSession", spec := "fnExactIsSession", apart := false }
def FnExactIsSessionSaid : Prop := fnExactIsSessionRow.holds Try.pinned (OpenSpec.ofChange fnExactIsSessionSpec)

/-- ITS FALSE NEIGHBOUR: 'it returns false'. Refute it at one input. -/
def fnExactIsSessionWrong : ChangeSpec := { name := "fnExactIsSession", fn := fun _ => fun
  | [d] => { results := [.lit (.bool false)], args := [d] }
  | _ => none }
def FnExactIsSessionWrongFalsely : Prop := fnExactIsSessionRow.holds Try.pinned (OpenSpec.ofChange fnExactIsSessionWrong)

/-- 'laws.FnExactNewSession': WHATEVER THE INPUT: true; the input reads as it did. -/
def fnExactNewSessionSpec : ChangeSpec := { name := "fnExactNewSession", fn := fun _ => fun
  | [d] => { results := [.lit (.bool true)], args := [d] }
  | _ => none }
def fnExactNewSessionRow : OpenClaim := { program := "ytkkgjljcgnegpaa", sum := "3689adae45a40700d5cabdc9d99bcef42761dd70260032daa34484e1763848d1", func := "loop.example/g00942/laws.FnExactNewSession", spec := "fnExactNewSession", apart := false }
def FnExactNewSessionSaid : Prop := fnExactNewSessionRow.holds Try.pinned (OpenSpec.ofChange fnExactNewSessionSpec)

/-- ITS FALSE NEIGHBOUR: 'it returns false'. Refute it at one input. -/
def fnExactNewSessionWrong : ChangeSpec := { name := "fnExactNewSession", fn := fun _ => fun
  | [d] => { results := [.lit (.bool false)], args := [d] }
  | _ => none }
def FnExactNewSessionWrongFalsely : Prop := fnExactNewSessionRow.holds Try.pinned (OpenSpec.ofChange fnExactNewSessionWrong)

/-- 'laws.FnExactCountActs': WHATEVER THE INPUT: true; the input reads as it did. -/
def fnExactCountActsSpec : ChangeSpec := { name := "fnExactCountActs", fn := fun _ => fun
  | [d] => { results := [.lit (.bool true)], args := [d] }
  | _ => none }
def fnExactCountActsRow : OpenClaim := { program := "ytkkgjljcgnegpaa", sum := "3689adae45a40700d5cabdc9d99bcef42761dd70260032daa34484e1763848d1", func := "loop.example/g00942/laws.FnExactCountActs", spec := "fnExactCountActs", apart := false }
def FnExactCountActsSaid : Prop := fnExactCountActsRow.holds Try.pinned (OpenSpec.ofChange fnExactCountActsSpec)

/-- ITS FALSE NEIGHBOUR: 'it returns false'. Refute it at one input. -/
def fnExactCountActsWrong : ChangeSpec := { name := "fnExactCountActs", fn := fun _ => fun
  | [d] => { results := [.lit (.bool false)], args := [d] }
  | _ => none }
def FnExactCountActsWrongFalsely : Prop := fnExactCountActsRow.holds Try.pinned (OpenSpec.ofChange fnExactCountActsWrong)

/-- 'laws.FnExactRedoAct': WHATEVER THE INPUT: true; the input reads as it did. -/
def fnExactRedoActSpec : ChangeSpec := { name := "fnExactRedoAct", fn := fun _ => fun
  | [d] => { results := [.lit (.bool true)], args := [d] }
  | _ => none }
def fnExactRedoActRow : OpenClaim := { program := "ytkkgjljcgnegpaa", sum := "3689adae45a40700d5cabdc9d99bcef42761dd70260032daa34484e1763848d1", func := "loop.example/g00942/laws.FnExactRedoAct", spec := "fnExactRedoAct", apart := false }
def FnExactRedoActSaid : Prop := fnExactRedoActRow.holds Try.pinned (OpenSpec.ofChange fnExactRedoActSpec)

/-- ITS FALSE NEIGHBOUR: 'it returns false'. Refute it at one input. -/
def fnExactRedoActWrong : ChangeSpec := { name := "fnExactRedoAct", fn := fun _ => fun
  | [d] => { results := [.lit (.bool false)], args := [d] }
  | _ => none }
def FnExactRedoActWrongFalsely : Prop := fnExactRedoActRow.holds Try.pinned (OpenSpec.ofChange fnExactRedoActWrong)

/-- 'laws.FnExactUndoAct': WHATEVER THE INPUT: true; the input reads as it did. -/
def fnExactUndoActSpec : ChangeSpec := { name := "fnExactUndoAct", fn := fun _ => fun
  | [d] => { results := [.lit (.bool true)], args := [d] }
  | _ => none }
def fnExactUndoActRow : OpenClaim := { program := "ytkkgjljcgnegpaa", sum := "3689adae45a40700d5cabdc9d99bcef42761dd70260032daa34484e1763848d1", func := "loop.example/g00942/laws.FnExactUndoAct", spec := "fnExactUndoAct", apart := false }
def FnExactUndoActSaid : Prop := fnExactUndoActRow.holds Try.pinned (OpenSpec.ofChange fnExactUndoActSpec)

/-- ITS FALSE NEIGHBOUR: 'it returns false'. Refute it at one input. -/
def fnExactUndoActWrong : ChangeSpec := { name := "fnExactUndoAct", fn := fun _ => fun
  | [d] => { results := [.lit (.bool false)], args := [d] }
  | _ => none }
def FnExactUndoActWrongFalsely : Prop := fnExactUndoActRow.holds Try.pinned (OpenSpec.ofChange fnExactUndoActWrong)

/-- 'laws.FnExactActOnce': WHATEVER THE INPUT: true; the input reads as it did. -/
def fnExactActOnceSpec : ChangeSpec := { name := "fnExactActOnce", fn := fun _ => fun
  | [d1, d2] => { results := [.lit (.bool true)], args := [d1, d2] }
  | _ => none }
def fnExactActOnceRow : OpenClaim := { program := "ytkkgjljcgnegpaa", sum := "3689adae45a40700d5cabdc9d99bcef42761dd70260032daa34484e1763848d1", func := "loop.example/g00942/laws.FnExactActOnce", spec := "fnExactActOnce", apart := false }
def FnExactActOnceSaid : Prop := fnExactActOnceRow.holds Try.pinned (OpenSpec.ofChange fnExactActOnceSpec)

/-- ITS FALSE NEIGHBOUR: 'it returns false'. Refute it at one input. -/
def fnExactActOnceWrong : ChangeSpec := { name := "fnExactActOnce", fn := fun _ => fun
  | [d1, d2] => { results := [.lit (.bool false)], args := [d1, d2] }
  | _ => none }
def FnExactActOnceWrongFalsely : Prop := fnExactActOnceRow.holds Try.pinned (OpenSpec.ofChange fnExactActOnceWrong)

/-- 'laws.FnExactRunSession': WHATEVER THE INPUT: true; the input reads as it did. -/
def fnExactRunSessionSpec : ChangeSpec := { name := "fnExactRunSession", fn := fun _ => fun
  | [d1, d2] => { results := [.lit (.bool true)], args := [d1, d2] }
  | _ => none }
def fnExactRunSessionRow : OpenClaim := { program := "ytkkgjljcgnegpaa", sum := "3689adae45a40700d5cabdc9d99bcef42761dd70260032daa34484e1763848d1", func := "loop.example/g00942/laws.FnExactRunSession", spec := "fnExactRunSession", apart := false }
def FnExactRunSessionSaid : Prop := fnExactRunSessionRow.holds Try.pinned (OpenSpec.ofChange fnExactRunSessionSpec)

/-- ITS FALSE NEIGHBOUR: 'it returns false'. Refute it at one input. -/
def fnExactRunSessionWrong : ChangeSpec := { name := "fnExactRunSession", fn := fun _ => fun
  | [d1, d2] => { results := [.lit (.bool false)], args := [d1, d2] }
  | _ => none }
def FnExactRunSessionWrongFalsely : Prop := fnExactRunSessionRow.holds Try.pinned (OpenSpec.ofChange fnExactRunSessionWrong)

/-- 'laws.FnExactBoardNow': WHATEVER THE INPUT: true; the input reads as it did. -/
def fnExactBoardNowSpec : ChangeSpec := { name := "fnExactBoardNow", fn := fun _ => fun
  | [d] => { results := [.lit (.bool true)], args := [d] }
  | _ => none }
def fnExactBoardNowRow : OpenClaim := { program := "ytkkgjljcgnegpaa", sum := "3689adae45a40700d5cabdc9d99bcef42761dd70260032daa34484e1763848d1", func := "loop.example/g00942/laws.FnExactBoardNow", spec := "fnExactBoardNow", apart := false }
def FnExactBoardNowSaid : Prop := fnExactBoardNowRow.holds Try.pinned (OpenSpec.ofChange fnExactBoardNowSpec)

/-- ITS FALSE NEIGHBOUR: 'it returns false'. Refute it at one input. -/
def fnExactBoardNowWrong : ChangeSpec := { name := "fnExactBoardNow", fn := fun _ => fun
  | [d] => { results := [.lit (.bool false)], args := [d] }
  | _ => none }
def FnExactBoardNowWrongFalsely : Prop := fnExactBoardNowRow.holds Try.pinned (OpenSpec.ofChange fnExactBoardNowWrong)

/-- 'laws.FnExactFallsSeen': WHATEVER THE INPUT: true; the input reads as it did. -/
def fnExactFallsSeenSpec : ChangeSpec := { name := "fnExactFallsSeen", fn := fun _ => fun
  | [d] => { results := [.lit (.bool true)], args := [d] }
  | _ => none }
def fnExactFallsSeenRow : OpenClaim := { program := "ytkkgjljcgnegpaa", sum := "3689adae45a40700d5cabdc9d99bcef42761dd70260032daa34484e1763848d1", func := "loop.example/g00942/laws.FnExactFallsSeen", spec := "fnExactFallsSeen", apart := false }
def FnExactFallsSeenSaid : Prop := fnExactFallsSeenRow.holds Try.pinned (OpenSpec.ofChange fnExactFallsSeenSpec)

/-- ITS FALSE NEIGHBOUR: 'it returns false'. Refute it at one input. -/
def fnExactFallsSeenWrong : ChangeSpec := { name := "fnExactFallsSeen", fn := fun _ => fun
  | [d] => { results := [.lit (.bool false)], args := [d] }
  | _ => none }
def FnExactFallsSeenWrongFalsely : Prop := fnExactFallsSeenRow.holds Try.pinned (OpenSpec.ofChange fnExactFallsSeenWrong)

/-- 'laws.FnExactShortSession': WHATEVER THE INPUT: true; the input reads as it did. -/
def fnExactShortSessionSpec : ChangeSpec := { name := "fnExactShortSession", fn := fun _ => fun
  | [d] => { results := [.lit (.bool true)], args := [d] }
  | _ => none }
def fnExactShortSessionRow : OpenClaim := { program := "ytkkgjljcgnegpaa", sum := "3689adae45a40700d5cabdc9d99bcef42761dd70260032daa34484e1763848d1", func := "loop.example/g00942/laws.FnExactShortSession", spec := "fnExactShortSession", apart := false }
def FnExactShortSessionSaid : Prop := fnExactShortSessionRow.holds Try.pinned (OpenSpec.ofChange fnExactShortSessionSpec)

/-- ITS FALSE NEIGHBOUR: 'it returns false'. Refute it at one input. -/
def fnExactShortSessionWrong : ChangeSpec := { name := "fnExactShortSession", fn := fun _ => fun
  | [d] => { results := [.lit (.bool false)], args := [d] }
  | _ => none }
def FnExactShortSessionWrongFalsely : Prop := fnExactShortSessionRow.holds Try.pinned (OpenSpec.ofChange fnExactShortSessionWrong)

/-- 'laws.FnSessionActs': WHATEVER THE INPUT: true; the input reads as it did. -/
def fnSessionActsSpec : ChangeSpec := { name := "fnSessionActs", fn := fun _ => fun
  | [d1, d2] => { results := [.lit (.bool true)], args := [d1, d2] }
  | _ => none }
def fnSessionActsRow : OpenClaim := { program := "ytkkgjljcgnegpaa", sum := "3689adae45a40700d5cabdc9d99bcef42761dd70260032daa34484e1763848d1", func := "loop.example/g00942/laws.FnSessionActs", spec := "fnSessionActs", apart := false }
def FnSessionActsSaid : Prop := fnSessionActsRow.holds Try.pinned (OpenSpec.ofChange fnSessionActsSpec)

/-- ITS FALSE NEIGHBOUR: 'it returns false'. Refute it at one input. -/
def fnSessionActsWrong : ChangeSpec := { name := "fnSessionActs", fn := fun _ => fun
  | [d1, d2] => { results := [.lit (.bool false)], args := [d1, d2] }
  | _ => none }
def FnSessionActsWrongFalsely : Prop := fnSessionActsRow.holds Try.pinned (OpenSpec.ofChange fnSessionActsWrong)

/- THE SECOND FORM. 'bulk': how many values and letters a reading holds, each counted each time it is reached (what is shared counts as often as it is met; a slice's spare places count too). A statement '..UptoSaid' is the law's where the arguments, and the package variables that the reading takes, are together of bulk at most 1048576: NARROWER than '..Said'. Prove '..Said' where nothing that the law and all that it calls make is longer than what came in: it says more and counts as full. Else prove '..UptoSaid'. A law counts once. -/
mutual
def uptoBulk {H : Type} : DataW H → Nat
  | .lit (.string bytes) => bytes.length + 1
  | .lit _ => 1
  | .nil => 1
  | .ptr d => uptoBulk d + 1
  | .slice elems spare => uptoBulkAll elems + uptoBulkAll spare + 1
  | .agg parts => uptoBulkAll parts + 1
  | .iface _ d => uptoBulk d + 1
  | .map entries => uptoBulkEntries entries + 1
  | .held _ => 1
def uptoBulkAll {H : Type} : List (DataW H) → Nat
  | [] => 0
  | d :: r => uptoBulk d + uptoBulkAll r
def uptoBulkEntries {H : Type} : List (Lit × DataW H) → Nat
  | [] => 0
  | x :: r => uptoBulkEntry x + uptoBulkEntries r
def uptoBulkEntry {H : Type} : Lit × DataW H → Nat
  | (.string bytes, d) => bytes.length + uptoBulk d + 1
  | (_, d) => uptoBulk d + 1
 end
def uptoSmall : (H : Type) → List (DataW H) → Bool := fun _ ds => decide (uptoBulkAll ds ≤ 1048576)
def OpenSpec.upto (s : _root_.Go.ChangeSpec) : _root_.Go.OpenSpec := { _root_.Go.OpenSpec.ofChange s with cond := some uptoSmall }

/-- 'laws.FnExactIsSession', WHERE WHAT IT READS IS OF BULK AT MOST 1048576: true; the input reads as it did. -/
def fnExactIsSessionUptoRow : OpenClaim := { program := "ytkkgjljcgnegpaa", sum := "3689adae45a40700d5cabdc9d99bcef42761dd70260032daa34484e1763848d1", func := "loop.example/g00942/laws.FnExactIsSession", spec := "fnExactIsSession", apart := false, narrowed := true }
def FnExactIsSessionUptoSaid : Prop := fnExactIsSessionUptoRow.holds Try.pinned (OpenSpec.upto fnExactIsSessionSpec)

/-- 'laws.FnExactNewSession', WHERE WHAT IT READS IS OF BULK AT MOST 1048576: true; the input reads as it did. -/
def fnExactNewSessionUptoRow : OpenClaim := { program := "ytkkgjljcgnegpaa", sum := "3689adae45a40700d5cabdc9d99bcef42761dd70260032daa34484e1763848d1", func := "loop.example/g00942/laws.FnExactNewSession", spec := "fnExactNewSession", apart := false, narrowed := true }
def FnExactNewSessionUptoSaid : Prop := fnExactNewSessionUptoRow.holds Try.pinned (OpenSpec.upto fnExactNewSessionSpec)

/-- 'laws.FnExactCountActs', WHERE WHAT IT READS IS OF BULK AT MOST 1048576: true; the input reads as it did. -/
def fnExactCountActsUptoRow : OpenClaim := { program := "ytkkgjljcgnegpaa", sum := "3689adae45a40700d5cabdc9d99bcef42761dd70260032daa34484e1763848d1", func := "loop.example/g00942/laws.FnExactCountActs", spec := "fnExactCountActs", apart := false, narrowed := true }
def FnExactCountActsUptoSaid : Prop := fnExactCountActsUptoRow.holds Try.pinned (OpenSpec.upto fnExactCountActsSpec)

/-- 'laws.FnExactRedoAct', WHERE WHAT IT READS IS OF BULK AT MOST 1048576: true; the input reads as it did. -/
def fnExactRedoActUptoRow : OpenClaim := { program := "ytkkgjljcgnegpaa", sum := "3689adae45a40700d5cabdc9d99bcef42761dd70260032daa34484e1763848d1", func := "loop.example/g00942/laws.FnExactRedoAct", spec := "fnExactRedoAct", apart := false, narrowed := true }
def FnExactRedoActUptoSaid : Prop := fnExactRedoActUptoRow.holds Try.pinned (OpenSpec.upto fnExactRedoActSpec)

/-- 'laws.FnExactUndoAct', WHERE WHAT IT READS IS OF BULK AT MOST 1048576: true; the input reads as it did. -/
def fnExactUndoActUptoRow : OpenClaim := { program := "ytkkgjljcgnegpaa", sum := "3689adae45a40700d5cabdc9d99bcef42761dd70260032daa34484e1763848d1", func := "loop.example/g00942/laws.FnExactUndoAct", spec := "fnExactUndoAct", apart := false, narrowed := true }
def FnExactUndoActUptoSaid : Prop := fnExactUndoActUptoRow.holds Try.pinned (OpenSpec.upto fnExactUndoActSpec)

/-- 'laws.FnExactActOnce', WHERE WHAT IT READS IS OF BULK AT MOST 1048576: true; the input reads as it did. -/
def fnExactActOnceUptoRow : OpenClaim := { program := "ytkkgjljcgnegpaa", sum := "3689adae45a40700d5cabdc9d99bcef42761dd70260032daa34484e1763848d1", func := "loop.example/g00942/laws.FnExactActOnce", spec := "fnExactActOnce", apart := false, narrowed := true }
def FnExactActOnceUptoSaid : Prop := fnExactActOnceUptoRow.holds Try.pinned (OpenSpec.upto fnExactActOnceSpec)

/-- 'laws.FnExactRunSession', WHERE WHAT IT READS IS OF BULK AT MOST 1048576: true; the input reads as it did. -/
def fnExactRunSessionUptoRow : OpenClaim := { program := "ytkkgjljcgnegpaa", sum := "3689adae45a40700d5cabdc9d99bcef42761dd70260032daa34484e1763848d1", func := "loop.example/g00942/laws.FnExactRunSession", spec := "fnExactRunSession", apart := false, narrowed := true }
def FnExactRunSessionUptoSaid : Prop := fnExactRunSessionUptoRow.holds Try.pinned (OpenSpec.upto fnExactRunSessionSpec)

/-- 'laws.FnExactBoardNow', WHERE WHAT IT READS IS OF BULK AT MOST 1048576: true; the input reads as it did. -/
def fnExactBoardNowUptoRow : OpenClaim := { program := "ytkkgjljcgnegpaa", sum := "3689adae45a40700d5cabdc9d99bcef42761dd70260032daa34484e1763848d1", func := "loop.example/g00942/laws.FnExactBoardNow", spec := "fnExactBoardNow", apart := false, narrowed := true }
def FnExactBoardNowUptoSaid : Prop := fnExactBoardNowUptoRow.holds Try.pinned (OpenSpec.upto fnExactBoardNowSpec)

/-- 'laws.FnExactFallsSeen', WHERE WHAT IT READS IS OF BULK AT MOST 1048576: true; the input reads as it did. -/
def fnExactFallsSeenUptoRow : OpenClaim := { program := "ytkkgjljcgnegpaa", sum := "3689adae45a40700d5cabdc9d99bcef42761dd70260032daa34484e1763848d1", func := "loop.example/g00942/laws.FnExactFallsSeen", spec := "fnExactFallsSeen", apart := false, narrowed := true }
def FnExactFallsSeenUptoSaid : Prop := fnExactFallsSeenUptoRow.holds Try.pinned (OpenSpec.upto fnExactFallsSeenSpec)

/-- 'laws.FnExactShortSession', WHERE WHAT IT READS IS OF BULK AT MOST 1048576: true; the input reads as it did. -/
def fnExactShortSessionUptoRow : OpenClaim := { program := "ytkkgjljcgnegpaa", sum := "3689adae45a40700d5cabdc9d99bcef42761dd70260032daa34484e1763848d1", func := "loop.example/g00942/laws.FnExactShortSession", spec := "fnExactShortSession", apart := false, narrowed := true }
def FnExactShortSessionUptoSaid : Prop := fnExactShortSessionUptoRow.holds Try.pinned (OpenSpec.upto fnExactShortSessionSpec)

/-- 'laws.FnSessionActs', WHERE WHAT IT READS IS OF BULK AT MOST 1048576: true; the input reads as it did. -/
def fnSessionActsUptoRow : OpenClaim := { program := "ytkkgjljcgnegpaa", sum := "3689adae45a40700d5cabdc9d99bcef42761dd70260032daa34484e1763848d1", func := "loop.example/g00942/laws.FnSessionActs", spec := "fnSessionActs", apart := false, narrowed := true }
def FnSessionActsUptoSaid : Prop := fnSessionActsUptoRow.holds Try.pinned (OpenSpec.upto fnSessionActsSpec)

end Rows
end Go.Proofs.Ytkkgjljcgnegpaa
