/-
  DERIVED. GIVEN WITH THE SEED: THE CARDS: each row of YthpjjfhkebppmaaDoorRows.lean that lists a variable, with what it lists TIED to the program's text (the seventh form; the later family's looks); each row that meets fmt, with fmt's text TOLD by the authors' own Lean function (tested against real Go, not proved from fmt's source: count such statements apart). THE CARD IS WHAT COUNTS. Prove the row's statement (the work); the ties are given (YthpjjfhkebppmaaDoorTie.lean); close each card by the builder's one call (the guide's Derived/Test/ToyasCard.lean, 'card_holds'). Laid BY PROGRAM, IN A SANDBOX (cutbox-door.mjs). By AI agents, Wed Nov 11 2026. No macro, syntax, notation, axiom, sorry.
-/
import Derived.Test.YthpjjfhkebppmaaDoorRows
import GoSem.ClaimSeven
namespace Go.Proofs.YthpjjfhkebppmaaDoor
namespace Rows

/-- THE TIED CARD OF 'laws.FnExactShopText'. -/
def fnExactShopTextCard : Claim7 := { stood := { row := fnExactShopTextRow, standIns := [], harness := (true, "2b6f4ae3daf2beeb074bd35acbdbe40a112ae062ab1bde19150336f5e9655279"), looks := false }, kinds := [], alts := [], laidByText := true, laidKinds := [.data, .data, .data], laidTests := true, laidLooks := .later }
def FnExactShopTextCardSaid : Prop := Claim7.holds Tryd.pinned (.plain (OpenSpec.ofChange fnExactShopTextSpec)) fnExactShopTextCard

/-- THE SECOND FORM's CARD OF 'laws.FnExactShopText'. -/
def fnExactShopTextUptoCard : Claim7 := { stood := { row := fnExactShopTextUptoRow, standIns := [], harness := (true, "2b6f4ae3daf2beeb074bd35acbdbe40a112ae062ab1bde19150336f5e9655279"), looks := false }, kinds := [], alts := [], laidByText := true, laidKinds := [.data, .data, .data], laidTests := true, laidLooks := .later }
def FnExactShopTextUptoCardSaid : Prop := Claim7.holds Tryd.pinned (.plain (OpenSpec.upto fnExactShopTextSpec)) fnExactShopTextUptoCard
end Rows
end Go.Proofs.YthpjjfhkebppmaaDoor
