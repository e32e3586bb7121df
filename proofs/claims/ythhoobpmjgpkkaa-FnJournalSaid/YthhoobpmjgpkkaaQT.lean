import Derived.Test.YthhoobpmjgpkkaaQB
import Derived.Test.YthhoobpmjgpkkaaProg
namespace Go.Proofs.Ythhoobpmjgpkkaa.E
open Go Go.Sim Go.Proofs

/-- The types that the functions speak of. -/
def T : Tab := [
  (2, { size := 1, bytes := 8, zero := [.int .i64 0], kind := .int .i64 }),
  (3, { size := 1, bytes := 8, zero := [.int .i64 0], kind := .int .i64 }),
  (4, { size := 1, bytes := 1, zero := [.bool false], kind := .bool }),
  (5, { size := 1, bytes := 1, zero := [.int .u8 0], kind := .int .u8 }),
  (9, { size := 1, bytes := 16, zero := [.string ⟨#[]⟩], kind := .str }),
  (15, { size := 1, bytes := 8, zero := [.pointer none], kind := .other }),
  (16, { size := 1, bytes := 8, zero := [.pointer none], kind := .other }),
  (21, { size := 1, bytes := 4, zero := [.int .i32 0], kind := .int .i32 }),
  (22, { size := 1, bytes := 24, zero := [.slice none 0 0], kind := .sl 23 }),
  (23, { size := 1, bytes := 24, zero := [.slice none 0 0], kind := .sl 3 }),
  (36, { size := 1, bytes := 24, zero := [.slice none 0 0], kind := .sl 5 }),
  (37, { size := 1, bytes := 24, zero := [.slice none 0 0], kind := .sl 41 }),
  (39, { size := 2, bytes := 48, zero := [.slice none 0 0, .slice none 0 0], kind := .st [(0, 23), (1, 37)] }),
  (41, { size := 4, bytes := 32, zero := [.int .i64 0, .int .i64 0, .int .i64 0, .int .i64 0], kind := .st [(0, 3), (1, 3), (2, 3), (3, 3)] }),
  (60, { size := 1, bytes := 24, zero := [.slice none 0 0], kind := .sl 72 }),
  (72, { size := 3, bytes := 24, zero := [.int .i64 0, .int .i64 0, .int .i64 0], kind := .st [(0, 3), (1, 3), (2, 3)] }),
  (79, { size := 1, bytes := 24, zero := [.slice none 0 0], kind := .sl 116 }),
  (81, { size := 3, bytes := 40, zero := [.int .i64 0, .int .i64 0, .slice none 0 0], kind := .st [(0, 3), (1, 3), (2, 79)] }),
  (90, { size := 1, bytes := 24, zero := [.slice none 0 0], kind := .sl 81 }),
  (108, { size := 1, bytes := 24, zero := [.slice none 0 0], kind := .sl 118 }),
  (110, { size := 5, bytes := 88, zero := [.int .i64 0, .int .i64 0, .slice none 0 0, .slice none 0 0, .slice none 0 0], kind := .st [(0, 81), (3, 108), (4, 108)] }),
  (116, { size := 2, bytes := 16, zero := [.int .i64 0, .int .i64 0], kind := .st [(0, 3), (1, 3)] }),
  (118, { size := 5, bytes := 40, zero := [.int .i64 0, .int .i64 0, .int .i64 0, .int .i64 0, .int .i64 0], kind := .st [(0, 3), (1, 3), (2, 3), (3, 116)] }),
  (136, { size := 1, bytes := 8, zero := [.pointer none], kind := .other }),
  (137, { size := 1, bytes := 8, zero := [.int .u64 0], kind := .int .u64 }),
  (139, { size := 3, bytes := 40, zero := [.slice none 0 0, .int .i64 0, .int .u64 0], kind := .st [(0, 36), (1, 3), (2, 137)] }),
  (176, { size := 1, bytes := 24, zero := [.slice none 0 0], kind := .sl 108 }),
  (177, { size := 1, bytes := 24, zero := [.slice none 0 0], kind := .sl 194 }),
  (180, { size := 1, bytes := 8, zero := [.int .u64 0], kind := .int .u64 }),
  (183, { size := 1, bytes := 8, zero := [.pointer none], kind := .other }),
  (194, { size := 3, bytes := 24, zero := [.int .i64 0, .int .i64 0, .int .i64 0], kind := .st [(0, 3), (1, 3), (2, 3)] }),
  (220, { size := 1, bytes := 8, zero := [.pointer none], kind := .other })]
theorem eq41 : EqT Try.prog 41 4 2 := EqT.of (q := 1) Try.underlying41 (by kernel_rfl) (.int (by kernel_rfl) rfl (by kernel_rfl) (.int (by kernel_rfl) rfl (by kernel_rfl) (.int (by kernel_rfl) rfl (by kernel_rfl) (.int (by kernel_rfl) rfl (by kernel_rfl) rfl))))
theorem eq72 : EqT Try.prog 72 3 2 := EqT.of (q := 1) Try.underlying72 (by kernel_rfl) (.int (by kernel_rfl) rfl (by kernel_rfl) (.int (by kernel_rfl) rfl (by kernel_rfl) (.int (by kernel_rfl) rfl (by kernel_rfl) rfl)))
theorem eq116 : EqT Try.prog 116 2 2 := EqT.of (q := 1) Try.underlying116 (by kernel_rfl) (.int (by kernel_rfl) rfl (by kernel_rfl) (.int (by kernel_rfl) rfl (by kernel_rfl) rfl))
theorem eq194 : EqT Try.prog 194 3 2 := EqT.of (q := 1) Try.underlying194 (by kernel_rfl) (.int (by kernel_rfl) rfl (by kernel_rfl) (.int (by kernel_rfl) rfl (by kernel_rfl) (.int (by kernel_rfl) rfl (by kernel_rfl) rfl)))
theorem eq118 : EqT Try.prog 118 5 3 := EqT.of (q := 2) Try.underlying118 (by kernel_rfl) (.int (by kernel_rfl) rfl (by kernel_rfl) (.int (by kernel_rfl) rfl (by kernel_rfl) (.int (by kernel_rfl) rfl (by kernel_rfl) (.st (by kernel_rfl) rfl Try.underlying116 (size_run (by kernel_rfl)) (eq116.mono (by decide)) rfl))))
theorem row2 : RowOK Try.prog T 2 { size := 1, bytes := 8, zero := [.int .i64 0], kind := .int .i64 } := ⟨⟨.int .i64 0, by kernel_rfl, rfl⟩, rfl, rfl, by kernel_rfl, trivial⟩
theorem row3 : RowOK Try.prog T 3 { size := 1, bytes := 8, zero := [.int .i64 0], kind := .int .i64 } := ⟨⟨.int .i64 0, by kernel_rfl, rfl⟩, rfl, rfl, by kernel_rfl, trivial⟩
theorem row4 : RowOK Try.prog T 4 { size := 1, bytes := 1, zero := [.bool false], kind := .bool } := ⟨⟨.bool false, by kernel_rfl, rfl⟩, rfl, rfl, by kernel_rfl, trivial⟩
theorem row5 : RowOK Try.prog T 5 { size := 1, bytes := 1, zero := [.int .u8 0], kind := .int .u8 } := ⟨⟨.int .u8 0, by kernel_rfl, rfl⟩, rfl, rfl, by kernel_rfl, trivial⟩
theorem row9 : RowOK Try.prog T 9 { size := 1, bytes := 16, zero := [.string ⟨#[]⟩], kind := .str } := ⟨⟨.string ⟨#[]⟩, by kernel_rfl, rfl⟩, rfl, rfl, by kernel_rfl, trivial⟩
theorem row15 : RowOK Try.prog T 15 { size := 1, bytes := 8, zero := [.pointer none], kind := .other } := ⟨⟨.pointer none, by kernel_rfl, rfl⟩, rfl, rfl, by kernel_rfl, trivial⟩
theorem row16 : RowOK Try.prog T 16 { size := 1, bytes := 8, zero := [.pointer none], kind := .other } := ⟨⟨.pointer none, by kernel_rfl, rfl⟩, rfl, rfl, by kernel_rfl, trivial⟩
theorem row21 : RowOK Try.prog T 21 { size := 1, bytes := 4, zero := [.int .i32 0], kind := .int .i32 } := ⟨⟨.int .i32 0, by kernel_rfl, rfl⟩, rfl, rfl, by kernel_rfl, trivial⟩
theorem row22 : RowOK Try.prog T 22 { size := 1, bytes := 24, zero := [.slice none 0 0], kind := .sl 23 } := ⟨⟨.slice none 0 0, by kernel_rfl, rfl⟩, rfl, rfl, by kernel_rfl, trivial⟩
theorem row23 : RowOK Try.prog T 23 { size := 1, bytes := 24, zero := [.slice none 0 0], kind := .sl 3 } := ⟨⟨.slice none 0 0, by kernel_rfl, rfl⟩, rfl, rfl, by kernel_rfl, trivial⟩
theorem row36 : RowOK Try.prog T 36 { size := 1, bytes := 24, zero := [.slice none 0 0], kind := .sl 5 } := ⟨⟨.slice none 0 0, by kernel_rfl, rfl⟩, rfl, rfl, by kernel_rfl, trivial⟩
theorem row37 : RowOK Try.prog T 37 { size := 1, bytes := 24, zero := [.slice none 0 0], kind := .sl 41 } := ⟨⟨.slice none 0 0, by kernel_rfl, rfl⟩, rfl, rfl, by kernel_rfl, trivial⟩
theorem row39 : RowOK Try.prog T 39 { size := 2, bytes := 48, zero := [.slice none 0 0, .slice none 0 0], kind := .st [(0, 23), (1, 37)] } := ⟨⟨.agg #[.slice none 0 0, .slice none 0 0], by kernel_rfl, rfl⟩, rfl, rfl, by kernel_rfl, ⟨rfl, fun h => absurd h (by decide)⟩⟩
theorem row41 : RowOK Try.prog T 41 { size := 4, bytes := 32, zero := [.int .i64 0, .int .i64 0, .int .i64 0, .int .i64 0], kind := .st [(0, 3), (1, 3), (2, 3), (3, 3)] } := ⟨⟨.agg #[.int .i64 0, .int .i64 0, .int .i64 0, .int .i64 0], by kernel_rfl, rfl⟩, rfl, rfl, by kernel_rfl, ⟨rfl, fun _ => EqTop.of eq41 (by decide) (by kernel_rfl)⟩⟩
theorem row60 : RowOK Try.prog T 60 { size := 1, bytes := 24, zero := [.slice none 0 0], kind := .sl 72 } := ⟨⟨.slice none 0 0, by kernel_rfl, rfl⟩, rfl, rfl, by kernel_rfl, trivial⟩
theorem row72 : RowOK Try.prog T 72 { size := 3, bytes := 24, zero := [.int .i64 0, .int .i64 0, .int .i64 0], kind := .st [(0, 3), (1, 3), (2, 3)] } := ⟨⟨.agg #[.int .i64 0, .int .i64 0, .int .i64 0], by kernel_rfl, rfl⟩, rfl, rfl, by kernel_rfl, ⟨rfl, fun _ => EqTop.of eq72 (by decide) (by kernel_rfl)⟩⟩
theorem row79 : RowOK Try.prog T 79 { size := 1, bytes := 24, zero := [.slice none 0 0], kind := .sl 116 } := ⟨⟨.slice none 0 0, by kernel_rfl, rfl⟩, rfl, rfl, by kernel_rfl, trivial⟩
theorem row81 : RowOK Try.prog T 81 { size := 3, bytes := 40, zero := [.int .i64 0, .int .i64 0, .slice none 0 0], kind := .st [(0, 3), (1, 3), (2, 79)] } := ⟨⟨.agg #[.int .i64 0, .int .i64 0, .slice none 0 0], by kernel_rfl, rfl⟩, rfl, rfl, by kernel_rfl, ⟨rfl, fun h => absurd h (by decide)⟩⟩
theorem row90 : RowOK Try.prog T 90 { size := 1, bytes := 24, zero := [.slice none 0 0], kind := .sl 81 } := ⟨⟨.slice none 0 0, by kernel_rfl, rfl⟩, rfl, rfl, by kernel_rfl, trivial⟩
theorem row108 : RowOK Try.prog T 108 { size := 1, bytes := 24, zero := [.slice none 0 0], kind := .sl 118 } := ⟨⟨.slice none 0 0, by kernel_rfl, rfl⟩, rfl, rfl, by kernel_rfl, trivial⟩
theorem row110 : RowOK Try.prog T 110 { size := 5, bytes := 88, zero := [.int .i64 0, .int .i64 0, .slice none 0 0, .slice none 0 0, .slice none 0 0], kind := .st [(0, 81), (3, 108), (4, 108)] } := ⟨⟨.agg #[.int .i64 0, .int .i64 0, .slice none 0 0, .slice none 0 0, .slice none 0 0], by kernel_rfl, rfl⟩, rfl, rfl, by kernel_rfl, ⟨rfl, fun h => absurd h (by decide)⟩⟩
theorem row116 : RowOK Try.prog T 116 { size := 2, bytes := 16, zero := [.int .i64 0, .int .i64 0], kind := .st [(0, 3), (1, 3)] } := ⟨⟨.agg #[.int .i64 0, .int .i64 0], by kernel_rfl, rfl⟩, rfl, rfl, by kernel_rfl, ⟨rfl, fun _ => EqTop.of eq116 (by decide) (by kernel_rfl)⟩⟩
theorem row118 : RowOK Try.prog T 118 { size := 5, bytes := 40, zero := [.int .i64 0, .int .i64 0, .int .i64 0, .int .i64 0, .int .i64 0], kind := .st [(0, 3), (1, 3), (2, 3), (3, 116)] } := ⟨⟨.agg #[.int .i64 0, .int .i64 0, .int .i64 0, .int .i64 0, .int .i64 0], by kernel_rfl, rfl⟩, rfl, rfl, by kernel_rfl, ⟨rfl, fun _ => EqTop.of eq118 (by decide) (by kernel_rfl)⟩⟩
theorem row136 : RowOK Try.prog T 136 { size := 1, bytes := 8, zero := [.pointer none], kind := .other } := ⟨⟨.pointer none, by kernel_rfl, rfl⟩, rfl, rfl, by kernel_rfl, trivial⟩
theorem row137 : RowOK Try.prog T 137 { size := 1, bytes := 8, zero := [.int .u64 0], kind := .int .u64 } := ⟨⟨.int .u64 0, by kernel_rfl, rfl⟩, rfl, rfl, by kernel_rfl, trivial⟩
theorem row139 : RowOK Try.prog T 139 { size := 3, bytes := 40, zero := [.slice none 0 0, .int .i64 0, .int .u64 0], kind := .st [(0, 36), (1, 3), (2, 137)] } := ⟨⟨.agg #[.slice none 0 0, .int .i64 0, .int .u64 0], by kernel_rfl, rfl⟩, rfl, rfl, by kernel_rfl, ⟨rfl, fun h => absurd h (by decide)⟩⟩
theorem row176 : RowOK Try.prog T 176 { size := 1, bytes := 24, zero := [.slice none 0 0], kind := .sl 108 } := ⟨⟨.slice none 0 0, by kernel_rfl, rfl⟩, rfl, rfl, by kernel_rfl, trivial⟩
theorem row177 : RowOK Try.prog T 177 { size := 1, bytes := 24, zero := [.slice none 0 0], kind := .sl 194 } := ⟨⟨.slice none 0 0, by kernel_rfl, rfl⟩, rfl, rfl, by kernel_rfl, trivial⟩
theorem row180 : RowOK Try.prog T 180 { size := 1, bytes := 8, zero := [.int .u64 0], kind := .int .u64 } := ⟨⟨.int .u64 0, by kernel_rfl, rfl⟩, rfl, rfl, by kernel_rfl, trivial⟩
theorem row183 : RowOK Try.prog T 183 { size := 1, bytes := 8, zero := [.pointer none], kind := .other } := ⟨⟨.pointer none, by kernel_rfl, rfl⟩, rfl, rfl, by kernel_rfl, trivial⟩
theorem row194 : RowOK Try.prog T 194 { size := 3, bytes := 24, zero := [.int .i64 0, .int .i64 0, .int .i64 0], kind := .st [(0, 3), (1, 3), (2, 3)] } := ⟨⟨.agg #[.int .i64 0, .int .i64 0, .int .i64 0], by kernel_rfl, rfl⟩, rfl, rfl, by kernel_rfl, ⟨rfl, fun _ => EqTop.of eq194 (by decide) (by kernel_rfl)⟩⟩
theorem row220 : RowOK Try.prog T 220 { size := 1, bytes := 8, zero := [.pointer none], kind := .other } := ⟨⟨.pointer none, by kernel_rfl, rfl⟩, rfl, rfl, by kernel_rfl, trivial⟩
theorem tabOK : TabOK Try.prog T := .of (by kernel_rfl) ⟨row2, row3, row4, row5, row9, row15, row16, row21, row22, row23, row36, row37, row39, row41, row60, row72, row79, row81, row90, row108, row110, row116, row118, row136, row137, row139, row176, row177, row180, row183, row194, row220, trivial⟩
end Go.Proofs.Ythhoobpmjgpkkaa.E
