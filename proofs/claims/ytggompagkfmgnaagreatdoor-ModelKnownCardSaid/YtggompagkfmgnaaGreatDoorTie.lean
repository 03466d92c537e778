/-
  DERIVED. GIVEN WITH THE SEED: THE PROGRAM's TIES (one call each: nine closed facts by the kernel) AND EACH ROW's TIE, after the 31st guide's Derived/Test/Toyas{Tie, Card}.lean. No idea stands in it: it is a product of the set-up. Laid BY PROGRAM, IN A SANDBOX (cutbox-door.mjs). By AI agents, Wed Nov 11 2026. No macro, syntax, notation, axiom, sorry.
-/
import Derived.Test.YtggompagkfmgnaaGreatDoorRows
import Derived.LaidByTextLater
import Derived.SevenTiedAt
import Derived.LaidSub
import Derived.LaidOnce
namespace Go.Proofs.YtggompagkfmgnaaGreatDoor
open Go
set_option maxRecDepth 100000
theorem seatTie1 : Tryz.prog.laidByTextLater [("math/bits.deBruijn32tab", Rows.laid_math_bits_deBruijn32tab), ("math/bits.deBruijn64tab", Rows.laid_math_bits_deBruijn64tab), ("internal/strconv.uint64pow10", Rows.laid_internal_strconv_uint64pow10), ("strconv.ErrRange", Rows.laid_strconv_ErrRange), ("strconv.ErrSyntax", Rows.laid_strconv_ErrSyntax), ("orrery/ast.reserved", Rows.laid_orrery_ast_reserved), ("orrery/ast.shapes", Rows.laid_orrery_ast_shapes), ("orrery/tok.reserved", Rows.laid_orrery_tok_reserved), ("orrery/tok.signs", Rows.laid_orrery_tok_signs), ("orrery/parse.levels", Rows.laid_orrery_parse_levels), ("orrery/types.bool1", Rows.laid_orrery_types_bool1), ("orrery/model.ops", Rows.laid_orrery_model_ops)] [.data, .data, .data, .sentinel, .sentinel, .widerDeep, .mapped, .mapped, .data, .data, .data, .mapped] true :=
  Program.laidByTextLater_by_one 336 8 65 (by kernel_rfl) (by kernel_rfl) (by kernel_rfl) (by kernel_rfl) (by kernel_rfl) (by kernel_rfl) (fun _ _ => by kernel_rfl)
theorem noOwnUnsafe : Tryz.pinned.checked.prog.headLifts.contains "ownunsafe" = false := by kernel_rfl
theorem tie : Tryz.prog.laidByTextLater [("math/bits.deBruijn32tab", Rows.laid_math_bits_deBruijn32tab), ("math/bits.deBruijn64tab", Rows.laid_math_bits_deBruijn64tab), ("internal/strconv.uint64pow10", Rows.laid_internal_strconv_uint64pow10), ("strconv.ErrRange", Rows.laid_strconv_ErrRange), ("strconv.ErrSyntax", Rows.laid_strconv_ErrSyntax), ("orrery/ast.reserved", Rows.laid_orrery_ast_reserved), ("orrery/ast.shapes", Rows.laid_orrery_ast_shapes), ("orrery/tok.reserved", Rows.laid_orrery_tok_reserved), ("orrery/tok.signs", Rows.laid_orrery_tok_signs), ("orrery/parse.levels", Rows.laid_orrery_parse_levels), ("orrery/types.bool1", Rows.laid_orrery_types_bool1), ("orrery/model.ops", Rows.laid_orrery_model_ops)] [.data, .data, .data, .sentinel, .sentinel, .widerDeep, .mapped, .mapped, .data, .data, .data, .mapped] true :=
  Program.laidByTextLater.sub seatTie1 ["math/bits.deBruijn32tab", "math/bits.deBruijn64tab", "internal/strconv.uint64pow10", "strconv.ErrRange", "strconv.ErrSyntax", "orrery/ast.reserved", "orrery/ast.shapes", "orrery/tok.reserved", "orrery/tok.signs", "orrery/parse.levels", "orrery/types.bool1", "orrery/model.ops"] (by kernel_rfl) (by kernel_rfl)
theorem modelKnown_row_tie : Rows.modelKnownRow.laidByTextAt .later Tryz.pinned [.data, .data, .data, .sentinel, .sentinel, .widerDeep, .mapped, .mapped, .data, .data, .data, .mapped] true :=
  OpenClaim.laidByTextAt_later rfl rfl tie noOwnUnsafe
theorem modelKnownUpto_row_tie : Rows.modelKnownUptoRow.laidByTextAt .later Tryz.pinned [.data, .data, .data, .sentinel, .sentinel, .widerDeep, .mapped, .mapped, .data, .data, .data, .mapped] true :=
  OpenClaim.laidByTextAt_later rfl rfl tie noOwnUnsafe
end Go.Proofs.YtggompagkfmgnaaGreatDoor
