/-
  NARROWER THAN 'FOR EVERY INPUT', by the rows' own cells (each row's printed sentence says how): TypesMade: laid · InitialMade: laid.
  DERIVED. THE GIVEN ROWS OF THIS SEAT. 2 by the template 'for every input the law returns true; each argument reads behind the call as it read before'; 0 by the template 'total and deterministic' (their statements: YtmipngjbcdamjaaGreatDoorTotals.lean).
  GIVEN WITH THE SEED: the statements are not yours to turn. If you find one false, say at which input.
  Laid BY PROGRAM, IN A SANDBOX (cutbox-rows.mjs): the forced cells as the released guide's own fill.sh prints them over the translation 7fabd1a8570a84e1… (all of the seat's roots in one cut). By AI agents, Wed Nov 11 2026. No macro, syntax, notation, axiom, sorry.
-/
import Derived.Test.YtmipngjbcdamjaaGreatDoorChecked
import GoSem.Claim
import GoSem.ClaimJoined
import GoSem.ClaimMapViews
import Derived.JoinedTies
import Derived.KernelRfl
namespace Go.Proofs.YtmipngjbcdamjaaGreatDoor
/- THE CELL 'sum', in the pinned program and in every row, IS THE sha256 OF THE DUMP (.gsa) THAT YtmipngjbcdamjaaGreatDoorProg.lean LOADS. Nothing in Lean hashes anything: it is a label: what it is worth is what the hold of that sum in a sandbox is worth. -/
noncomputable def Tryz.pinned : Pinned := { name := "ytmipngjbcdamjaagreatdoor", sum := "7fabd1a8570a84e1ff85c80e142e466203a433fdcf75e9baff76d29b4d45a09b", checked := Tryz.checked }
namespace Rows
def none {H : Type} : Left H := { results := [], args := [] }

/- WHAT THE LISTED PACKAGE-LEVEL VARIABLES READ AS WHEN THE CALL BEGINS. Each datum BY PROGRAM (the guide's laid-datum.mjs) off the statement by which the dump's own 'gosem.cut.vars' lays the variable. In a bare row this is a premise. The card (YtmipngjbcdamjaaGreatDoorCards.lean) ties it to the program's text. -/
def laid_math_bits_deBruijn32tab {H : Type} : DataW H := .agg [.lit (.int .u8 0), .lit (.int .u8 1), .lit (.int .u8 28), .lit (.int .u8 2), .lit (.int .u8 29), .lit (.int .u8 14), .lit (.int .u8 24), .lit (.int .u8 3), .lit (.int .u8 30), .lit (.int .u8 22), .lit (.int .u8 20), .lit (.int .u8 15), .lit (.int .u8 25), .lit (.int .u8 17), .lit (.int .u8 4), .lit (.int .u8 8), .lit (.int .u8 31), .lit (.int .u8 27), .lit (.int .u8 13), .lit (.int .u8 23), .lit (.int .u8 21), .lit (.int .u8 19), .lit (.int .u8 16), .lit (.int .u8 7), .lit (.int .u8 26), .lit (.int .u8 12), .lit (.int .u8 18), .lit (.int .u8 6), .lit (.int .u8 11), .lit (.int .u8 5), .lit (.int .u8 10), .lit (.int .u8 9)]
def laid_math_bits_deBruijn64tab {H : Type} : DataW H := .agg [.lit (.int .u8 0), .lit (.int .u8 1), .lit (.int .u8 56), .lit (.int .u8 2), .lit (.int .u8 57), .lit (.int .u8 49), .lit (.int .u8 28), .lit (.int .u8 3), .lit (.int .u8 61), .lit (.int .u8 58), .lit (.int .u8 42), .lit (.int .u8 50), .lit (.int .u8 38), .lit (.int .u8 29), .lit (.int .u8 17), .lit (.int .u8 4), .lit (.int .u8 62), .lit (.int .u8 47), .lit (.int .u8 59), .lit (.int .u8 36), .lit (.int .u8 45), .lit (.int .u8 43), .lit (.int .u8 51), .lit (.int .u8 22), .lit (.int .u8 53), .lit (.int .u8 39), .lit (.int .u8 33), .lit (.int .u8 30), .lit (.int .u8 24), .lit (.int .u8 18), .lit (.int .u8 12), .lit (.int .u8 5), .lit (.int .u8 63), .lit (.int .u8 55), .lit (.int .u8 48), .lit (.int .u8 27), .lit (.int .u8 60), .lit (.int .u8 41), .lit (.int .u8 37), .lit (.int .u8 16), .lit (.int .u8 46), .lit (.int .u8 35), .lit (.int .u8 44), .lit (.int .u8 21), .lit (.int .u8 52), .lit (.int .u8 32), .lit (.int .u8 23), .lit (.int .u8 11), .lit (.int .u8 54), .lit (.int .u8 26), .lit (.int .u8 40), .lit (.int .u8 15), .lit (.int .u8 34), .lit (.int .u8 20), .lit (.int .u8 31), .lit (.int .u8 10), .lit (.int .u8 25), .lit (.int .u8 14), .lit (.int .u8 19), .lit (.int .u8 9), .lit (.int .u8 13), .lit (.int .u8 8), .lit (.int .u8 7), .lit (.int .u8 6)]
def laid_internal_strconv_uint64pow10 {H : Type} : DataW H := .agg [.lit (.int .u64 1), .lit (.int .u64 10), .lit (.int .u64 100), .lit (.int .u64 1000), .lit (.int .u64 10000), .lit (.int .u64 100000), .lit (.int .u64 1000000), .lit (.int .u64 10000000), .lit (.int .u64 100000000), .lit (.int .u64 1000000000), .lit (.int .u64 10000000000), .lit (.int .u64 100000000000), .lit (.int .u64 1000000000000), .lit (.int .u64 10000000000000), .lit (.int .u64 100000000000000), .lit (.int .u64 1000000000000000), .lit (.int .u64 10000000000000000), .lit (.int .u64 100000000000000000), .lit (.int .u64 1000000000000000000), .lit (.int .u64 10000000000000000000)]
def laid_strconv_ErrRange {H : Type} : DataW H := .iface "*errors.errorString" (.ptr (.agg [.lit (.string [118, 97, 108, 117, 101, 32, 111, 117, 116, 32, 111, 102, 32, 114, 97, 110, 103, 101])]))
def laid_strconv_ErrSyntax {H : Type} : DataW H := .iface "*errors.errorString" (.ptr (.agg [.lit (.string [105, 110, 118, 97, 108, 105, 100, 32, 115, 121, 110, 116, 97, 120])]))
def laid_orrery_ast_reserved {H : Type} : DataW H := .slice [.lit (.string [110, 111, 100, 101]), .lit (.string [114, 101, 116, 117, 114, 110, 115]), .lit (.string [118, 97, 114]), .lit (.string [108, 101, 116]), .lit (.string [116, 101, 108]), .lit (.string [119, 104, 101, 110]), .lit (.string [110, 111, 116]), .lit (.string [111, 114]), .lit (.string [120, 111, 114]), .lit (.string [97, 110, 100]), .lit (.string [112, 114, 101]), .lit (.string [102, 98, 121]), .lit (.string [105, 102]), .lit (.string [116, 104, 101, 110]), .lit (.string [101, 108, 115, 101]), .lit (.string [109, 101, 114, 103, 101]), .lit (.string [116, 114, 117, 101]), .lit (.string [102, 97, 108, 115, 101])] []
def laid_orrery_ast_shapes {H : Type} : DataW H := .map [(.int .i64 1, .agg [.lit (.int .i64 0), .lit (.bool false), .lit (.bool true), .lit (.bool true)]), (.int .i64 2, .agg [.lit (.int .i64 0), .lit (.bool true), .lit (.bool false), .lit (.bool false)]), (.int .i64 3, .agg [.lit (.int .i64 1), .lit (.bool false), .lit (.bool false), .lit (.bool false)]), (.int .i64 4, .agg [.lit (.int .i64 1), .lit (.bool false), .lit (.bool false), .lit (.bool false)]), (.int .i64 5, .agg [.lit (.int .i64 1), .lit (.bool false), .lit (.bool false), .lit (.bool false)]), (.int .i64 6, .agg [.lit (.int .i64 1), .lit (.bool true), .lit (.bool false), .lit (.bool false)]), (.int .i64 19, .agg [.lit (.int .i64 1), .lit (.bool false), .lit (.bool false), .lit (.bool true)]), (.int .i64 20, .agg [.lit (.int .i64 1), .lit (.bool false), .lit (.bool false), .lit (.bool true)]), (.int .i64 23, .agg [.lit (.int .i64 3), .lit (.bool false), .lit (.bool false), .lit (.bool false)]), (.int .i64 24, .agg [.lit (.int .i64 2), .lit (.bool true), .lit (.bool false), .lit (.bool false)]), (.int .i64 25, .agg [.lit (.int .i64 (-1)), .lit (.bool true), .lit (.bool false), .lit (.bool false)]), (.int .i64 26, .agg [.lit (.int .i64 1), .lit (.bool false), .lit (.bool true), .lit (.bool false)])]
def laid_orrery_tok_reserved {H : Type} : DataW H := .map [(.string [97, 110, 100], .lit (.bool true)), (.string [101, 108, 115, 101], .lit (.bool true)), (.string [102, 97, 108, 115, 101], .lit (.bool true)), (.string [102, 98, 121], .lit (.bool true)), (.string [105, 102], .lit (.bool true)), (.string [108, 101, 116], .lit (.bool true)), (.string [109, 101, 114, 103, 101], .lit (.bool true)), (.string [110, 111, 100, 101], .lit (.bool true)), (.string [110, 111, 116], .lit (.bool true)), (.string [111, 114], .lit (.bool true)), (.string [112, 114, 101], .lit (.bool true)), (.string [114, 101, 116, 117, 114, 110, 115], .lit (.bool true)), (.string [116, 101, 108], .lit (.bool true)), (.string [116, 104, 101, 110], .lit (.bool true)), (.string [116, 114, 117, 101], .lit (.bool true)), (.string [118, 97, 114], .lit (.bool true)), (.string [119, 104, 101, 110], .lit (.bool true)), (.string [120, 111, 114], .lit (.bool true))]
def laid_orrery_tok_signs {H : Type} : DataW H := .agg [.lit (.string [45, 62]), .lit (.string [60, 60]), .lit (.string [62, 62]), .lit (.string [60, 61]), .lit (.string [62, 61]), .lit (.string [60, 62]), .lit (.string [40]), .lit (.string [41]), .lit (.string [44]), .lit (.string [59]), .lit (.string [58]), .lit (.string [61]), .lit (.string [60]), .lit (.string [62]), .lit (.string [43]), .lit (.string [45]), .lit (.string [42])]
def laid_orrery_parse_levels {H : Type} : DataW H := .agg [.slice [.agg [.lit (.string [111, 114]), .lit (.int .i64 7)], .agg [.lit (.string [120, 111, 114]), .lit (.int .i64 8)]] [], .slice [.agg [.lit (.string [97, 110, 100]), .lit (.int .i64 9)]] [], .slice [.agg [.lit (.string [61]), .lit (.int .i64 10)], .agg [.lit (.string [60, 62]), .lit (.int .i64 11)], .agg [.lit (.string [60, 61]), .lit (.int .i64 13)], .agg [.lit (.string [62, 61]), .lit (.int .i64 15)], .agg [.lit (.string [60]), .lit (.int .i64 12)], .agg [.lit (.string [62]), .lit (.int .i64 14)]] [], .slice [.agg [.lit (.string [43]), .lit (.int .i64 16)], .agg [.lit (.string [45]), .lit (.int .i64 17)]] [], .slice [.agg [.lit (.string [42]), .lit (.int .i64 18)]] []]
def laid_orrery_types_bool1 {H : Type} : DataW H := .agg [.lit (.bool true), .lit (.bool false), .lit (.int .i64 1)]

/-- 'orrerylaw19.TypesMade': WHATEVER THE INPUT: true; the input reads as it did. -/
def typesMadeSpec : ChangeSpec := { name := "typesMade", fn := fun _ => fun
  | [d1, d2] => { results := [.lit (.bool true)], args := [d1, d2] }
  | _ => none }
def typesMadeRow : OpenClaim := { program := "ytmipngjbcdamjaagreatdoor", sum := "7fabd1a8570a84e1ff85c80e142e466203a433fdcf75e9baff76d29b4d45a09b", func := "orrery/orrerylaw19.TypesMade", spec := "typesMade", inPlace := ["internal/bytealg.IndexByteString"], unfollowed := true, recurses := true, named := ["orrery/ast.reserved", "strconv.ErrSyntax", "strconv.ErrRange", "internal/strconv.uint64pow10", "math/bits.deBruijn32tab", "math/bits.deBruijn64tab", "orrery/ast.shapes", "orrery/types.bool1", "orrery/tok.signs", "orrery/tok.reserved", "orrery/parse.levels"], apart := false, laid := [("math/bits.deBruijn32tab", laid_math_bits_deBruijn32tab), ("math/bits.deBruijn64tab", laid_math_bits_deBruijn64tab), ("internal/strconv.uint64pow10", laid_internal_strconv_uint64pow10), ("strconv.ErrRange", laid_strconv_ErrRange), ("strconv.ErrSyntax", laid_strconv_ErrSyntax), ("orrery/ast.reserved", laid_orrery_ast_reserved), ("orrery/ast.shapes", laid_orrery_ast_shapes), ("orrery/tok.reserved", laid_orrery_tok_reserved), ("orrery/tok.signs", laid_orrery_tok_signs), ("orrery/parse.levels", laid_orrery_parse_levels), ("orrery/types.bool1", laid_orrery_types_bool1)] }
def TypesMadeSaid : Prop := typesMadeRow.holds Tryz.pinned (OpenSpec.ofChange typesMadeSpec)

/-- ITS FALSE NEIGHBOUR: 'it returns false'. Refute it at one input. -/
def typesMadeWrong : ChangeSpec := { name := "typesMade", fn := fun _ => fun
  | [d1, d2] => { results := [.lit (.bool false)], args := [d1, d2] }
  | _ => none }
def TypesMadeWrongFalsely : Prop := typesMadeRow.holds Tryz.pinned (OpenSpec.ofChange typesMadeWrong)

/-- 'orrerylaw21.InitialMade': WHATEVER THE INPUT: true; the input reads as it did. -/
def initialMadeSpec : ChangeSpec := { name := "initialMade", fn := fun _ => fun
  | [d1, d2] => { results := [.lit (.bool true)], args := [d1, d2] }
  | _ => none }
def initialMadeRow : OpenClaim := { program := "ytmipngjbcdamjaagreatdoor", sum := "7fabd1a8570a84e1ff85c80e142e466203a433fdcf75e9baff76d29b4d45a09b", func := "orrery/orrerylaw21.InitialMade", spec := "initialMade", inPlace := ["internal/bytealg.IndexByteString"], unfollowed := true, recurses := true, named := ["orrery/ast.reserved", "strconv.ErrSyntax", "strconv.ErrRange", "internal/strconv.uint64pow10", "math/bits.deBruijn32tab", "math/bits.deBruijn64tab", "orrery/ast.shapes", "orrery/types.bool1", "orrery/tok.signs", "orrery/tok.reserved", "orrery/parse.levels"], apart := false, laid := [("math/bits.deBruijn32tab", laid_math_bits_deBruijn32tab), ("math/bits.deBruijn64tab", laid_math_bits_deBruijn64tab), ("internal/strconv.uint64pow10", laid_internal_strconv_uint64pow10), ("strconv.ErrRange", laid_strconv_ErrRange), ("strconv.ErrSyntax", laid_strconv_ErrSyntax), ("orrery/ast.reserved", laid_orrery_ast_reserved), ("orrery/ast.shapes", laid_orrery_ast_shapes), ("orrery/tok.reserved", laid_orrery_tok_reserved), ("orrery/tok.signs", laid_orrery_tok_signs), ("orrery/parse.levels", laid_orrery_parse_levels), ("orrery/types.bool1", laid_orrery_types_bool1)] }
def InitialMadeSaid : Prop := initialMadeRow.holds Tryz.pinned (OpenSpec.ofChange initialMadeSpec)

/-- ITS FALSE NEIGHBOUR: 'it returns false'. Refute it at one input. -/
def initialMadeWrong : ChangeSpec := { name := "initialMade", fn := fun _ => fun
  | [d1, d2] => { results := [.lit (.bool false)], args := [d1, d2] }
  | _ => none }
def InitialMadeWrongFalsely : Prop := initialMadeRow.holds Tryz.pinned (OpenSpec.ofChange initialMadeWrong)

/- THE SECOND FORM. 'bulk': how many values and letters a reading holds, each counted each time it is reached (what is shared counts as often as it is met; a slice's spare places count too). A statement '..UptoSaid' is the law's where the arguments, and the package variables that the reading takes, are together of bulk at most 1048576: NARROWER than '..Said'. Prove '..Said' where nothing that the law and all that it calls make is longer than what came in: it says more and counts as full. Else prove '..UptoSaid'. A law counts once. -/
mutual
def uptoBulk {H : Type} : DataW H → Nat
  | .lit (.string bytes) => bytes.length + 1
  | .lit _ => 1
  | .nil => 1
  | .ptr d => uptoBulk d + 1
  | .slice elems spare => uptoBulkAll elems + uptoBulkAll spare + 1
  | .agg parts => uptoBulkAll parts + 1
  | .iface _ d => uptoBulk d + 1
  | .map entries => uptoBulkEntries entries + 1
  | .held _ => 1
def uptoBulkAll {H : Type} : List (DataW H) → Nat
  | [] => 0
  | d :: r => uptoBulk d + uptoBulkAll r
def uptoBulkEntries {H : Type} : List (Lit × DataW H) → Nat
  | [] => 0
  | x :: r => uptoBulkEntry x + uptoBulkEntries r
def uptoBulkEntry {H : Type} : Lit × DataW H → Nat
  | (.string bytes, d) => bytes.length + uptoBulk d + 1
  | (_, d) => uptoBulk d + 1
 end
def uptoSmall : (H : Type) → List (DataW H) → Bool := fun _ ds => decide (uptoBulkAll ds ≤ 1048576)
def OpenSpec.upto (s : _root_.Go.ChangeSpec) : _root_.Go.OpenSpec := { _root_.Go.OpenSpec.ofChange s with cond := some uptoSmall }

/-- 'orrerylaw19.TypesMade', WHERE WHAT IT READS IS OF BULK AT MOST 1048576: true; the input reads as it did. -/
def typesMadeUptoRow : OpenClaim := { program := "ytmipngjbcdamjaagreatdoor", sum := "7fabd1a8570a84e1ff85c80e142e466203a433fdcf75e9baff76d29b4d45a09b", func := "orrery/orrerylaw19.TypesMade", spec := "typesMade", inPlace := ["internal/bytealg.IndexByteString"], unfollowed := true, recurses := true, named := ["orrery/ast.reserved", "strconv.ErrSyntax", "strconv.ErrRange", "internal/strconv.uint64pow10", "math/bits.deBruijn32tab", "math/bits.deBruijn64tab", "orrery/ast.shapes", "orrery/types.bool1", "orrery/tok.signs", "orrery/tok.reserved", "orrery/parse.levels"], apart := false, laid := [("math/bits.deBruijn32tab", laid_math_bits_deBruijn32tab), ("math/bits.deBruijn64tab", laid_math_bits_deBruijn64tab), ("internal/strconv.uint64pow10", laid_internal_strconv_uint64pow10), ("strconv.ErrRange", laid_strconv_ErrRange), ("strconv.ErrSyntax", laid_strconv_ErrSyntax), ("orrery/ast.reserved", laid_orrery_ast_reserved), ("orrery/ast.shapes", laid_orrery_ast_shapes), ("orrery/tok.reserved", laid_orrery_tok_reserved), ("orrery/tok.signs", laid_orrery_tok_signs), ("orrery/parse.levels", laid_orrery_parse_levels), ("orrery/types.bool1", laid_orrery_types_bool1)], narrowed := true }
def TypesMadeUptoSaid : Prop := typesMadeUptoRow.holds Tryz.pinned (OpenSpec.upto typesMadeSpec)

/-- 'orrerylaw21.InitialMade', WHERE WHAT IT READS IS OF BULK AT MOST 1048576: true; the input reads as it did. -/
def initialMadeUptoRow : OpenClaim := { program := "ytmipngjbcdamjaagreatdoor", sum := "7fabd1a8570a84e1ff85c80e142e466203a433fdcf75e9baff76d29b4d45a09b", func := "orrery/orrerylaw21.InitialMade", spec := "initialMade", inPlace := ["internal/bytealg.IndexByteString"], unfollowed := true, recurses := true, named := ["orrery/ast.reserved", "strconv.ErrSyntax", "strconv.ErrRange", "internal/strconv.uint64pow10", "math/bits.deBruijn32tab", "math/bits.deBruijn64tab", "orrery/ast.shapes", "orrery/types.bool1", "orrery/tok.signs", "orrery/tok.reserved", "orrery/parse.levels"], apart := false, laid := [("math/bits.deBruijn32tab", laid_math_bits_deBruijn32tab), ("math/bits.deBruijn64tab", laid_math_bits_deBruijn64tab), ("internal/strconv.uint64pow10", laid_internal_strconv_uint64pow10), ("strconv.ErrRange", laid_strconv_ErrRange), ("strconv.ErrSyntax", laid_strconv_ErrSyntax), ("orrery/ast.reserved", laid_orrery_ast_reserved), ("orrery/ast.shapes", laid_orrery_ast_shapes), ("orrery/tok.reserved", laid_orrery_tok_reserved), ("orrery/tok.signs", laid_orrery_tok_signs), ("orrery/parse.levels", laid_orrery_parse_levels), ("orrery/types.bool1", laid_orrery_types_bool1)], narrowed := true }
def InitialMadeUptoSaid : Prop := initialMadeUptoRow.holds Tryz.pinned (OpenSpec.upto initialMadeSpec)

end Rows
end Go.Proofs.YtmipngjbcdamjaaGreatDoor
