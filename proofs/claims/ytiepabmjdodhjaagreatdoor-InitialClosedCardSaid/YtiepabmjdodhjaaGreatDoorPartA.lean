/- Parts of the play of the law InitialClosed, each checked by the kernel; no condition. -/
import Derived.Test.YtiepabmjdodhjaaGreatDoorBase
namespace Go.Proofs.YtiepabmjdodhjaaGreatDoor
open Go.ChangeShapes Go.WideShapes Go.ChangeAt Go.RowKit

noncomputable def cfg0 : Go.AE.Cfg := ⟨Tryz.prog, Go.AE.setAll lv.2 .nil, lv.1, Go.AE.orcClone 117 (Go.AE.orcIx 94), Tryz.prog.globals.size⟩
noncomputable def tab1x0 : List (Nat × List Go.AE.AV × Go.AE.AV) := [
  (101, [.str [102]], .tuple [.int .i64 (0), .iface 158 (.int .i64 (2))]),
  (101, [.str [56]], .tuple [.int .i64 (8), .nilIface]),
  (109, [.agg [.bool false, .bool false, .int .i64 (8)]], .str [117, 56]),
  (33, [.int .u8 (100)], .bool true),
  (33, [.int .u8 (101)], .bool true),
  (33, [.int .u8 (102)], .bool true),
  (33, [.int .u8 (103)], .bool true),
  (33, [.int .u8 (104)], .bool true),
  (33, [.int .u8 (105)], .bool true),
  (33, [.int .u8 (108)], .bool true),
  (33, [.int .u8 (109)], .bool true),
  (33, [.int .u8 (110)], .bool true),
  (33, [.int .u8 (111)], .bool true),
  (33, [.int .u8 (112)], .bool true),
  (33, [.int .u8 (114)], .bool true),
  (33, [.int .u8 (115)], .bool true),
  (33, [.int .u8 (116)], .bool true),
  (33, [.int .u8 (117)], .bool true),
  (33, [.int .u8 (119)], .bool true),
  (33, [.int .u8 (120)], .bool true),
  (33, [.int .u8 (121)], .bool true),
  (33, [.int .u8 (32)], .bool false),
  (33, [.int .u8 (40)], .bool false),
  (33, [.int .u8 (41)], .bool false),
  (33, [.int .u8 (43)], .bool false),
  (33, [.int .u8 (44)], .bool false),
  (33, [.int .u8 (45)], .bool false),
  (33, [.int .u8 (56)], .bool false),
  (33, [.int .u8 (58)], .bool false),
  (33, [.int .u8 (59)], .bool false),
  (33, [.int .u8 (60)], .bool false),
  (33, [.int .u8 (61)], .bool false),
  (33, [.int .u8 (97)], .bool true),
  (33, [.int .u8 (98)], .bool true),
  (33, [.int .u8 (99)], .bool true),
  (109, [.agg [.bool true, .bool false, .int .i64 (1)]], .str [98, 111, 111, 108]),
  (101, [.str []], .tuple [.int .i64 (0), .iface 158 (.int .i64 (2))]),
  (80, [.str [102]], .bool true),
  (80, [.str [103]], .bool true),
  (80, [.str [105]], .bool true),
  (80, [.str [111]], .bool true),
  (80, [.str [120]], .bool true),
  (80, [.str [97]], .bool true),
  (80, [.str [98]], .bool true),
  (80, [.str [99]], .bool true)]
theorem plays1x0 : Go.AE.tabPlays cfg0 100000000 tab1x0 = true := by kernel_rfl
noncomputable def tab1 : List (Nat × List Go.AE.AV × Go.AE.AV) := tab1x0
theorem tab1_ok : Go.AE.tabOk tab1 = true := by kernel_rfl
theorem tab1_plays : ∀ x ∈ tab1, ∃ m, Go.AE.runCall cfg0 m x.1 x.2.1 = some x.2.2 := Go.AE.tabPlays_mem plays1x0
noncomputable def cfg1 : Go.AE.Cfg := ⟨Tryz.prog, Go.AE.setAll lv.2 .nil, lv.1, Go.AE.orcTab (Go.AE.orcClone 117 (Go.AE.orcIx 94)) tab1, Tryz.prog.globals.size⟩
noncomputable def tab2x0 : List (Nat × List Go.AE.AV × Go.AE.AV) := [
  (9, [.str [112, 114, 101, 32, 97]], .agg [.int .i64 (28), .int .i64 (0)])]
theorem plays2x0 : Go.AE.tabPlays cfg1 100000000 tab2x0 = true := by kernel_rfl
noncomputable def tab2x1 : List (Nat × List Go.AE.AV × Go.AE.AV) := [
  (9, [.str [97, 32, 45, 62, 32, 99]], .agg [.int .i64 (26), .int .i64 (4)])]
theorem plays2x1 : Go.AE.tabPlays cfg1 100000000 tab2x1 = true := by kernel_rfl

end Go.Proofs.YtiepabmjdodhjaaGreatDoor
