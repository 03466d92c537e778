/- Parts of the play of the law InitialClosed, each checked by the kernel; no condition. -/
import Derived.Test.YtiepabmjdodhjaaGreatDoorPartH
namespace Go.Proofs.YtiepabmjdodhjaaGreatDoor
open Go.ChangeShapes Go.WideShapes Go.ChangeAt Go.RowKit

noncomputable def tab2x16 : List (Nat × List Go.AE.AV × Go.AE.AV) := [
  (9, [.str [97, 32, 45, 62, 32, 40, 98, 32, 45, 62, 32, 112, 114, 101, 32, 98, 41, 32, 43, 32, 112, 114, 101, 32, 98]], .agg [.int .i64 (0), .int .i64 (0)])]
theorem plays2x16 : Go.AE.tabPlays cfg1 100000000 tab2x16 = true := by kernel_rfl
noncomputable def tab2x17 : List (Nat × List Go.AE.AV × Go.AE.AV) := [
  (9, [.str [97, 32, 45, 62, 32, 109, 101, 114, 103, 101, 32, 99, 32, 40, 40, 112, 114, 101, 32, 98, 41, 32, 119, 104, 101, 110, 32, 99, 41, 32, 40, 98, 32, 119, 104, 101, 110, 32, 110, 111, 116, 32, 99, 41]], .agg [.int .i64 (28), .int .i64 (24)])]
theorem plays2x17 : Go.AE.tabPlays cfg1 100000000 tab2x17 = true := by kernel_rfl
noncomputable def tab2 : List (Nat × List Go.AE.AV × Go.AE.AV) := tab2x0 ++ (tab2x1 ++ (tab2x2 ++ (tab2x3 ++ (tab2x4 ++ (tab2x5 ++ (tab2x6 ++ (tab2x7 ++ (tab2x8 ++ (tab2x9 ++ (tab2x10 ++ (tab2x11 ++ (tab2x12 ++ (tab2x13 ++ (tab2x14 ++ (tab2x15 ++ (tab2x16 ++ (tab2x17)))))))))))))))))
theorem tab2_ok : Go.AE.tabOk tab2 = true := by kernel_rfl
theorem tab2_plays : ∀ x ∈ tab2, ∃ m, Go.AE.runCall cfg1 m x.1 x.2.1 = some x.2.2 := Go.AE.tabPlays_app (Go.AE.tabPlays_mem plays2x0) (Go.AE.tabPlays_app (Go.AE.tabPlays_mem plays2x1) (Go.AE.tabPlays_app (Go.AE.tabPlays_mem plays2x2) (Go.AE.tabPlays_app (Go.AE.tabPlays_mem plays2x3) (Go.AE.tabPlays_app (Go.AE.tabPlays_mem plays2x4) (Go.AE.tabPlays_app (Go.AE.tabPlays_mem plays2x5) (Go.AE.tabPlays_app (Go.AE.tabPlays_mem plays2x6) (Go.AE.tabPlays_app (Go.AE.tabPlays_mem plays2x7) (Go.AE.tabPlays_app (Go.AE.tabPlays_mem plays2x8) (Go.AE.tabPlays_app (Go.AE.tabPlays_mem plays2x9) (Go.AE.tabPlays_app (Go.AE.tabPlays_mem plays2x10) (Go.AE.tabPlays_app (Go.AE.tabPlays_mem plays2x11) (Go.AE.tabPlays_app (Go.AE.tabPlays_mem plays2x12) (Go.AE.tabPlays_app (Go.AE.tabPlays_mem plays2x13) (Go.AE.tabPlays_app (Go.AE.tabPlays_mem plays2x14) (Go.AE.tabPlays_app (Go.AE.tabPlays_mem plays2x15) (Go.AE.tabPlays_app (Go.AE.tabPlays_mem plays2x16) (Go.AE.tabPlays_mem plays2x17)))))))))))))))))
noncomputable def cfg2 : Go.AE.Cfg := ⟨Tryz.prog, Go.AE.setAll lv.2 .nil, lv.1, Go.AE.orcTab (Go.AE.orcTab (Go.AE.orcClone 117 (Go.AE.orcIx 94)) tab1) tab2, Tryz.prog.globals.size⟩

end Go.Proofs.YtiepabmjdodhjaaGreatDoor
