/- Parts of the play of the law SchedKnown, each checked by the kernel; no condition. -/
import Derived.Test.YtfaiekpkahconadGreatDoorPartA
namespace Go.Proofs.YtfaiekpkahconadGreatDoor
open Go.ChangeShapes Go.WideShapes Go.ChangeAt Go.RowKit

noncomputable def todo3 : List Go.AE.AItem := [.code (Go.AE.codeOf Tryz.prog 40 [1, 1, 1])]
noncomputable def fx3 : Go.AE.FX := ⟨40, 32, 270434517, [], false, none, [⟨41, 61, 253628765, .node (some (.ptr 28965 0)) .nil (.node (some (.int .i64 (0))) .nil .nil), [.waitS (Go.AE.opsOf (Go.AE.codeOf Tryz.prog 41 [1, 0, 0])) [(0, .ptr 28965 0)] 1 (Go.AE.restOf cfg2 61 253628765 (Go.AE.opsOf (Go.AE.codeOf Tryz.prog 41 [1, 0, 0])) 2) (Go.AE.finOf 253628765 (Go.AE.opsOf (Go.AE.codeOf Tryz.prog 41 [1, 0, 0])).toList 0), .code (Go.AE.codeOf Tryz.prog 41 [1, 0, 1]), .code (Go.AE.codeOf Tryz.prog 41 [1, 1])], [], .run, false, none⟩,
 ⟨23, 61, 17592186079357, .node (some (.ptr 28965 0)) (.node none (.node (some (.ptr 30454 0)) .nil (.node (some (.bool false)) .nil .nil)) .nil) (.node (some .nilptr) (.node (some (.ptr 34677 0)) .nil .nil) .nil), [.waitS (Go.AE.opsOf (Go.AE.codeOf Tryz.prog 23 [1, 1, 0, 0])) [(0, .ptr 28965 0)] 1 (Go.AE.restOf cfg2 61 17592186079357 (Go.AE.opsOf (Go.AE.codeOf Tryz.prog 23 [1, 1, 0, 0])) 2) (Go.AE.finOf 17592186079357 (Go.AE.opsOf (Go.AE.codeOf Tryz.prog 23 [1, 1, 0, 0])).toList 0), .code (Go.AE.codeOf Tryz.prog 23 [1, 1, 0, 1]), .code (Go.AE.codeOf Tryz.prog 23 [1, 1, 1])], [], .run, false, none⟩,
 ⟨9, 36, 17314119933, .node (some (.slice 25925 0 59 59)) (.node none (.node (some (.ptr 28965 0)) (.node none (.node (some (.bool false)) .nil .nil) .nil) .nil) .nil) (.node (some .nilptr) (.node (some (.ptr 30453 0)) .nil .nil) .nil), [.waitS (Go.AE.opsOf (Go.AE.codeOf Tryz.prog 9 [1, 1, 1, 0])) [(0, .ptr 28965 0)] 1 (Go.AE.restOf cfg2 36 17314119933 (Go.AE.opsOf (Go.AE.codeOf Tryz.prog 9 [1, 1, 1, 0])) 2) (Go.AE.finOf 17314119933 (Go.AE.opsOf (Go.AE.codeOf Tryz.prog 9 [1, 1, 1, 0])).toList 0), .code (Go.AE.codeOf Tryz.prog 9 [1, 1, 1, 1])], [], .run, false, none⟩,
 shf16,
 shf17]⟩
noncomputable def tr3 : Go.AE.Tr Go.AE.AV := .node (some (.ptr 28965 0)) (.node none (.node none (.node (some (.ptr 38899 0)) (.node (some (.bool false)) .nil .nil) .nil) (.node none (.node (some (.int .i64 (3))) .nil .nil) .nil)) (.node none (.node none (.node (some (.slice 35615 0 3 3)) .nil .nil) .nil) .nil)) (.node (some (.ptr 34678 0)) (.node (some (.ptr 35614 0)) .nil (.node none (.node (some (.bool false)) .nil .nil) (.node (some (.bool false)) .nil .nil))) (.node (some (.func (.func 79) [] [])) (.node none (.node (some (.int .i64 (3))) .nil .nil) .nil) .nil))
noncomputable def ob3 : Go.AE.Tr Go.AE.AObj := Go.AE.setL cfg2 [sho0,
 sho1,
 sho2,
 sho3,
 sho4,
 sho5,
 sho6,
 sho7,
 sho8,
 sho9,
 sho10,
 sho11,
 sho12,
 sho13,
 sho14,
 sho15,
 (28965, .cells (.node (some (.sliceU 30438 0 1 6)) .nil .nil) 1 .own),
 (29131, .cells (.node (some (.str [97])) (.node (some (.int .i64 (7))) (.node (some (.bool false)) (.node (some (.bool false)) .nil .nil) .nil) (.node (some (.str [])) .nil .nil)) (.node (some (.bool false)) (.node (some (.int .i64 (8))) .nil .nil) (.node (some (.int .i64 (0))) .nil .nil))) 8 (.grow [])),
 (29301, .cells (.node (some (.str [120])) (.node (some (.int .i64 (23))) (.node (some (.bool false)) (.node (some (.bool false)) .nil .nil) .nil) (.node (some (.str [])) .nil .nil)) (.node (some (.bool false)) (.node (some (.int .i64 (8))) .nil .nil) (.node (some (.int .i64 (0))) .nil .nil))) 8 (.grow [])),
 (29457, .cells (.node (some (.str [120])) .nil .nil) 1 (.grow [])),
 (29458, .cells (.node (some (.int .i64 (34))) .nil .nil) 1 (.grow [])),
 (29537, .cells (.node (some (.int .i64 (1))) (.node (some (.int .i64 (38))) (.node (some (.bool false)) (.node (some (.int .u64 (0))) .nil .nil) .nil) (.node (some (.bool false)) .nil .nil)) (.node (some (.str [])) (.node (some (.bool false)) (.node (some .nilslice) .nil .nil) .nil) (.node (some (.int .i64 (8))) .nil .nil))) 9 .own),
 (29825, .cells (.node (some (.ptr 29537 0)) (.node (some (.ptr 30050 0)) .nil .nil) .nil) 2 .own),
 (29827, .cells (.node (some (.int .i64 (22))) (.node (some (.int .i64 (42))) (.node (some (.bool false)) (.node (some (.int .u64 (0))) .nil .nil) .nil) (.node (some (.bool false)) .nil .nil)) (.node (some (.str [])) (.node (some (.bool false)) (.node (some (.slice 29825 0 2 2)) .nil .nil) .nil) (.node (some (.int .i64 (0))) .nil .nil))) 9 .own),
 (29883, .cells (.node (some (.ptr 29948 0)) .nil .nil) 1 .own),
 (29885, .cells (.node (some (.int .i64 (5))) (.node (some (.int .i64 (45))) (.node (some (.bool false)) (.node (some (.int .u64 (0))) .nil .nil) .nil) (.node (some (.bool false)) .nil .nil)) (.node (some (.str [])) (.node (some (.bool false)) (.node (some (.slice 29883 0 1 1)) .nil .nil) .nil) (.node (some (.int .i64 (0))) .nil .nil))) 9 .own),
 (29948, .cells (.node (some (.int .i64 (2))) (.node (some (.int .i64 (49))) (.node (some (.bool false)) (.node (some (.int .u64 (0))) .nil .nil) .nil) (.node (some (.bool false)) .nil .nil)) (.node (some (.str [120])) (.node (some (.bool false)) (.node (some .nilslice) .nil .nil) .nil) (.node (some (.int .i64 (0))) .nil .nil))) 9 .own),
 (30050, .cells (.node (some (.int .i64 (16))) (.node (some (.int .i64 (51))) (.node (some (.bool false)) (.node (some (.int .u64 (0))) .nil .nil) .nil) (.node (some (.bool false)) .nil .nil)) (.node (some (.str [])) (.node (some (.bool false)) (.node (some (.slice 30198 0 2 2)) .nil .nil) .nil) (.node (some (.int .i64 (0))) .nil .nil))) 9 .own),
 (30112, .cells (.node (some (.int .i64 (2))) (.node (some (.int .i64 (53))) (.node (some (.bool false)) (.node (some (.int .u64 (0))) .nil .nil) .nil) (.node (some (.bool false)) .nil .nil)) (.node (some (.str [97])) (.node (some (.bool false)) (.node (some .nilslice) .nil .nil) .nil) (.node (some (.int .i64 (0))) .nil .nil))) 9 .own),
 (30198, .cells (.node (some (.ptr 29885 0)) (.node (some (.ptr 30112 0)) .nil .nil) .nil) 2 .own),
 (30422, .cells (.node (some (.sliceU 29457 0 1 1)) (.node (some (.sliceU 29458 0 1 1)) (.node (some (.ptr 29827 0)) .nil .nil) .nil) (.node (some (.int .i64 (36))) .nil .nil)) 4 (.grow [])),
 (30438, .cells (.node (some (.str [102])) (.node (some (.int .i64 (5))) (.node (some (.sliceU 29301 0 1 8)) .nil .nil) (.node (some (.sliceU 30422 0 1 4)) .nil .nil)) (.node (some (.sliceU 29131 0 1 8)) (.node (some .nilslice) .nil .nil) .nil)) 6 (.grow [])),
 (30453, .cells (.node (some (.int .i64 (0))) (.node (some (.int .i64 (0))) .nil .nil) .nil) 2 .own),
 (30454, .cells (.node (some (.int .i64 (0))) (.node (some (.int .i64 (0))) .nil .nil) .nil) 2 .own),
 (34677, .cells (.node (some (.int .i64 (0))) (.node (some (.int .i64 (0))) .nil .nil) .nil) 2 .own),
 (34678, .cells (.node (some (.int .i64 (0))) (.node (some (.int .i64 (0))) .nil .nil) .nil) 2 .own),
 (35614, .cells (.node (some (.int .i64 (0))) (.node (some (.int .i64 (0))) .nil .nil) .nil) 2 .own),
 (35615, .cells (.node (some (.func (.func 77) [] [])) (.node (some (.func (.func 78) [] [])) .nil .nil) (.node (some (.func (.func 79) [] [])) .nil .nil)) 3 .own),
 (38899, .cells (.node (some (.int .i64 (0))) (.node (some (.int .i64 (0))) .nil .nil) .nil) 2 .own)] .nil
theorem part3 (b : Go.AE.KT) : Go.AE.runAt cfg2 40 38900 0 (Go.AE.gc cfg2 [21006, 21169, 21281, 21297, 21352, 21408, 21565, 21571, 21572, 24876, 24883, 25013, 25237, 25871, 25872, 25925, 28965, 29131, 29301, 29457, 29458, 29537, 29825, 29827, 29883, 29885, 29948, 30050, 30112, 30198, 30422, 30438, 30453, 30454, 34677, 34678, 35614, 35615, 38899] b) 100000000 .run todo2 fx2 tr2 ob2 26077 = b .run todo3 fx3 tr3 ob3 38900 := by kernel_rfl
theorem partEnd : Go.AE.run cfg2 100000000 .run todo3 fx3 tr3 ob3 38900 = some (.bool true) := by kernel_rfl

end Go.Proofs.YtfaiekpkahconadGreatDoor
