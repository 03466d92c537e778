/- Parts of the play of the law ModelKnown, each checked by the kernel; no condition. -/
import Derived.Test.YtggompagkfmgnaaGreatDoorPartB
namespace Go.Proofs.YtggompagkfmgnaaGreatDoor
open Go.ChangeShapes Go.WideShapes Go.ChangeAt Go.RowKit

noncomputable def todo6 : List Go.AE.AItem := [.code (Go.AE.codeOf Tryz.prog 64 [])]
noncomputable def sho128 : Nat × Go.AE.AObj := (88906, .cells (.node (some (.str [97])) (.node (some (.int .i64 (53))) (.node (some (.bool false)) (.node (some (.bool false)) .nil .nil) .nil) (.node (some (.str [])) .nil .nil)) (.node (some (.bool false)) (.node (some (.int .i64 (1))) .nil .nil) (.node (some (.int .i64 (0))) .nil .nil))) 8 (.grow ⟨[], 77⟩))
noncomputable def sho129 : Nat × Go.AE.AObj := (89076, .cells (.node (some (.str [98])) (.node (some (.int .i64 (69))) (.node (some (.bool false)) (.node (some (.bool false)) .nil .nil) .nil) (.node (some (.str [])) .nil .nil)) (.node (some (.bool false)) (.node (some (.int .i64 (1))) .nil .nil) (.node (some (.int .i64 (0))) .nil .nil))) 8 (.grow ⟨[], 77⟩))
noncomputable def sho130 : Nat × Go.AE.AObj := (89232, .cells (.node (some (.str [98])) .nil .nil) 1 (.grow ⟨[], 9⟩))
noncomputable def sho131 : Nat × Go.AE.AObj := (89233, .cells (.node (some (.int .i64 (80))) .nil .nil) 1 (.grow ⟨[], 3⟩))
noncomputable def sho132 : Nat × Go.AE.AObj := (89312, .cells (.node (some (.int .i64 (25))) (.node (some (.int .i64 (84))) (.node (some (.bool false)) (.node (some (.int .u64 (0))) .nil .nil) .nil) (.node (some (.bool false)) .nil .nil)) (.node (some (.str [102, 48])) (.node (some (.bool false)) (.node (some (.slice 90107 0 1 1)) .nil .nil) .nil) (.node (some (.int .i64 (0))) .nil .nil))) 9 .own)
noncomputable def sho133 : Nat × Go.AE.AObj := (89414, .cells (.node (some (.int .i64 (25))) (.node (some (.int .i64 (87))) (.node (some (.bool false)) (.node (some (.int .u64 (0))) .nil .nil) .nil) (.node (some (.bool false)) .nil .nil)) (.node (some (.str [102, 48])) (.node (some (.bool false)) (.node (some (.slice 89808 0 1 1)) .nil .nil) .nil) (.node (some (.int .i64 (0))) .nil .nil))) 9 .own)
noncomputable def sho134 : Nat × Go.AE.AObj := (89516, .cells (.node (some (.int .i64 (2))) (.node (some (.int .i64 (90))) (.node (some (.bool false)) (.node (some (.int .u64 (0))) .nil .nil) .nil) (.node (some (.bool false)) .nil .nil)) (.node (some (.str [97])) (.node (some (.bool false)) (.node (some .nilslice) .nil .nil) .nil) (.node (some (.int .i64 (0))) .nil .nil))) 9 .own)
noncomputable def sho135 : Nat × Go.AE.AObj := (89808, .cells (.node (some (.ptr 89516 0)) .nil .nil) 1 .own)
noncomputable def sho136 : Nat × Go.AE.AObj := (90107, .cells (.node (some (.ptr 89414 0)) .nil .nil) 1 .own)
noncomputable def sho137 : Nat × Go.AE.AObj := (90423, .cells (.node (some (.sliceU 89232 0 1 1)) (.node (some (.sliceU 89233 0 1 1)) (.node (some (.ptr 89312 0)) .nil .nil) .nil) (.node (some (.int .i64 (82))) .nil .nil)) 4 (.grow ⟨[], 110⟩))
noncomputable def sho138 : Nat × Go.AE.AObj := (90617, .cells (.node (some (.str [97])) (.node (some (.int .i64 (106))) (.node (some (.bool false)) (.node (some (.bool false)) .nil .nil) .nil) (.node (some (.str [])) .nil .nil)) (.node (some (.bool false)) (.node (some (.int .i64 (1))) .nil .nil) (.node (some (.int .i64 (0))) .nil .nil))) 8 (.grow ⟨[], 77⟩))
noncomputable def sho139 : Nat × Go.AE.AObj := (90787, .cells (.node (some (.str [98])) (.node (some (.int .i64 (122))) (.node (some (.bool false)) (.node (some (.bool false)) .nil .nil) .nil) (.node (some (.str [])) .nil .nil)) (.node (some (.bool false)) (.node (some (.int .i64 (1))) .nil .nil) (.node (some (.int .i64 (0))) .nil .nil))) 8 (.grow ⟨[], 77⟩))
noncomputable def sho140 : Nat × Go.AE.AObj := (90943, .cells (.node (some (.str [98])) .nil .nil) 1 (.grow ⟨[], 9⟩))
noncomputable def sho141 : Nat × Go.AE.AObj := (90944, .cells (.node (some (.int .i64 (133))) .nil .nil) 1 (.grow ⟨[], 3⟩))
noncomputable def sho142 : Nat × Go.AE.AObj := (91023, .cells (.node (some (.int .i64 (25))) (.node (some (.int .i64 (137))) (.node (some (.bool false)) (.node (some (.int .u64 (0))) .nil .nil) .nil) (.node (some (.bool false)) .nil .nil)) (.node (some (.str [98])) (.node (some (.bool false)) (.node (some (.slice 91818 0 1 1)) .nil .nil) .nil) (.node (some (.int .i64 (0))) .nil .nil))) 9 .own)
noncomputable def sho143 : Nat × Go.AE.AObj := (91125, .cells (.node (some (.int .i64 (25))) (.node (some (.int .i64 (139))) (.node (some (.bool false)) (.node (some (.int .u64 (0))) .nil .nil) .nil) (.node (some (.bool false)) .nil .nil)) (.node (some (.str [98])) (.node (some (.bool false)) (.node (some (.slice 91519 0 1 1)) .nil .nil) .nil) (.node (some (.int .i64 (0))) .nil .nil))) 9 .own)
noncomputable def sho144 : Nat × Go.AE.AObj := (91227, .cells (.node (some (.int .i64 (2))) (.node (some (.int .i64 (141))) (.node (some (.bool false)) (.node (some (.int .u64 (0))) .nil .nil) .nil) (.node (some (.bool false)) .nil .nil)) (.node (some (.str [97])) (.node (some (.bool false)) (.node (some .nilslice) .nil .nil) .nil) (.node (some (.int .i64 (0))) .nil .nil))) 9 .own)
noncomputable def sho145 : Nat × Go.AE.AObj := (91519, .cells (.node (some (.ptr 91227 0)) .nil .nil) 1 .own)
noncomputable def sho146 : Nat × Go.AE.AObj := (91818, .cells (.node (some (.ptr 91125 0)) .nil .nil) 1 .own)
noncomputable def sho147 : Nat × Go.AE.AObj := (92134, .cells (.node (some (.sliceU 90943 0 1 1)) (.node (some (.sliceU 90944 0 1 1)) (.node (some (.ptr 91023 0)) .nil .nil) .nil) (.node (some (.int .i64 (135))) .nil .nil)) 4 (.grow ⟨[], 110⟩))
noncomputable def sho148 : Nat × Go.AE.AObj := (92328, .cells (.node (some (.str [97])) (.node (some (.int .i64 (157))) (.node (some (.bool false)) (.node (some (.bool false)) .nil .nil) .nil) (.node (some (.str [])) .nil .nil)) (.node (some (.bool false)) (.node (some (.int .i64 (1))) .nil .nil) (.node (some (.int .i64 (0))) .nil .nil))) 8 (.grow ⟨[], 77⟩))
noncomputable def sho149 : Nat × Go.AE.AObj := (92498, .cells (.node (some (.str [98])) (.node (some (.int .i64 (173))) (.node (some (.bool false)) (.node (some (.bool false)) .nil .nil) .nil) (.node (some (.str [])) .nil .nil)) (.node (some (.bool false)) (.node (some (.int .i64 (1))) .nil .nil) (.node (some (.int .i64 (0))) .nil .nil))) 8 (.grow ⟨[], 77⟩))
noncomputable def sho150 : Nat × Go.AE.AObj := (92654, .cells (.node (some (.str [98])) .nil .nil) 1 (.grow ⟨[], 9⟩))
noncomputable def sho151 : Nat × Go.AE.AObj := (92655, .cells (.node (some (.int .i64 (184))) .nil .nil) 1 (.grow ⟨[], 3⟩))
noncomputable def sho152 : Nat × Go.AE.AObj := (92734, .cells (.node (some (.int .i64 (25))) (.node (some (.int .i64 (188))) (.node (some (.bool false)) (.node (some (.int .u64 (0))) .nil .nil) .nil) (.node (some (.bool false)) .nil .nil)) (.node (some (.str [99])) (.node (some (.bool false)) (.node (some (.slice 93529 0 1 1)) .nil .nil) .nil) (.node (some (.int .i64 (0))) .nil .nil))) 9 .own)
noncomputable def sho153 : Nat × Go.AE.AObj := (92836, .cells (.node (some (.int .i64 (25))) (.node (some (.int .i64 (190))) (.node (some (.bool false)) (.node (some (.int .u64 (0))) .nil .nil) .nil) (.node (some (.bool false)) .nil .nil)) (.node (some (.str [99])) (.node (some (.bool false)) (.node (some (.slice 93230 0 1 1)) .nil .nil) .nil) (.node (some (.int .i64 (0))) .nil .nil))) 9 .own)
noncomputable def sho154 : Nat × Go.AE.AObj := (92938, .cells (.node (some (.int .i64 (2))) (.node (some (.int .i64 (192))) (.node (some (.bool false)) (.node (some (.int .u64 (0))) .nil .nil) .nil) (.node (some (.bool false)) .nil .nil)) (.node (some (.str [97])) (.node (some (.bool false)) (.node (some .nilslice) .nil .nil) .nil) (.node (some (.int .i64 (0))) .nil .nil))) 9 .own)
noncomputable def sho155 : Nat × Go.AE.AObj := (93230, .cells (.node (some (.ptr 92938 0)) .nil .nil) 1 .own)
noncomputable def sho156 : Nat × Go.AE.AObj := (93529, .cells (.node (some (.ptr 92836 0)) .nil .nil) 1 .own)
noncomputable def sho157 : Nat × Go.AE.AObj := (93845, .cells (.node (some (.sliceU 92654 0 1 1)) (.node (some (.sliceU 92655 0 1 1)) (.node (some (.ptr 92734 0)) .nil .nil) .nil) (.node (some (.int .i64 (186))) .nil .nil)) 4 (.grow ⟨[], 110⟩))
noncomputable def sho158 : Nat × Go.AE.AObj := (94039, .cells (.node (some (.str [97])) (.node (some (.int .i64 (208))) (.node (some (.bool false)) (.node (some (.bool false)) .nil .nil) .nil) (.node (some (.str [])) .nil .nil)) (.node (some (.bool false)) (.node (some (.int .i64 (1))) .nil .nil) (.node (some (.int .i64 (0))) .nil .nil))) 8 (.grow ⟨[], 77⟩))
noncomputable def sho159 : Nat × Go.AE.AObj := (94209, .cells (.node (some (.str [98])) (.node (some (.int .i64 (224))) (.node (some (.bool false)) (.node (some (.bool false)) .nil .nil) .nil) (.node (some (.str [])) .nil .nil)) (.node (some (.bool false)) (.node (some (.int .i64 (1))) .nil .nil) (.node (some (.int .i64 (0))) .nil .nil))) 8 (.grow ⟨[], 77⟩))
noncomputable def sho160 : Nat × Go.AE.AObj := (94365, .cells (.node (some (.str [98])) .nil .nil) 1 (.grow ⟨[], 9⟩))
noncomputable def sho161 : Nat × Go.AE.AObj := (94366, .cells (.node (some (.int .i64 (235))) .nil .nil) 1 (.grow ⟨[], 3⟩))
noncomputable def sho162 : Nat × Go.AE.AObj := (94445, .cells (.node (some (.int .i64 (25))) (.node (some (.int .i64 (239))) (.node (some (.bool false)) (.node (some (.int .u64 (0))) .nil .nil) .nil) (.node (some (.bool false)) .nil .nil)) (.node (some (.str [100])) (.node (some (.bool false)) (.node (some (.slice 95240 0 1 1)) .nil .nil) .nil) (.node (some (.int .i64 (0))) .nil .nil))) 9 .own)
noncomputable def sho163 : Nat × Go.AE.AObj := (94547, .cells (.node (some (.int .i64 (25))) (.node (some (.int .i64 (241))) (.node (some (.bool false)) (.node (some (.int .u64 (0))) .nil .nil) .nil) (.node (some (.bool false)) .nil .nil)) (.node (some (.str [100])) (.node (some (.bool false)) (.node (some (.slice 94941 0 1 1)) .nil .nil) .nil) (.node (some (.int .i64 (0))) .nil .nil))) 9 .own)
noncomputable def sho164 : Nat × Go.AE.AObj := (94649, .cells (.node (some (.int .i64 (2))) (.node (some (.int .i64 (243))) (.node (some (.bool false)) (.node (some (.int .u64 (0))) .nil .nil) .nil) (.node (some (.bool false)) .nil .nil)) (.node (some (.str [97])) (.node (some (.bool false)) (.node (some .nilslice) .nil .nil) .nil) (.node (some (.int .i64 (0))) .nil .nil))) 9 .own)
noncomputable def sho165 : Nat × Go.AE.AObj := (94941, .cells (.node (some (.ptr 94649 0)) .nil .nil) 1 .own)
noncomputable def sho166 : Nat × Go.AE.AObj := (95240, .cells (.node (some (.ptr 94547 0)) .nil .nil) 1 .own)
noncomputable def sho167 : Nat × Go.AE.AObj := (95556, .cells (.node (some (.sliceU 94365 0 1 1)) (.node (some (.sliceU 94366 0 1 1)) (.node (some (.ptr 94445 0)) .nil .nil) .nil) (.node (some (.int .i64 (237))) .nil .nil)) 4 (.grow ⟨[], 110⟩))
noncomputable def sho168 : Nat × Go.AE.AObj := (95750, .cells (.node (some (.str [97])) (.node (some (.int .i64 (259))) (.node (some (.bool false)) (.node (some (.bool false)) .nil .nil) .nil) (.node (some (.str [])) .nil .nil)) (.node (some (.bool false)) (.node (some (.int .i64 (1))) .nil .nil) (.node (some (.int .i64 (0))) .nil .nil))) 8 (.grow ⟨[], 77⟩))
noncomputable def sho169 : Nat × Go.AE.AObj := (95920, .cells (.node (some (.str [98])) (.node (some (.int .i64 (275))) (.node (some (.bool false)) (.node (some (.bool false)) .nil .nil) .nil) (.node (some (.str [])) .nil .nil)) (.node (some (.bool false)) (.node (some (.int .i64 (1))) .nil .nil) (.node (some (.int .i64 (0))) .nil .nil))) 8 (.grow ⟨[], 77⟩))
noncomputable def sho170 : Nat × Go.AE.AObj := (96076, .cells (.node (some (.str [98])) .nil .nil) 1 (.grow ⟨[], 9⟩))
noncomputable def sho171 : Nat × Go.AE.AObj := (96077, .cells (.node (some (.int .i64 (286))) .nil .nil) 1 (.grow ⟨[], 3⟩))
noncomputable def sho172 : Nat × Go.AE.AObj := (96156, .cells (.node (some (.int .i64 (25))) (.node (some (.int .i64 (290))) (.node (some (.bool false)) (.node (some (.int .u64 (0))) .nil .nil) .nil) (.node (some (.bool false)) .nil .nil)) (.node (some (.str [101])) (.node (some (.bool false)) (.node (some (.slice 96951 0 1 1)) .nil .nil) .nil) (.node (some (.int .i64 (0))) .nil .nil))) 9 .own)
noncomputable def sho173 : Nat × Go.AE.AObj := (96258, .cells (.node (some (.int .i64 (25))) (.node (some (.int .i64 (292))) (.node (some (.bool false)) (.node (some (.int .u64 (0))) .nil .nil) .nil) (.node (some (.bool false)) .nil .nil)) (.node (some (.str [101])) (.node (some (.bool false)) (.node (some (.slice 96652 0 1 1)) .nil .nil) .nil) (.node (some (.int .i64 (0))) .nil .nil))) 9 .own)
noncomputable def sho174 : Nat × Go.AE.AObj := (96360, .cells (.node (some (.int .i64 (2))) (.node (some (.int .i64 (294))) (.node (some (.bool false)) (.node (some (.int .u64 (0))) .nil .nil) .nil) (.node (some (.bool false)) .nil .nil)) (.node (some (.str [97])) (.node (some (.bool false)) (.node (some .nilslice) .nil .nil) .nil) (.node (some (.int .i64 (0))) .nil .nil))) 9 .own)
noncomputable def sho175 : Nat × Go.AE.AObj := (96652, .cells (.node (some (.ptr 96360 0)) .nil .nil) 1 .own)
noncomputable def sho176 : Nat × Go.AE.AObj := (96951, .cells (.node (some (.ptr 96258 0)) .nil .nil) 1 .own)
noncomputable def sho177 : Nat × Go.AE.AObj := (97267, .cells (.node (some (.sliceU 96076 0 1 1)) (.node (some (.sliceU 96077 0 1 1)) (.node (some (.ptr 96156 0)) .nil .nil) .nil) (.node (some (.int .i64 (288))) .nil .nil)) 4 (.grow ⟨[], 110⟩))
noncomputable def sho178 : Nat × Go.AE.AObj := (97461, .cells (.node (some (.str [97])) (.node (some (.int .i64 (310))) (.node (some (.bool false)) (.node (some (.bool false)) .nil .nil) .nil) (.node (some (.str [])) .nil .nil)) (.node (some (.bool false)) (.node (some (.int .i64 (1))) .nil .nil) (.node (some (.int .i64 (0))) .nil .nil))) 8 (.grow ⟨[], 77⟩))
noncomputable def sho179 : Nat × Go.AE.AObj := (97631, .cells (.node (some (.str [98])) (.node (some (.int .i64 (326))) (.node (some (.bool false)) (.node (some (.bool false)) .nil .nil) .nil) (.node (some (.str [])) .nil .nil)) (.node (some (.bool false)) (.node (some (.int .i64 (1))) .nil .nil) (.node (some (.int .i64 (0))) .nil .nil))) 8 (.grow ⟨[], 77⟩))
noncomputable def sho180 : Nat × Go.AE.AObj := (97787, .cells (.node (some (.str [98])) .nil .nil) 1 (.grow ⟨[], 9⟩))
noncomputable def sho181 : Nat × Go.AE.AObj := (97788, .cells (.node (some (.int .i64 (337))) .nil .nil) 1 (.grow ⟨[], 3⟩))
noncomputable def sho182 : Nat × Go.AE.AObj := (97867, .cells (.node (some (.int .i64 (25))) (.node (some (.int .i64 (341))) (.node (some (.bool false)) (.node (some (.int .u64 (0))) .nil .nil) .nil) (.node (some (.bool false)) .nil .nil)) (.node (some (.str [102])) (.node (some (.bool false)) (.node (some (.slice 98662 0 1 1)) .nil .nil) .nil) (.node (some (.int .i64 (0))) .nil .nil))) 9 .own)
noncomputable def sho183 : Nat × Go.AE.AObj := (97969, .cells (.node (some (.int .i64 (25))) (.node (some (.int .i64 (343))) (.node (some (.bool false)) (.node (some (.int .u64 (0))) .nil .nil) .nil) (.node (some (.bool false)) .nil .nil)) (.node (some (.str [102])) (.node (some (.bool false)) (.node (some (.slice 98363 0 1 1)) .nil .nil) .nil) (.node (some (.int .i64 (0))) .nil .nil))) 9 .own)
noncomputable def sho184 : Nat × Go.AE.AObj := (98071, .cells (.node (some (.int .i64 (2))) (.node (some (.int .i64 (345))) (.node (some (.bool false)) (.node (some (.int .u64 (0))) .nil .nil) .nil) (.node (some (.bool false)) .nil .nil)) (.node (some (.str [97])) (.node (some (.bool false)) (.node (some .nilslice) .nil .nil) .nil) (.node (some (.int .i64 (0))) .nil .nil))) 9 .own)
noncomputable def sho185 : Nat × Go.AE.AObj := (98363, .cells (.node (some (.ptr 98071 0)) .nil .nil) 1 .own)
noncomputable def sho186 : Nat × Go.AE.AObj := (98662, .cells (.node (some (.ptr 97969 0)) .nil .nil) 1 .own)
noncomputable def sho187 : Nat × Go.AE.AObj := (98978, .cells (.node (some (.sliceU 97787 0 1 1)) (.node (some (.sliceU 97788 0 1 1)) (.node (some (.ptr 97867 0)) .nil .nil) .nil) (.node (some (.int .i64 (339))) .nil .nil)) 4 (.grow ⟨[], 110⟩))
noncomputable def sho188 : Nat × Go.AE.AObj := (99172, .cells (.node (some (.str [97])) (.node (some (.int .i64 (361))) (.node (some (.bool false)) (.node (some (.bool false)) .nil .nil) .nil) (.node (some (.str [])) .nil .nil)) (.node (some (.bool false)) (.node (some (.int .i64 (1))) .nil .nil) (.node (some (.int .i64 (0))) .nil .nil))) 8 (.grow ⟨[], 77⟩))
noncomputable def sho189 : Nat × Go.AE.AObj := (99342, .cells (.node (some (.str [98])) (.node (some (.int .i64 (377))) (.node (some (.bool false)) (.node (some (.bool false)) .nil .nil) .nil) (.node (some (.str [])) .nil .nil)) (.node (some (.bool false)) (.node (some (.int .i64 (1))) .nil .nil) (.node (some (.int .i64 (0))) .nil .nil))) 8 (.grow ⟨[], 77⟩))
noncomputable def sho190 : Nat × Go.AE.AObj := (99498, .cells (.node (some (.str [98])) .nil .nil) 1 (.grow ⟨[], 9⟩))
noncomputable def sho191 : Nat × Go.AE.AObj := (99499, .cells (.node (some (.int .i64 (388))) .nil .nil) 1 (.grow ⟨[], 3⟩))
noncomputable def sho192 : Nat × Go.AE.AObj := (99578, .cells (.node (some (.int .i64 (25))) (.node (some (.int .i64 (392))) (.node (some (.bool false)) (.node (some (.int .u64 (0))) .nil .nil) .nil) (.node (some (.bool false)) .nil .nil)) (.node (some (.str [103])) (.node (some (.bool false)) (.node (some (.slice 100373 0 1 1)) .nil .nil) .nil) (.node (some (.int .i64 (0))) .nil .nil))) 9 .own)
noncomputable def sho193 : Nat × Go.AE.AObj := (99680, .cells (.node (some (.int .i64 (25))) (.node (some (.int .i64 (394))) (.node (some (.bool false)) (.node (some (.int .u64 (0))) .nil .nil) .nil) (.node (some (.bool false)) .nil .nil)) (.node (some (.str [103])) (.node (some (.bool false)) (.node (some (.slice 100074 0 1 1)) .nil .nil) .nil) (.node (some (.int .i64 (0))) .nil .nil))) 9 .own)
noncomputable def sho194 : Nat × Go.AE.AObj := (99782, .cells (.node (some (.int .i64 (2))) (.node (some (.int .i64 (396))) (.node (some (.bool false)) (.node (some (.int .u64 (0))) .nil .nil) .nil) (.node (some (.bool false)) .nil .nil)) (.node (some (.str [97])) (.node (some (.bool false)) (.node (some .nilslice) .nil .nil) .nil) (.node (some (.int .i64 (0))) .nil .nil))) 9 .own)
noncomputable def sho195 : Nat × Go.AE.AObj := (100074, .cells (.node (some (.ptr 99782 0)) .nil .nil) 1 .own)
noncomputable def sho196 : Nat × Go.AE.AObj := (100373, .cells (.node (some (.ptr 99680 0)) .nil .nil) 1 .own)
noncomputable def sho197 : Nat × Go.AE.AObj := (100689, .cells (.node (some (.sliceU 99498 0 1 1)) (.node (some (.sliceU 99499 0 1 1)) (.node (some (.ptr 99578 0)) .nil .nil) .nil) (.node (some (.int .i64 (390))) .nil .nil)) 4 (.grow ⟨[], 110⟩))
noncomputable def sho198 : Nat × Go.AE.AObj := (100883, .cells (.node (some (.str [97])) (.node (some (.int .i64 (412))) (.node (some (.bool false)) (.node (some (.bool false)) .nil .nil) .nil) (.node (some (.str [])) .nil .nil)) (.node (some (.bool false)) (.node (some (.int .i64 (1))) .nil .nil) (.node (some (.int .i64 (0))) .nil .nil))) 8 (.grow ⟨[], 77⟩))
noncomputable def sho199 : Nat × Go.AE.AObj := (101053, .cells (.node (some (.str [98])) (.node (some (.int .i64 (428))) (.node (some (.bool false)) (.node (some (.bool false)) .nil .nil) .nil) (.node (some (.str [])) .nil .nil)) (.node (some (.bool false)) (.node (some (.int .i64 (1))) .nil .nil) (.node (some (.int .i64 (0))) .nil .nil))) 8 (.grow ⟨[], 77⟩))
noncomputable def sho200 : Nat × Go.AE.AObj := (101209, .cells (.node (some (.str [98])) .nil .nil) 1 (.grow ⟨[], 9⟩))
noncomputable def sho201 : Nat × Go.AE.AObj := (101210, .cells (.node (some (.int .i64 (439))) .nil .nil) 1 (.grow ⟨[], 3⟩))
noncomputable def sho202 : Nat × Go.AE.AObj := (101289, .cells (.node (some (.int .i64 (25))) (.node (some (.int .i64 (443))) (.node (some (.bool false)) (.node (some (.int .u64 (0))) .nil .nil) .nil) (.node (some (.bool false)) .nil .nil)) (.node (some (.str [104])) (.node (some (.bool false)) (.node (some (.slice 102084 0 1 1)) .nil .nil) .nil) (.node (some (.int .i64 (0))) .nil .nil))) 9 .own)
noncomputable def sho203 : Nat × Go.AE.AObj := (101391, .cells (.node (some (.int .i64 (25))) (.node (some (.int .i64 (445))) (.node (some (.bool false)) (.node (some (.int .u64 (0))) .nil .nil) .nil) (.node (some (.bool false)) .nil .nil)) (.node (some (.str [104])) (.node (some (.bool false)) (.node (some (.slice 101785 0 1 1)) .nil .nil) .nil) (.node (some (.int .i64 (0))) .nil .nil))) 9 .own)
noncomputable def sho204 : Nat × Go.AE.AObj := (101493, .cells (.node (some (.int .i64 (2))) (.node (some (.int .i64 (447))) (.node (some (.bool false)) (.node (some (.int .u64 (0))) .nil .nil) .nil) (.node (some (.bool false)) .nil .nil)) (.node (some (.str [97])) (.node (some (.bool false)) (.node (some .nilslice) .nil .nil) .nil) (.node (some (.int .i64 (0))) .nil .nil))) 9 .own)
noncomputable def sho205 : Nat × Go.AE.AObj := (101785, .cells (.node (some (.ptr 101493 0)) .nil .nil) 1 .own)
noncomputable def sho206 : Nat × Go.AE.AObj := (102084, .cells (.node (some (.ptr 101391 0)) .nil .nil) 1 .own)
noncomputable def sho207 : Nat × Go.AE.AObj := (102400, .cells (.node (some (.sliceU 101209 0 1 1)) (.node (some (.sliceU 101210 0 1 1)) (.node (some (.ptr 101289 0)) .nil .nil) .nil) (.node (some (.int .i64 (441))) .nil .nil)) 4 (.grow ⟨[], 110⟩))
noncomputable def sho208 : Nat × Go.AE.AObj := (102594, .cells (.node (some (.str [97])) (.node (some (.int .i64 (463))) (.node (some (.bool false)) (.node (some (.bool false)) .nil .nil) .nil) (.node (some (.str [])) .nil .nil)) (.node (some (.bool false)) (.node (some (.int .i64 (1))) .nil .nil) (.node (some (.int .i64 (0))) .nil .nil))) 8 (.grow ⟨[], 77⟩))
noncomputable def sho209 : Nat × Go.AE.AObj := (102764, .cells (.node (some (.str [98])) (.node (some (.int .i64 (479))) (.node (some (.bool false)) (.node (some (.bool false)) .nil .nil) .nil) (.node (some (.str [])) .nil .nil)) (.node (some (.bool false)) (.node (some (.int .i64 (1))) .nil .nil) (.node (some (.int .i64 (0))) .nil .nil))) 8 (.grow ⟨[], 77⟩))
noncomputable def sho210 : Nat × Go.AE.AObj := (102920, .cells (.node (some (.str [98])) .nil .nil) 1 (.grow ⟨[], 9⟩))
noncomputable def sho211 : Nat × Go.AE.AObj := (102921, .cells (.node (some (.int .i64 (490))) .nil .nil) 1 (.grow ⟨[], 3⟩))
noncomputable def sho212 : Nat × Go.AE.AObj := (103000, .cells (.node (some (.int .i64 (25))) (.node (some (.int .i64 (494))) (.node (some (.bool false)) (.node (some (.int .u64 (0))) .nil .nil) .nil) (.node (some (.bool false)) .nil .nil)) (.node (some (.str [105])) (.node (some (.bool false)) (.node (some (.slice 103795 0 1 1)) .nil .nil) .nil) (.node (some (.int .i64 (0))) .nil .nil))) 9 .own)
noncomputable def sho213 : Nat × Go.AE.AObj := (103102, .cells (.node (some (.int .i64 (25))) (.node (some (.int .i64 (496))) (.node (some (.bool false)) (.node (some (.int .u64 (0))) .nil .nil) .nil) (.node (some (.bool false)) .nil .nil)) (.node (some (.str [105])) (.node (some (.bool false)) (.node (some (.slice 103496 0 1 1)) .nil .nil) .nil) (.node (some (.int .i64 (0))) .nil .nil))) 9 .own)
noncomputable def sho214 : Nat × Go.AE.AObj := (103204, .cells (.node (some (.int .i64 (2))) (.node (some (.int .i64 (498))) (.node (some (.bool false)) (.node (some (.int .u64 (0))) .nil .nil) .nil) (.node (some (.bool false)) .nil .nil)) (.node (some (.str [97])) (.node (some (.bool false)) (.node (some .nilslice) .nil .nil) .nil) (.node (some (.int .i64 (0))) .nil .nil))) 9 .own)
noncomputable def sho215 : Nat × Go.AE.AObj := (103496, .cells (.node (some (.ptr 103204 0)) .nil .nil) 1 .own)
noncomputable def sho216 : Nat × Go.AE.AObj := (103795, .cells (.node (some (.ptr 103102 0)) .nil .nil) 1 .own)
noncomputable def sho217 : Nat × Go.AE.AObj := (104111, .cells (.node (some (.sliceU 102920 0 1 1)) (.node (some (.sliceU 102921 0 1 1)) (.node (some (.ptr 103000 0)) .nil .nil) .nil) (.node (some (.int .i64 (492))) .nil .nil)) 4 (.grow ⟨[], 110⟩))
noncomputable def fx6 : Go.AE.FX := ⟨64, 13, 5, [], false, none, [shf126,
 shf127,
 shf117,
 shf118]⟩
noncomputable def tr6 : Go.AE.Tr Go.AE.AV := .node (some (.ptr 87830 0)) .nil .nil
noncomputable def ob6 : Go.AE.Tr Go.AE.AObj := Go.AE.setL cfg2 [sho2,
 sho3,
 sho4,
 sho5,
 sho6,
 sho7,
 sho8,
 sho9,
 sho10,
 sho11,
 sho12,
 sho13,
 sho14,
 sho15,
 sho16,
 sho17,
 sho18,
 sho19,
 sho20,
 sho21,
 sho22,
 sho23,
 sho24,
 sho25,
 sho26,
 sho27,
 sho28,
 sho29,
 sho30,
 sho31,
 sho32,
 sho33,
 sho34,
 sho35,
 sho36,
 sho37,
 sho38,
 sho39,
 sho40,
 sho41,
 sho42,
 sho43,
 sho44,
 sho45,
 sho46,
 sho47,
 sho48,
 sho49,
 sho50,
 sho51,
 sho52,
 sho53,
 sho55,
 sho56,
 sho57,
 sho58,
 sho59,
 sho60,
 sho61,
 sho62,
 sho63,
 sho64,
 sho65,
 sho66,
 sho67,
 sho68,
 sho69,
 sho70,
 sho71,
 sho72,
 sho73,
 sho74,
 sho75,
 sho76,
 sho77,
 sho107,
 sho108,
 sho78,
 sho79,
 sho80,
 sho81,
 sho82,
 sho83,
 (38367, .map [(.ptr 14241 0, .int .u64 (5), 0)] 1),
 sho84,
 (38369, .map [] 0),
 sho85,
 sho86,
 sho87,
 sho88,
 (38519, .map [(.ptr 14241 0, .int .u64 (7), 0)] 1),
 sho89,
 (38521, .map [] 0),
 sho90,
 sho91,
 sho92,
 sho93,
 sho94,
 sho95,
 sho96,
 sho97,
 sho98,
 sho99,
 sho100,
 sho101,
 (43386, .map [(.str [105], .int .u64 (15), 0)] 1),
 sho102,
 (43388, .map [] 0),
 sho103,
 (43593, .map [(.str [105], .int .u64 (15), 0)] 1),
 sho104,
 (43595, .map [] 0),
 sho105,
 sho106,
 sho109,
 sho110,
 sho111,
 sho112,
 sho113,
 sho114,
 sho115,
 (44838, .cells (.node (some .nilptr) .nil .nil) 1 .own),
 sho116,
 sho119,
 (87830, .cells (.node (some (.sliceU 87829 0 345 7)) (.node (some (.int .i64 (244))) .nil .nil) .nil) 2 .own),
 (87831, .cells (.node (some (.sliceU 104127 0 10 6)) .nil .nil) 1 .own),
 sho120,
 sho121,
 sho122,
 sho123,
 sho124,
 sho125,
 sho128,
 sho129,
 sho130,
 sho131,
 sho132,
 sho133,
 sho134,
 sho135,
 sho136,
 sho137,
 sho138,
 sho139,
 sho140,
 sho141,
 sho142,
 sho143,
 sho144,
 sho145,
 sho146,
 sho147,
 sho148,
 sho149,
 sho150,
 sho151,
 sho152,
 sho153,
 sho154,
 sho155,
 sho156,
 sho157,
 sho158,
 sho159,
 sho160,
 sho161,
 sho162,
 sho163,
 sho164,
 sho165,
 sho166,
 sho167,
 sho168,
 sho169,
 sho170,
 sho171,
 sho172,
 sho173,
 sho174,
 sho175,
 sho176,
 sho177,
 sho178,
 sho179,
 sho180,
 sho181,
 sho182,
 sho183,
 sho184,
 sho185,
 sho186,
 sho187,
 sho188,
 sho189,
 sho190,
 sho191,
 sho192,
 sho193,
 sho194,
 sho195,
 sho196,
 sho197,
 sho198,
 sho199,
 sho200,
 sho201,
 sho202,
 sho203,
 sho204,
 sho205,
 sho206,
 sho207,
 sho208,
 sho209,
 sho210,
 sho211,
 sho212,
 sho213,
 sho214,
 sho215,
 sho216,
 sho217,
 (104127, .cells (.node (some (.str [102, 48])) (.node (some (.int .i64 (5))) (.node (some (.sliceU 88167 0 1 8)) (.node (some (.int .i64 (51))) (.node (some (.sliceU 90787 0 1 8)) (.node (some (.int .i64 (257))) .nil .nil) (.node (some (.sliceU 100689 0 1 4)) .nil .nil)) (.node (some (.sliceU 93845 0 1 4)) (.node (some (.sliceU 97631 0 1 8)) .nil .nil) (.node (some (.int .i64 (461))) .nil .nil))) (.node (some (.sliceU 90423 0 1 4)) (.node (some (.int .i64 (155))) (.node (some (.sliceU 97267 0 1 4)) .nil .nil) (.node (some (.sliceU 101053 0 1 8)) .nil .nil)) (.node (some (.sliceU 94209 0 1 8)) (.node (some (.int .i64 (359))) .nil .nil) (.node (some (.sliceU 104111 0 1 4)) .nil .nil)))) (.node (some (.sliceU 88712 0 1 4)) (.node (some (.sliceU 89076 0 1 8)) (.node (some (.sliceU 92134 0 1 4)) (.node (some (.sliceU 95920 0 1 8)) .nil .nil) (.node (some (.int .i64 (410))) .nil .nil)) (.node (some (.int .i64 (206))) (.node (some (.sliceU 98978 0 1 4)) .nil .nil) (.node (some (.sliceU 102764 0 1 8)) .nil .nil))) (.node (some (.int .i64 (104))) (.node (some (.sliceU 92498 0 1 8)) (.node (some (.int .i64 (308))) .nil .nil) (.node (some (.sliceU 102400 0 1 4)) .nil .nil)) (.node (some (.sliceU 95556 0 1 4)) (.node (some (.sliceU 99342 0 1 8)) .nil .nil) .nil)))) (.node (some (.sliceU 87997 0 1 8)) (.node (some .nilslice) (.node (some (.sliceU 88906 0 1 8)) (.node (some .nilslice) (.node (some (.sliceU 95750 0 1 8)) .nil .nil) (.node (some (.str [105])) .nil .nil)) (.node (some (.str [101])) (.node (some .nilslice) .nil .nil) (.node (some (.sliceU 102594 0 1 8)) .nil .nil))) (.node (some (.str [99])) (.node (some (.sliceU 92328 0 1 8)) (.node (some (.str [103])) .nil .nil) (.node (some .nilslice) .nil .nil)) (.node (some .nilslice) (.node (some (.sliceU 99172 0 1 8)) .nil .nil) .nil))) (.node (some (.str [98])) (.node (some .nilslice) (.node (some (.str [100])) (.node (some .nilslice) .nil .nil) (.node (some (.sliceU 100883 0 1 8)) .nil .nil)) (.node (some (.sliceU 94039 0 1 8)) (.node (some (.str [104])) .nil .nil) (.node (some .nilslice) .nil .nil))) (.node (some (.sliceU 90617 0 1 8)) (.node (some .nilslice) (.node (some (.sliceU 97461 0 1 8)) .nil .nil) (.node (some (.str [106])) .nil .nil)) (.node (some (.str [102])) (.node (some .nilslice) .nil .nil) .nil))))) 60 (.grow ⟨[102416, 100705, 98994, 97283, 95572, 93861, 92150, 90439, 88728], 59⟩))] .nil
theorem part6 (b : Go.AE.KT) : Go.AE.runAt cfg2 64 104128 0 (Go.AE.gc cfg2 [13312, 13478, 13648, 13804, 13805, 13884, 14181, 14183, 14239, 14241, 14304, 14406, 14468, 14545, 14769, 15085, 15337, 15687, 15828, 15829, 15908, 16010, 16073, 16075, 16357, 16746, 16747, 16888, 17161, 17163, 17226, 17572, 17574, 17946, 17947, 18026, 18116, 18500, 18809, 19166, 19167, 19246, 19519, 19521, 19584, 19966, 19967, 20046, 20148, 20440, 20756, 20772, 23549, 23550, 23654, 23662, 23666, 23670, 23707, 23737, 24094, 24118, 24152, 24182, 24190, 24220, 24244, 24266, 24274, 24317, 24335, 24343, 24373, 24395, 24429, 37969, 37993, 37994, 37995, 37997, 38001, 38002, 38272, 38367, 38368, 38369, 38371, 38375, 38376, 38456, 38519, 38520, 38521, 38523, 38527, 38528, 38608, 38619, 39090, 40282, 41397, 42589, 43266, 43267, 43268, 43386, 43387, 43388, 43489, 43593, 43594, 43595, 43696, 43704, 44542, 44543, 44754, 44784, 44823, 44836, 44837, 44838, 44839, 87829, 87830, 87831, 87997, 88167, 88323, 88324, 88403, 88712, 88906, 89076, 89232, 89233, 89312, 89414, 89516, 89808, 90107, 90423, 90617, 90787, 90943, 90944, 91023, 91125, 91227, 91519, 91818, 92134, 92328, 92498, 92654, 92655, 92734, 92836, 92938, 93230, 93529, 93845, 94039, 94209, 94365, 94366, 94445, 94547, 94649, 94941, 95240, 95556, 95750, 95920, 96076, 96077, 96156, 96258, 96360, 96652, 96951, 97267, 97461, 97631, 97787, 97788, 97867, 97969, 98071, 98363, 98662, 98978, 99172, 99342, 99498, 99499, 99578, 99680, 99782, 100074, 100373, 100689, 100883, 101053, 101209, 101210, 101289, 101391, 101493, 101785, 102084, 102400, 102594, 102764, 102920, 102921, 103000, 103102, 103204, 103496, 103795, 104111, 104127] b) 100000000 .run todo5 fx5 tr5 ob5 88729 = b .run todo6 fx6 tr6 ob6 104128 := by kernel_rfl
noncomputable def todo7 : List Go.AE.AItem := [.code (Go.AE.codeOf Tryz.prog 67 [1, 1, 1])]
noncomputable def sho218 : Nat × Go.AE.AObj := (87831, .cells (.node (some (.sliceU 110971 0 14 6)) .nil .nil) 1 .own)
noncomputable def sho219 : Nat × Go.AE.AObj := (104305, .cells (.node (some (.str [97])) (.node (some (.int .i64 (514))) (.node (some (.bool false)) (.node (some (.bool false)) .nil .nil) .nil) (.node (some (.str [])) .nil .nil)) (.node (some (.bool false)) (.node (some (.int .i64 (1))) .nil .nil) (.node (some (.int .i64 (0))) .nil .nil))) 8 (.grow ⟨[], 77⟩))
noncomputable def sho220 : Nat × Go.AE.AObj := (104475, .cells (.node (some (.str [98])) (.node (some (.int .i64 (530))) (.node (some (.bool false)) (.node (some (.bool false)) .nil .nil) .nil) (.node (some (.str [])) .nil .nil)) (.node (some (.bool false)) (.node (some (.int .i64 (1))) .nil .nil) (.node (some (.int .i64 (0))) .nil .nil))) 8 (.grow ⟨[], 77⟩))
noncomputable def sho221 : Nat × Go.AE.AObj := (104631, .cells (.node (some (.str [98])) .nil .nil) 1 (.grow ⟨[], 9⟩))
noncomputable def sho222 : Nat × Go.AE.AObj := (104632, .cells (.node (some (.int .i64 (541))) .nil .nil) 1 (.grow ⟨[], 3⟩))
noncomputable def sho223 : Nat × Go.AE.AObj := (104711, .cells (.node (some (.int .i64 (25))) (.node (some (.int .i64 (545))) (.node (some (.bool false)) (.node (some (.int .u64 (0))) .nil .nil) .nil) (.node (some (.bool false)) .nil .nil)) (.node (some (.str [106])) (.node (some (.bool false)) (.node (some (.slice 105506 0 1 1)) .nil .nil) .nil) (.node (some (.int .i64 (0))) .nil .nil))) 9 .own)
noncomputable def sho224 : Nat × Go.AE.AObj := (104813, .cells (.node (some (.int .i64 (25))) (.node (some (.int .i64 (547))) (.node (some (.bool false)) (.node (some (.int .u64 (0))) .nil .nil) .nil) (.node (some (.bool false)) .nil .nil)) (.node (some (.str [106])) (.node (some (.bool false)) (.node (some (.slice 105207 0 1 1)) .nil .nil) .nil) (.node (some (.int .i64 (0))) .nil .nil))) 9 .own)
noncomputable def sho225 : Nat × Go.AE.AObj := (104915, .cells (.node (some (.int .i64 (2))) (.node (some (.int .i64 (549))) (.node (some (.bool false)) (.node (some (.int .u64 (0))) .nil .nil) .nil) (.node (some (.bool false)) .nil .nil)) (.node (some (.str [97])) (.node (some (.bool false)) (.node (some .nilslice) .nil .nil) .nil) (.node (some (.int .i64 (0))) .nil .nil))) 9 .own)
noncomputable def sho226 : Nat × Go.AE.AObj := (105207, .cells (.node (some (.ptr 104915 0)) .nil .nil) 1 .own)
noncomputable def sho227 : Nat × Go.AE.AObj := (105506, .cells (.node (some (.ptr 104813 0)) .nil .nil) 1 .own)
noncomputable def sho228 : Nat × Go.AE.AObj := (105822, .cells (.node (some (.sliceU 104631 0 1 1)) (.node (some (.sliceU 104632 0 1 1)) (.node (some (.ptr 104711 0)) .nil .nil) .nil) (.node (some (.int .i64 (543))) .nil .nil)) 4 (.grow ⟨[], 110⟩))
noncomputable def sho229 : Nat × Go.AE.AObj := (106016, .cells (.node (some (.str [97])) (.node (some (.int .i64 (565))) (.node (some (.bool false)) (.node (some (.bool false)) .nil .nil) .nil) (.node (some (.str [])) .nil .nil)) (.node (some (.bool false)) (.node (some (.int .i64 (1))) .nil .nil) (.node (some (.int .i64 (0))) .nil .nil))) 8 (.grow ⟨[], 77⟩))
noncomputable def sho230 : Nat × Go.AE.AObj := (106186, .cells (.node (some (.str [98])) (.node (some (.int .i64 (581))) (.node (some (.bool false)) (.node (some (.bool false)) .nil .nil) .nil) (.node (some (.str [])) .nil .nil)) (.node (some (.bool false)) (.node (some (.int .i64 (1))) .nil .nil) (.node (some (.int .i64 (0))) .nil .nil))) 8 (.grow ⟨[], 77⟩))
noncomputable def sho231 : Nat × Go.AE.AObj := (106342, .cells (.node (some (.str [98])) .nil .nil) 1 (.grow ⟨[], 9⟩))
noncomputable def sho232 : Nat × Go.AE.AObj := (106343, .cells (.node (some (.int .i64 (592))) .nil .nil) 1 (.grow ⟨[], 3⟩))
noncomputable def sho233 : Nat × Go.AE.AObj := (106422, .cells (.node (some (.int .i64 (25))) (.node (some (.int .i64 (596))) (.node (some (.bool false)) (.node (some (.int .u64 (0))) .nil .nil) .nil) (.node (some (.bool false)) .nil .nil)) (.node (some (.str [107])) (.node (some (.bool false)) (.node (some (.slice 107217 0 1 1)) .nil .nil) .nil) (.node (some (.int .i64 (0))) .nil .nil))) 9 .own)
noncomputable def sho234 : Nat × Go.AE.AObj := (106524, .cells (.node (some (.int .i64 (25))) (.node (some (.int .i64 (598))) (.node (some (.bool false)) (.node (some (.int .u64 (0))) .nil .nil) .nil) (.node (some (.bool false)) .nil .nil)) (.node (some (.str [107])) (.node (some (.bool false)) (.node (some (.slice 106918 0 1 1)) .nil .nil) .nil) (.node (some (.int .i64 (0))) .nil .nil))) 9 .own)
noncomputable def sho235 : Nat × Go.AE.AObj := (106626, .cells (.node (some (.int .i64 (2))) (.node (some (.int .i64 (600))) (.node (some (.bool false)) (.node (some (.int .u64 (0))) .nil .nil) .nil) (.node (some (.bool false)) .nil .nil)) (.node (some (.str [97])) (.node (some (.bool false)) (.node (some .nilslice) .nil .nil) .nil) (.node (some (.int .i64 (0))) .nil .nil))) 9 .own)
noncomputable def sho236 : Nat × Go.AE.AObj := (106918, .cells (.node (some (.ptr 106626 0)) .nil .nil) 1 .own)
noncomputable def sho237 : Nat × Go.AE.AObj := (107217, .cells (.node (some (.ptr 106524 0)) .nil .nil) 1 .own)
noncomputable def sho238 : Nat × Go.AE.AObj := (107533, .cells (.node (some (.sliceU 106342 0 1 1)) (.node (some (.sliceU 106343 0 1 1)) (.node (some (.ptr 106422 0)) .nil .nil) .nil) (.node (some (.int .i64 (594))) .nil .nil)) 4 (.grow ⟨[], 110⟩))
noncomputable def sho239 : Nat × Go.AE.AObj := (107727, .cells (.node (some (.str [97])) (.node (some (.int .i64 (616))) (.node (some (.bool false)) (.node (some (.bool false)) .nil .nil) .nil) (.node (some (.str [])) .nil .nil)) (.node (some (.bool false)) (.node (some (.int .i64 (1))) .nil .nil) (.node (some (.int .i64 (0))) .nil .nil))) 8 (.grow ⟨[], 77⟩))
noncomputable def sho240 : Nat × Go.AE.AObj := (107897, .cells (.node (some (.str [98])) (.node (some (.int .i64 (632))) (.node (some (.bool false)) (.node (some (.bool false)) .nil .nil) .nil) (.node (some (.str [])) .nil .nil)) (.node (some (.bool false)) (.node (some (.int .i64 (1))) .nil .nil) (.node (some (.int .i64 (0))) .nil .nil))) 8 (.grow ⟨[], 77⟩))
noncomputable def sho241 : Nat × Go.AE.AObj := (108053, .cells (.node (some (.str [98])) .nil .nil) 1 (.grow ⟨[], 9⟩))
noncomputable def sho242 : Nat × Go.AE.AObj := (108054, .cells (.node (some (.int .i64 (643))) .nil .nil) 1 (.grow ⟨[], 3⟩))
noncomputable def sho243 : Nat × Go.AE.AObj := (108133, .cells (.node (some (.int .i64 (25))) (.node (some (.int .i64 (647))) (.node (some (.bool false)) (.node (some (.int .u64 (0))) .nil .nil) .nil) (.node (some (.bool false)) .nil .nil)) (.node (some (.str [108])) (.node (some (.bool false)) (.node (some (.slice 108928 0 1 1)) .nil .nil) .nil) (.node (some (.int .i64 (0))) .nil .nil))) 9 .own)
noncomputable def sho244 : Nat × Go.AE.AObj := (108235, .cells (.node (some (.int .i64 (25))) (.node (some (.int .i64 (649))) (.node (some (.bool false)) (.node (some (.int .u64 (0))) .nil .nil) .nil) (.node (some (.bool false)) .nil .nil)) (.node (some (.str [108])) (.node (some (.bool false)) (.node (some (.slice 108629 0 1 1)) .nil .nil) .nil) (.node (some (.int .i64 (0))) .nil .nil))) 9 .own)
noncomputable def sho245 : Nat × Go.AE.AObj := (108337, .cells (.node (some (.int .i64 (2))) (.node (some (.int .i64 (651))) (.node (some (.bool false)) (.node (some (.int .u64 (0))) .nil .nil) .nil) (.node (some (.bool false)) .nil .nil)) (.node (some (.str [97])) (.node (some (.bool false)) (.node (some .nilslice) .nil .nil) .nil) (.node (some (.int .i64 (0))) .nil .nil))) 9 .own)
noncomputable def sho246 : Nat × Go.AE.AObj := (108629, .cells (.node (some (.ptr 108337 0)) .nil .nil) 1 .own)
noncomputable def sho247 : Nat × Go.AE.AObj := (108928, .cells (.node (some (.ptr 108235 0)) .nil .nil) 1 .own)
noncomputable def sho248 : Nat × Go.AE.AObj := (109244, .cells (.node (some (.sliceU 108053 0 1 1)) (.node (some (.sliceU 108054 0 1 1)) (.node (some (.ptr 108133 0)) .nil .nil) .nil) (.node (some (.int .i64 (645))) .nil .nil)) 4 (.grow ⟨[], 110⟩))
noncomputable def sho249 : Nat × Go.AE.AObj := (109438, .cells (.node (some (.str [97])) (.node (some (.int .i64 (667))) (.node (some (.bool false)) (.node (some (.bool false)) .nil .nil) .nil) (.node (some (.str [])) .nil .nil)) (.node (some (.bool false)) (.node (some (.int .i64 (1))) .nil .nil) (.node (some (.int .i64 (0))) .nil .nil))) 8 (.grow ⟨[], 77⟩))
noncomputable def sho250 : Nat × Go.AE.AObj := (109608, .cells (.node (some (.str [98])) (.node (some (.int .i64 (683))) (.node (some (.bool false)) (.node (some (.bool false)) .nil .nil) .nil) (.node (some (.str [])) .nil .nil)) (.node (some (.bool false)) (.node (some (.int .i64 (1))) .nil .nil) (.node (some (.int .i64 (0))) .nil .nil))) 8 (.grow ⟨[], 77⟩))
noncomputable def sho251 : Nat × Go.AE.AObj := (109764, .cells (.node (some (.str [98])) .nil .nil) 1 (.grow ⟨[], 9⟩))
noncomputable def sho252 : Nat × Go.AE.AObj := (109765, .cells (.node (some (.int .i64 (694))) .nil .nil) 1 (.grow ⟨[], 3⟩))
noncomputable def sho253 : Nat × Go.AE.AObj := (109844, .cells (.node (some (.int .i64 (25))) (.node (some (.int .i64 (698))) (.node (some (.bool false)) (.node (some (.int .u64 (0))) .nil .nil) .nil) (.node (some (.bool false)) .nil .nil)) (.node (some (.str [109])) (.node (some (.bool false)) (.node (some (.slice 110639 0 1 1)) .nil .nil) .nil) (.node (some (.int .i64 (0))) .nil .nil))) 9 .own)
noncomputable def sho254 : Nat × Go.AE.AObj := (109946, .cells (.node (some (.int .i64 (25))) (.node (some (.int .i64 (700))) (.node (some (.bool false)) (.node (some (.int .u64 (0))) .nil .nil) .nil) (.node (some (.bool false)) .nil .nil)) (.node (some (.str [109])) (.node (some (.bool false)) (.node (some (.slice 110340 0 1 1)) .nil .nil) .nil) (.node (some (.int .i64 (0))) .nil .nil))) 9 .own)
noncomputable def sho255 : Nat × Go.AE.AObj := (110048, .cells (.node (some (.int .i64 (2))) (.node (some (.int .i64 (702))) (.node (some (.bool false)) (.node (some (.int .u64 (0))) .nil .nil) .nil) (.node (some (.bool false)) .nil .nil)) (.node (some (.str [97])) (.node (some (.bool false)) (.node (some .nilslice) .nil .nil) .nil) (.node (some (.int .i64 (0))) .nil .nil))) 9 .own)
noncomputable def sho256 : Nat × Go.AE.AObj := (110340, .cells (.node (some (.ptr 110048 0)) .nil .nil) 1 .own)
noncomputable def sho257 : Nat × Go.AE.AObj := (110639, .cells (.node (some (.ptr 109946 0)) .nil .nil) 1 .own)
noncomputable def sho258 : Nat × Go.AE.AObj := (110955, .cells (.node (some (.sliceU 109764 0 1 1)) (.node (some (.sliceU 109765 0 1 1)) (.node (some (.ptr 109844 0)) .nil .nil) .nil) (.node (some (.int .i64 (696))) .nil .nil)) 4 (.grow ⟨[], 110⟩))
noncomputable def sho259 : Nat × Go.AE.AObj := (110971, .cells (.node (some (.str [102, 48])) (.node (some (.int .i64 (5))) (.node (some (.sliceU 88167 0 1 8)) (.node (some (.int .i64 (51))) (.node (some (.sliceU 90787 0 1 8)) (.node (some (.int .i64 (257))) (.node (some (.sliceU 104475 0 1 8)) .nil .nil) .nil) (.node (some (.sliceU 100689 0 1 4)) (.node (some (.int .i64 (665))) .nil .nil) .nil)) (.node (some (.sliceU 93845 0 1 4)) (.node (some (.sliceU 97631 0 1 8)) (.node (some (.sliceU 107533 0 1 4)) .nil .nil) .nil) (.node (some (.int .i64 (461))) .nil .nil))) (.node (some (.sliceU 90423 0 1 4)) (.node (some (.int .i64 (155))) (.node (some (.sliceU 97267 0 1 4)) (.node (some (.int .i64 (563))) .nil .nil) .nil) (.node (some (.sliceU 101053 0 1 8)) (.node (some (.sliceU 110955 0 1 4)) .nil .nil) .nil)) (.node (some (.sliceU 94209 0 1 8)) (.node (some (.int .i64 (359))) (.node (some (.sliceU 107897 0 1 8)) .nil .nil) .nil) (.node (some (.sliceU 104111 0 1 4)) .nil .nil)))) (.node (some (.sliceU 88712 0 1 4)) (.node (some (.sliceU 89076 0 1 8)) (.node (some (.sliceU 92134 0 1 4)) (.node (some (.sliceU 95920 0 1 8)) (.node (some (.sliceU 105822 0 1 4)) .nil .nil) .nil) (.node (some (.int .i64 (410))) (.node (some (.sliceU 109608 0 1 8)) .nil .nil) .nil)) (.node (some (.int .i64 (206))) (.node (some (.sliceU 98978 0 1 4)) (.node (some (.int .i64 (614))) .nil .nil) .nil) (.node (some (.sliceU 102764 0 1 8)) .nil .nil))) (.node (some (.int .i64 (104))) (.node (some (.sliceU 92498 0 1 8)) (.node (some (.int .i64 (308))) (.node (some (.sliceU 106186 0 1 8)) .nil .nil) .nil) (.node (some (.sliceU 102400 0 1 4)) .nil .nil)) (.node (some (.sliceU 95556 0 1 4)) (.node (some (.sliceU 99342 0 1 8)) (.node (some (.sliceU 109244 0 1 4)) .nil .nil) .nil) (.node (some (.int .i64 (512))) .nil .nil))))) (.node (some (.sliceU 87997 0 1 8)) (.node (some .nilslice) (.node (some (.sliceU 88906 0 1 8)) (.node (some .nilslice) (.node (some (.sliceU 95750 0 1 8)) (.node (some .nilslice) .nil .nil) .nil) (.node (some (.str [105])) (.node (some (.sliceU 109438 0 1 8)) .nil .nil) .nil)) (.node (some (.str [101])) (.node (some .nilslice) (.node (some (.str [109])) .nil .nil) .nil) (.node (some (.sliceU 102594 0 1 8)) .nil .nil))) (.node (some (.str [99])) (.node (some (.sliceU 92328 0 1 8)) (.node (some (.str [103])) (.node (some (.sliceU 106016 0 1 8)) .nil .nil) .nil) (.node (some .nilslice) .nil .nil)) (.node (some .nilslice) (.node (some (.sliceU 99172 0 1 8)) (.node (some .nilslice) .nil .nil) .nil) (.node (some (.str [107])) .nil .nil)))) (.node (some (.str [98])) (.node (some .nilslice) (.node (some (.str [100])) (.node (some .nilslice) (.node (some (.str [108])) .nil .nil) .nil) (.node (some (.sliceU 100883 0 1 8)) (.node (some .nilslice) .nil .nil) .nil)) (.node (some (.sliceU 94039 0 1 8)) (.node (some (.str [104])) (.node (some (.sliceU 107727 0 1 8)) .nil .nil) .nil) (.node (some .nilslice) .nil .nil))) (.node (some (.sliceU 90617 0 1 8)) (.node (some .nilslice) (.node (some (.sliceU 97461 0 1 8)) (.node (some .nilslice) .nil .nil) .nil) (.node (some (.str [106])) .nil .nil)) (.node (some (.str [102])) (.node (some .nilslice) (.node (some (.str [110])) .nil .nil) .nil) (.node (some (.sliceU 104305 0 1 8)) .nil .nil)))))) 84 (.grow ⟨[109260, 107549, 105838, 104127, 102416, 100705, 98994, 97283, 95572, 93861, 92150, 90439, 88728], 59⟩))
noncomputable def sho260 : Nat × Go.AE.AObj := (111012, .cells (.node (some (.int .i64 (0))) (.node (some (.int .i64 (0))) .nil .nil) .nil) 2 .own)
noncomputable def sho261 : Nat × Go.AE.AObj := (111013, .cells (.node (some (.int .i64 (0))) (.node (some (.int .i64 (0))) .nil .nil) .nil) 2 .own)
noncomputable def sho262 : Nat × Go.AE.AObj := (111014, .cells (.node (some (.int .i64 (0))) (.node (some (.int .i64 (0))) .nil .nil) .nil) 2 .own)
noncomputable def shf263 : Go.AE.AFrame := ⟨14, 35, 33587453, .node (some (.ptr 87831 0)) (.node none (.node (some (.ptr 111013 0)) .nil .nil) .nil) (.node (some .nilptr) .nil .nil), [.waitS (Go.AE.opsOf (Go.AE.codeOf Tryz.prog 14 [1, 0])) [(0, .ptr 87831 0)] 1 (Go.AE.restOf cfg2 35 33587453 (Go.AE.opsOf (Go.AE.codeOf Tryz.prog 14 [1, 0])) 2) (Go.AE.finOf 33587453 (Go.AE.opsOf (Go.AE.codeOf Tryz.prog 14 [1, 0])).toList 0), .code (Go.AE.codeOf Tryz.prog 14 [1, 1])], [], .run, false, none⟩
noncomputable def shf264 : Go.AE.AFrame := ⟨11, 19, 8253, .node (some (.sliceU 44836 0 711 1)) (.node none (.node (some (.ptr 44837 0)) .nil .nil) (.node (some (.ptr 111012 0)) .nil (.node (some (.bool false)) .nil .nil))) (.node (some .nilptr) (.node (some (.ptr 87831 0)) .nil .nil) .nil), [.waitS (Go.AE.opsOf (Go.AE.codeOf Tryz.prog 11 [1, 1, 1, 0])) [(0, .ptr 87831 0)] 1 (Go.AE.restOf cfg2 19 8253 (Go.AE.opsOf (Go.AE.codeOf Tryz.prog 11 [1, 1, 1, 0])) 2) (Go.AE.finOf 8253 (Go.AE.opsOf (Go.AE.codeOf Tryz.prog 11 [1, 1, 1, 0])).toList 0), .code .ret], [], .run, false, none⟩
noncomputable def fx7 : Go.AE.FX := ⟨67, 41, 17179992381, [], false, none, [⟨45, 37, 503320765, .node (some (.ptr 87831 0)) (.node none (.node (some (.ptr 111016 0)) .nil .nil) .nil) (.node (some (.ptr 111015 0)) .nil .nil), [.waitS (Go.AE.opsOf (Go.AE.codeOf Tryz.prog 45 [1, 0, 0])) [(0, .ptr 87831 0)] 1 (Go.AE.restOf cfg2 37 503320765 (Go.AE.opsOf (Go.AE.codeOf Tryz.prog 45 [1, 0, 0])) 2) (Go.AE.finOf 503320765 (Go.AE.opsOf (Go.AE.codeOf Tryz.prog 45 [1, 0, 0])).toList 0), .code (Go.AE.codeOf Tryz.prog 45 [1, 0, 1]), .code (Go.AE.codeOf Tryz.prog 45 [1, 1])], [], .run, false, none⟩,
 ⟨26, 26, 581821, .node (some (.ptr 87831 0)) (.node none (.node (some (.ptr 111014 0)) .nil .nil) .nil) (.node (some .nilptr) .nil .nil), [.waitS (Go.AE.opsOf (Go.AE.codeOf Tryz.prog 26 [1, 0])) [(0, .ptr 87831 0)] 1 (Go.AE.restOf cfg2 26 581821 (Go.AE.opsOf (Go.AE.codeOf Tryz.prog 26 [1, 0])) 2) (Go.AE.finOf 581821 (Go.AE.opsOf (Go.AE.codeOf Tryz.prog 26 [1, 0])).toList 0), .code (Go.AE.codeOf Tryz.prog 26 [1, 1])], [], .run, false, none⟩,
 shf263,
 shf264,
 shf118]⟩
noncomputable def tr7 : Go.AE.Tr Go.AE.AV := .node (some (.ptr 87831 0)) (.node none (.node (some (.int .i64 (13))) (.node none (.node (some (.int .i64 (14))) .nil .nil) .nil) .nil) (.node (some (.ptr 117944 0)) .nil (.node (some (.sliceU 110971 0 14 6)) .nil .nil))) (.node (some (.ptr 111017 0)) (.node (some (.ptr 117850 0)) (.node (some (.bool false)) (.node (some (.bool false)) .nil .nil) .nil) .nil) (.node none (.node none (.node none (.node (some (.bool false)) .nil .nil) .nil) .nil) (.node (some (.int .i64 (14))) .nil .nil)))
noncomputable def ob7 : Go.AE.Tr Go.AE.AObj := Go.AE.setL cfg2 [sho2,
 sho3,
 sho4,
 sho5,
 sho6,
 sho7,
 sho8,
 sho9,
 sho10,
 sho11,
 sho12,
 sho13,
 sho14,
 sho15,
 sho16,
 sho17,
 sho18,
 sho19,
 sho20,
 sho21,
 sho22,
 sho23,
 sho24,
 sho25,
 sho26,
 sho27,
 sho28,
 sho29,
 sho30,
 sho31,
 sho32,
 sho33,
 sho34,
 sho35,
 sho36,
 sho37,
 sho38,
 sho39,
 sho40,
 sho41,
 sho42,
 sho43,
 sho44,
 sho45,
 sho46,
 sho47,
 sho48,
 sho49,
 sho50,
 sho51,
 sho52,
 sho53,
 sho55,
 sho56,
 sho57,
 sho58,
 sho59,
 sho60,
 sho61,
 sho62,
 sho63,
 sho64,
 sho65,
 sho66,
 sho67,
 sho68,
 sho69,
 sho70,
 sho71,
 sho72,
 sho73,
 sho74,
 sho75,
 sho76,
 sho77,
 sho107,
 sho108,
 sho78,
 sho79,
 sho80,
 sho81,
 sho82,
 sho83,
 (38367, .map [(.ptr 14241 0, .int .u64 (5), 0)] 1),
 sho84,
 (38369, .map [] 0),
 sho85,
 sho86,
 sho87,
 sho88,
 (38519, .map [(.ptr 14241 0, .int .u64 (7), 0)] 1),
 sho89,
 (38521, .map [] 0),
 sho90,
 sho91,
 sho92,
 sho93,
 sho94,
 sho95,
 sho96,
 sho97,
 sho98,
 sho99,
 sho100,
 sho101,
 (43386, .map [(.str [105], .int .u64 (15), 0)] 1),
 sho102,
 (43388, .map [] 0),
 sho103,
 (43593, .map [(.str [105], .int .u64 (15), 0)] 1),
 sho104,
 (43595, .map [] 0),
 sho105,
 sho106,
 sho109,
 sho110,
 sho111,
 sho112,
 sho113,
 sho114,
 sho115,
 sho218,
 sho120,
 sho121,
 sho122,
 sho123,
 sho124,
 sho125,
 sho128,
 sho129,
 sho130,
 sho131,
 sho132,
 sho133,
 sho134,
 sho135,
 sho136,
 sho137,
 sho138,
 sho139,
 sho140,
 sho141,
 sho142,
 sho143,
 sho144,
 sho145,
 sho146,
 sho147,
 sho148,
 sho149,
 sho150,
 sho151,
 sho152,
 sho153,
 sho154,
 sho155,
 sho156,
 sho157,
 sho158,
 sho159,
 sho160,
 sho161,
 sho162,
 sho163,
 sho164,
 sho165,
 sho166,
 sho167,
 sho168,
 sho169,
 sho170,
 sho171,
 sho172,
 sho173,
 sho174,
 sho175,
 sho176,
 sho177,
 sho178,
 sho179,
 sho180,
 sho181,
 sho182,
 sho183,
 sho184,
 sho185,
 sho186,
 sho187,
 sho188,
 sho189,
 sho190,
 sho191,
 sho192,
 sho193,
 sho194,
 sho195,
 sho196,
 sho197,
 sho198,
 sho199,
 sho200,
 sho201,
 sho202,
 sho203,
 sho204,
 sho205,
 sho206,
 sho207,
 sho208,
 sho209,
 sho210,
 sho211,
 sho212,
 sho213,
 sho214,
 sho215,
 sho216,
 sho217,
 sho219,
 sho220,
 sho221,
 sho222,
 sho223,
 sho224,
 sho225,
 sho226,
 sho227,
 sho228,
 sho229,
 sho230,
 sho231,
 sho232,
 sho233,
 sho234,
 sho235,
 sho236,
 sho237,
 sho238,
 sho239,
 sho240,
 sho241,
 sho242,
 sho243,
 sho244,
 sho245,
 sho246,
 sho247,
 sho248,
 sho249,
 sho250,
 sho251,
 sho252,
 sho253,
 sho254,
 sho255,
 sho256,
 sho257,
 sho258,
 sho259,
 sho260,
 sho261,
 sho262,
 (111015, .cells (.node (some .nilptr) .nil .nil) 1 .own),
 (111016, .cells (.node (some (.int .i64 (0))) (.node (some (.int .i64 (0))) .nil .nil) .nil) 2 .own),
 (111017, .cells (.node (some (.int .i64 (0))) (.node (some (.int .i64 (0))) .nil .nil) .nil) 2 .own),
 (117850, .cells (.node (some (.str [110])) (.node (some (.int .i64 (665))) (.node (some (.sliceU 109608 0 1 8)) .nil .nil) (.node (some (.sliceU 110955 0 1 4)) .nil .nil)) (.node (some (.sliceU 109438 0 1 8)) (.node (some .nilslice) .nil .nil) .nil)) 6 .own),
 (117852, .map [(.str [97], .agg [.int .i64 (1), .str [97], .int .i64 (667), .bool false, .bool false, .int .i64 (1), .str [], .int .i64 (0), .bool false, .int .i64 (-1), .int .i64 (-1)], 0), (.str [98], .agg [.int .i64 (2), .str [98], .int .i64 (683), .bool false, .bool false, .int .i64 (1), .str [], .int .i64 (0), .bool false, .int .i64 (0), .int .i64 (0)], 1)] 2),
 (117853, .cells (.node (some (.map 117852)) (.node (some (.sliceU 117933 0 2 1)) .nil .nil) .nil) 2 .own),
 (117933, .cells (.node (some (.str [97])) (.node (some (.str [98])) .nil .nil) .nil) 2 (.grow ⟨[117895], 9⟩)),
 (117943, .map [(.str [98], .int .i64 (1), 0)] 1),
 (117944, .cells (.node (some (.ptr 87831 0)) (.node (some (.int .i64 (13))) (.node (some (.map 117943)) .nil .nil) (.node (some (.int .i64 (0))) .nil .nil)) (.node (some (.ptr 117853 0)) (.node (some (.int .i64 (0))) .nil .nil) .nil)) 6 .own)] .nil
theorem part7 (b : Go.AE.KT) : Go.AE.runAt cfg2 67 118145 0 (Go.AE.gc cfg2 [13312, 13478, 13648, 13804, 13805, 13884, 14181, 14183, 14239, 14241, 14304, 14406, 14468, 14545, 14769, 15085, 15337, 15687, 15828, 15829, 15908, 16010, 16073, 16075, 16357, 16746, 16747, 16888, 17161, 17163, 17226, 17572, 17574, 17946, 17947, 18026, 18116, 18500, 18809, 19166, 19167, 19246, 19519, 19521, 19584, 19966, 19967, 20046, 20148, 20440, 20756, 20772, 23549, 23550, 23654, 23662, 23666, 23670, 23707, 23737, 24094, 24118, 24152, 24182, 24190, 24220, 24244, 24266, 24274, 24317, 24335, 24343, 24373, 24395, 24429, 37969, 37993, 37994, 37995, 37997, 38001, 38002, 38272, 38367, 38368, 38369, 38371, 38375, 38376, 38456, 38519, 38520, 38521, 38523, 38527, 38528, 38608, 38619, 39090, 40282, 41397, 42589, 43266, 43267, 43268, 43386, 43387, 43388, 43489, 43593, 43594, 43595, 43696, 43704, 44542, 44543, 44754, 44784, 44823, 44836, 44837, 87831, 87997, 88167, 88323, 88324, 88403, 88712, 88906, 89076, 89232, 89233, 89312, 89414, 89516, 89808, 90107, 90423, 90617, 90787, 90943, 90944, 91023, 91125, 91227, 91519, 91818, 92134, 92328, 92498, 92654, 92655, 92734, 92836, 92938, 93230, 93529, 93845, 94039, 94209, 94365, 94366, 94445, 94547, 94649, 94941, 95240, 95556, 95750, 95920, 96076, 96077, 96156, 96258, 96360, 96652, 96951, 97267, 97461, 97631, 97787, 97788, 97867, 97969, 98071, 98363, 98662, 98978, 99172, 99342, 99498, 99499, 99578, 99680, 99782, 100074, 100373, 100689, 100883, 101053, 101209, 101210, 101289, 101391, 101493, 101785, 102084, 102400, 102594, 102764, 102920, 102921, 103000, 103102, 103204, 103496, 103795, 104111, 104305, 104475, 104631, 104632, 104711, 104813, 104915, 105207, 105506, 105822, 106016, 106186, 106342, 106343, 106422, 106524, 106626, 106918, 107217, 107533, 107727, 107897, 108053, 108054, 108133, 108235, 108337, 108629, 108928, 109244, 109438, 109608, 109764, 109765, 109844, 109946, 110048, 110340, 110639, 110955, 110971, 111012, 111013, 111014, 111015, 111016, 111017, 117850, 117852, 117853, 117933, 117943, 117944] b) 100000000 .run todo6 fx6 tr6 ob6 104128 = b .run todo7 fx7 tr7 ob7 118145 := by kernel_rfl
noncomputable def todo8 : List Go.AE.AItem := [.code (Go.AE.codeOf Tryz.prog 45 [1, 1])]
noncomputable def sho265 : Nat × Go.AE.AObj := (118146, .map [(.ptr 88403 0, .slice 118251 0 1 1, 0), (.ptr 89516 0, .slice 118369 0 1 1, 1), (.ptr 89414 0, .sliceU 118403 0 1 3, 2), (.ptr 89312 0, .sliceU 118449 0 1 3, 3), (.ptr 91227 0, .slice 118579 0 1 1, 4), (.ptr 91125 0, .sliceU 118614 0 1 3, 5), (.ptr 91023 0, .sliceU 118661 0 1 3, 6), (.ptr 92938 0, .slice 118791 0 1 1, 7), (.ptr 92836 0, .sliceU 118827 0 1 3, 8), (.ptr 92734 0, .sliceU 118875 0 1 3, 9), (.ptr 94649 0, .slice 119005 0 1 1, 10), (.ptr 94547 0, .sliceU 119042 0 1 3, 11), (.ptr 94445 0, .sliceU 119091 0 1 3, 12), (.ptr 96360 0, .slice 119221 0 1 1, 13), (.ptr 96258 0, .sliceU 119259 0 1 3, 14), (.ptr 96156 0, .sliceU 119309 0 1 3, 15), (.ptr 98071 0, .slice 119439 0 1 1, 16), (.ptr 97969 0, .sliceU 119478 0 1 3, 17), (.ptr 97867 0, .sliceU 119529 0 1 3, 18), (.ptr 99782 0, .slice 119659 0 1 1, 19), (.ptr 99680 0, .sliceU 119699 0 1 3, 20), (.ptr 99578 0, .sliceU 119751 0 1 3, 21), (.ptr 101493 0, .slice 119881 0 1 1, 22), (.ptr 101391 0, .sliceU 119922 0 1 3, 23), (.ptr 101289 0, .sliceU 119975 0 1 3, 24), (.ptr 103204 0, .slice 120105 0 1 1, 25), (.ptr 103102 0, .sliceU 120147 0 1 3, 26), (.ptr 103000 0, .sliceU 120201 0 1 3, 27), (.ptr 104915 0, .slice 120331 0 1 1, 28), (.ptr 104813 0, .sliceU 120374 0 1 3, 29), (.ptr 104711 0, .sliceU 120429 0 1 3, 30), (.ptr 106626 0, .slice 120559 0 1 1, 31), (.ptr 106524 0, .sliceU 120603 0 1 3, 32), (.ptr 106422 0, .sliceU 120659 0 1 3, 33), (.ptr 108337 0, .slice 120789 0 1 1, 34), (.ptr 108235 0, .sliceU 120834 0 1 3, 35), (.ptr 108133 0, .sliceU 120891 0 1 3, 36), (.ptr 110048 0, .slice 121021 0 1 1, 37), (.ptr 109946 0, .sliceU 121067 0 1 3, 38), (.ptr 109844 0, .sliceU 121125 0 1 3, 39)] 40)
noncomputable def sho266 : Nat × Go.AE.AObj := (118147, .cells (.node (some (.map 118146)) .nil .nil) 1 .own)
noncomputable def sho267 : Nat × Go.AE.AObj := (118251, .cells (.node (some (.bool false)) (.node (some (.bool false)) .nil .nil) (.node (some (.int .i64 (1))) .nil .nil)) 3 .own)
noncomputable def sho268 : Nat × Go.AE.AObj := (118369, .cells (.node (some (.bool false)) (.node (some (.bool false)) .nil .nil) (.node (some (.int .i64 (1))) .nil .nil)) 3 .own)
noncomputable def sho269 : Nat × Go.AE.AObj := (118403, .cells (.node (some (.bool false)) (.node (some (.bool false)) .nil .nil) (.node (some (.int .i64 (1))) .nil .nil)) 3 (.grow ⟨[], 75⟩))
noncomputable def sho270 : Nat × Go.AE.AObj := (118449, .cells (.node (some (.bool false)) (.node (some (.bool false)) .nil .nil) (.node (some (.int .i64 (1))) .nil .nil)) 3 (.grow ⟨[], 75⟩))
noncomputable def sho271 : Nat × Go.AE.AObj := (118579, .cells (.node (some (.bool false)) (.node (some (.bool false)) .nil .nil) (.node (some (.int .i64 (1))) .nil .nil)) 3 .own)
noncomputable def sho272 : Nat × Go.AE.AObj := (118614, .cells (.node (some (.bool false)) (.node (some (.bool false)) .nil .nil) (.node (some (.int .i64 (1))) .nil .nil)) 3 (.grow ⟨[], 75⟩))
noncomputable def sho273 : Nat × Go.AE.AObj := (118661, .cells (.node (some (.bool false)) (.node (some (.bool false)) .nil .nil) (.node (some (.int .i64 (1))) .nil .nil)) 3 (.grow ⟨[], 75⟩))
noncomputable def sho274 : Nat × Go.AE.AObj := (118791, .cells (.node (some (.bool false)) (.node (some (.bool false)) .nil .nil) (.node (some (.int .i64 (1))) .nil .nil)) 3 .own)
noncomputable def sho275 : Nat × Go.AE.AObj := (118827, .cells (.node (some (.bool false)) (.node (some (.bool false)) .nil .nil) (.node (some (.int .i64 (1))) .nil .nil)) 3 (.grow ⟨[], 75⟩))
noncomputable def sho276 : Nat × Go.AE.AObj := (118875, .cells (.node (some (.bool false)) (.node (some (.bool false)) .nil .nil) (.node (some (.int .i64 (1))) .nil .nil)) 3 (.grow ⟨[], 75⟩))
noncomputable def sho277 : Nat × Go.AE.AObj := (119005, .cells (.node (some (.bool false)) (.node (some (.bool false)) .nil .nil) (.node (some (.int .i64 (1))) .nil .nil)) 3 .own)
noncomputable def sho278 : Nat × Go.AE.AObj := (119042, .cells (.node (some (.bool false)) (.node (some (.bool false)) .nil .nil) (.node (some (.int .i64 (1))) .nil .nil)) 3 (.grow ⟨[], 75⟩))
noncomputable def sho279 : Nat × Go.AE.AObj := (119091, .cells (.node (some (.bool false)) (.node (some (.bool false)) .nil .nil) (.node (some (.int .i64 (1))) .nil .nil)) 3 (.grow ⟨[], 75⟩))
noncomputable def sho280 : Nat × Go.AE.AObj := (119221, .cells (.node (some (.bool false)) (.node (some (.bool false)) .nil .nil) (.node (some (.int .i64 (1))) .nil .nil)) 3 .own)
noncomputable def sho281 : Nat × Go.AE.AObj := (119259, .cells (.node (some (.bool false)) (.node (some (.bool false)) .nil .nil) (.node (some (.int .i64 (1))) .nil .nil)) 3 (.grow ⟨[], 75⟩))
noncomputable def sho282 : Nat × Go.AE.AObj := (119309, .cells (.node (some (.bool false)) (.node (some (.bool false)) .nil .nil) (.node (some (.int .i64 (1))) .nil .nil)) 3 (.grow ⟨[], 75⟩))
noncomputable def sho283 : Nat × Go.AE.AObj := (119439, .cells (.node (some (.bool false)) (.node (some (.bool false)) .nil .nil) (.node (some (.int .i64 (1))) .nil .nil)) 3 .own)
noncomputable def sho284 : Nat × Go.AE.AObj := (119478, .cells (.node (some (.bool false)) (.node (some (.bool false)) .nil .nil) (.node (some (.int .i64 (1))) .nil .nil)) 3 (.grow ⟨[], 75⟩))
noncomputable def sho285 : Nat × Go.AE.AObj := (119529, .cells (.node (some (.bool false)) (.node (some (.bool false)) .nil .nil) (.node (some (.int .i64 (1))) .nil .nil)) 3 (.grow ⟨[], 75⟩))
noncomputable def sho286 : Nat × Go.AE.AObj := (119659, .cells (.node (some (.bool false)) (.node (some (.bool false)) .nil .nil) (.node (some (.int .i64 (1))) .nil .nil)) 3 .own)
noncomputable def sho287 : Nat × Go.AE.AObj := (119699, .cells (.node (some (.bool false)) (.node (some (.bool false)) .nil .nil) (.node (some (.int .i64 (1))) .nil .nil)) 3 (.grow ⟨[], 75⟩))
noncomputable def sho288 : Nat × Go.AE.AObj := (119751, .cells (.node (some (.bool false)) (.node (some (.bool false)) .nil .nil) (.node (some (.int .i64 (1))) .nil .nil)) 3 (.grow ⟨[], 75⟩))
noncomputable def sho289 : Nat × Go.AE.AObj := (119881, .cells (.node (some (.bool false)) (.node (some (.bool false)) .nil .nil) (.node (some (.int .i64 (1))) .nil .nil)) 3 .own)
noncomputable def sho290 : Nat × Go.AE.AObj := (119922, .cells (.node (some (.bool false)) (.node (some (.bool false)) .nil .nil) (.node (some (.int .i64 (1))) .nil .nil)) 3 (.grow ⟨[], 75⟩))
noncomputable def sho291 : Nat × Go.AE.AObj := (119975, .cells (.node (some (.bool false)) (.node (some (.bool false)) .nil .nil) (.node (some (.int .i64 (1))) .nil .nil)) 3 (.grow ⟨[], 75⟩))
noncomputable def sho292 : Nat × Go.AE.AObj := (120105, .cells (.node (some (.bool false)) (.node (some (.bool false)) .nil .nil) (.node (some (.int .i64 (1))) .nil .nil)) 3 .own)
noncomputable def sho293 : Nat × Go.AE.AObj := (120147, .cells (.node (some (.bool false)) (.node (some (.bool false)) .nil .nil) (.node (some (.int .i64 (1))) .nil .nil)) 3 (.grow ⟨[], 75⟩))
noncomputable def sho294 : Nat × Go.AE.AObj := (120201, .cells (.node (some (.bool false)) (.node (some (.bool false)) .nil .nil) (.node (some (.int .i64 (1))) .nil .nil)) 3 (.grow ⟨[], 75⟩))
noncomputable def sho295 : Nat × Go.AE.AObj := (120331, .cells (.node (some (.bool false)) (.node (some (.bool false)) .nil .nil) (.node (some (.int .i64 (1))) .nil .nil)) 3 .own)
noncomputable def sho296 : Nat × Go.AE.AObj := (120374, .cells (.node (some (.bool false)) (.node (some (.bool false)) .nil .nil) (.node (some (.int .i64 (1))) .nil .nil)) 3 (.grow ⟨[], 75⟩))
noncomputable def sho297 : Nat × Go.AE.AObj := (120429, .cells (.node (some (.bool false)) (.node (some (.bool false)) .nil .nil) (.node (some (.int .i64 (1))) .nil .nil)) 3 (.grow ⟨[], 75⟩))
noncomputable def sho298 : Nat × Go.AE.AObj := (120559, .cells (.node (some (.bool false)) (.node (some (.bool false)) .nil .nil) (.node (some (.int .i64 (1))) .nil .nil)) 3 .own)
noncomputable def sho299 : Nat × Go.AE.AObj := (120603, .cells (.node (some (.bool false)) (.node (some (.bool false)) .nil .nil) (.node (some (.int .i64 (1))) .nil .nil)) 3 (.grow ⟨[], 75⟩))
noncomputable def sho300 : Nat × Go.AE.AObj := (120659, .cells (.node (some (.bool false)) (.node (some (.bool false)) .nil .nil) (.node (some (.int .i64 (1))) .nil .nil)) 3 (.grow ⟨[], 75⟩))
noncomputable def sho301 : Nat × Go.AE.AObj := (120789, .cells (.node (some (.bool false)) (.node (some (.bool false)) .nil .nil) (.node (some (.int .i64 (1))) .nil .nil)) 3 .own)
noncomputable def sho302 : Nat × Go.AE.AObj := (120834, .cells (.node (some (.bool false)) (.node (some (.bool false)) .nil .nil) (.node (some (.int .i64 (1))) .nil .nil)) 3 (.grow ⟨[], 75⟩))
noncomputable def sho303 : Nat × Go.AE.AObj := (120891, .cells (.node (some (.bool false)) (.node (some (.bool false)) .nil .nil) (.node (some (.int .i64 (1))) .nil .nil)) 3 (.grow ⟨[], 75⟩))
noncomputable def sho304 : Nat × Go.AE.AObj := (121021, .cells (.node (some (.bool false)) (.node (some (.bool false)) .nil .nil) (.node (some (.int .i64 (1))) .nil .nil)) 3 .own)
noncomputable def sho305 : Nat × Go.AE.AObj := (121067, .cells (.node (some (.bool false)) (.node (some (.bool false)) .nil .nil) (.node (some (.int .i64 (1))) .nil .nil)) 3 (.grow ⟨[], 75⟩))
noncomputable def sho306 : Nat × Go.AE.AObj := (121125, .cells (.node (some (.bool false)) (.node (some (.bool false)) .nil .nil) (.node (some (.int .i64 (1))) .nil .nil)) 3 (.grow ⟨[], 75⟩))
noncomputable def sho307 : Nat × Go.AE.AObj := (121153, .cells (.node (some (.int .i64 (0))) (.node (some (.int .i64 (0))) .nil .nil) .nil) 2 .own)
noncomputable def fx8 : Go.AE.FX := ⟨45, 37, 503320765, [], false, none, [⟨46, 43, 549771575541, .node (some (.ptr 87831 0)) .nil (.node (some (.ptr 121154 0)) .nil .nil), [.waitS (Go.AE.opsOf (Go.AE.codeOf Tryz.prog 46 [1, 0, 0])) [(0, .ptr 87831 0)] 1 (Go.AE.restOf cfg2 43 549771575541 (Go.AE.opsOf (Go.AE.codeOf Tryz.prog 46 [1, 0, 0])) 2) (Go.AE.finOf 549771575541 (Go.AE.opsOf (Go.AE.codeOf Tryz.prog 46 [1, 0, 0])).toList 0), .code (Go.AE.codeOf Tryz.prog 46 [1, 0, 1]), .code (Go.AE.codeOf Tryz.prog 46 [1, 1])], [], .run, false, none⟩,
 ⟨26, 26, 581821, .node (some (.ptr 87831 0)) (.node none (.node (some (.ptr 111014 0)) (.node (some (.func (.func 46) [] [])) (.node (some (.bool true)) .nil .nil) .nil) (.node none (.node (some (.bool true)) .nil .nil) .nil)) (.node (some (.ptr 121153 0)) .nil (.node (some (.agg [.func (.func 46) [] [], .func (.func 47) [] [], .func (.func 48) [] []])) .nil .nil))) (.node (some .nilptr) (.node (some (.ptr 118147 0)) .nil .nil) (.node none .nil (.node (some (.int .i64 (0))) .nil .nil))), [.waitS (Go.AE.opsOf (Go.AE.codeOf Tryz.prog 26 [1, 1, 0, 1, 0, 0, 1, 1, 0, 0, 1, 1, 0])) [(1, .ptr 87831 0), (0, .func (.func 46) [] [])] 2 (Go.AE.restOf cfg2 26 581821 (Go.AE.opsOf (Go.AE.codeOf Tryz.prog 26 [1, 1, 0, 1, 0, 0, 1, 1, 0, 0, 1, 1, 0])) 3) (Go.AE.finOf 581821 (Go.AE.opsOf (Go.AE.codeOf Tryz.prog 26 [1, 1, 0, 1, 0, 0, 1, 1, 0, 0, 1, 1, 0])).toList 0), .inBlock 1, .code (Go.AE.codeOf Tryz.prog 26 [1, 1, 0, 1, 0, 0, 1, 1, 1]), .inLoop (Go.AE.codeOf Tryz.prog 26 [1, 1, 0, 1, 0, 0]), .inBlock 0, .code (Go.AE.codeOf Tryz.prog 26 [1, 1, 1])], [], .run, false, none⟩,
 shf263,
 shf264,
 shf118]⟩
noncomputable def tr8 : Go.AE.Tr Go.AE.AV := .node (some (.ptr 87831 0)) (.node none (.node (some (.ptr 121156 0)) .nil .nil) .nil) (.node (some (.ptr 121155 0)) (.node (some (.ptr 128285 0)) .nil (.node (some (.bool false)) .nil .nil)) .nil)
noncomputable def ob8 : Go.AE.Tr Go.AE.AObj := Go.AE.setL cfg2 [sho2,
 sho3,
 sho4,
 sho5,
 sho6,
 sho7,
 sho8,
 sho9,
 sho10,
 sho11,
 sho12,
 sho13,
 sho14,
 sho15,
 sho16,
 sho17,
 sho18,
 sho19,
 sho20,
 sho21,
 sho22,
 sho23,
 sho24,
 sho25,
 sho26,
 sho27,
 sho28,
 sho29,
 sho30,
 sho31,
 sho32,
 sho33,
 sho34,
 sho35,
 sho36,
 sho37,
 sho38,
 sho39,
 sho40,
 sho41,
 sho42,
 sho43,
 sho44,
 sho45,
 sho46,
 sho47,
 sho48,
 sho49,
 sho50,
 sho51,
 sho52,
 sho53,
 sho55,
 sho56,
 sho57,
 sho58,
 sho59,
 sho60,
 sho61,
 sho62,
 sho63,
 sho64,
 sho65,
 sho66,
 sho67,
 sho68,
 sho69,
 sho70,
 sho71,
 sho72,
 sho73,
 sho74,
 sho75,
 sho76,
 sho77,
 sho107,
 sho108,
 sho78,
 sho79,
 sho80,
 sho81,
 sho82,
 sho83,
 (38367, .map [(.ptr 14241 0, .int .u64 (5), 0)] 1),
 sho84,
 (38369, .map [] 0),
 sho85,
 sho86,
 sho87,
 sho88,
 (38519, .map [(.ptr 14241 0, .int .u64 (7), 0)] 1),
 sho89,
 (38521, .map [] 0),
 sho90,
 sho91,
 sho92,
 sho93,
 sho94,
 sho95,
 sho96,
 sho97,
 sho98,
 sho99,
 sho100,
 sho101,
 (43386, .map [(.str [105], .int .u64 (15), 0)] 1),
 sho102,
 (43388, .map [] 0),
 sho103,
 (43593, .map [(.str [105], .int .u64 (15), 0)] 1),
 sho104,
 (43595, .map [] 0),
 sho105,
 sho106,
 sho109,
 sho110,
 sho111,
 sho112,
 sho113,
 sho114,
 sho115,
 sho218,
 sho120,
 sho121,
 sho122,
 sho123,
 sho124,
 sho125,
 sho128,
 sho129,
 sho130,
 sho131,
 sho132,
 sho133,
 sho134,
 sho135,
 sho136,
 sho137,
 sho138,
 sho139,
 sho140,
 sho141,
 sho142,
 sho143,
 sho144,
 sho145,
 sho146,
 sho147,
 sho148,
 sho149,
 sho150,
 sho151,
 sho152,
 sho153,
 sho154,
 sho155,
 sho156,
 sho157,
 sho158,
 sho159,
 sho160,
 sho161,
 sho162,
 sho163,
 sho164,
 sho165,
 sho166,
 sho167,
 sho168,
 sho169,
 sho170,
 sho171,
 sho172,
 sho173,
 sho174,
 sho175,
 sho176,
 sho177,
 sho178,
 sho179,
 sho180,
 sho181,
 sho182,
 sho183,
 sho184,
 sho185,
 sho186,
 sho187,
 sho188,
 sho189,
 sho190,
 sho191,
 sho192,
 sho193,
 sho194,
 sho195,
 sho196,
 sho197,
 sho198,
 sho199,
 sho200,
 sho201,
 sho202,
 sho203,
 sho204,
 sho205,
 sho206,
 sho207,
 sho208,
 sho209,
 sho210,
 sho211,
 sho212,
 sho213,
 sho214,
 sho215,
 sho216,
 sho217,
 sho219,
 sho220,
 sho221,
 sho222,
 sho223,
 sho224,
 sho225,
 sho226,
 sho227,
 sho228,
 sho229,
 sho230,
 sho231,
 sho232,
 sho233,
 sho234,
 sho235,
 sho236,
 sho237,
 sho238,
 sho239,
 sho240,
 sho241,
 sho242,
 sho243,
 sho244,
 sho245,
 sho246,
 sho247,
 sho248,
 sho249,
 sho250,
 sho251,
 sho252,
 sho253,
 sho254,
 sho255,
 sho256,
 sho257,
 sho258,
 sho259,
 sho260,
 sho261,
 sho262,
 sho265,
 sho266,
 sho267,
 sho268,
 sho269,
 sho270,
 sho271,
 sho272,
 sho273,
 sho274,
 sho275,
 sho276,
 sho277,
 sho278,
 sho279,
 sho280,
 sho281,
 sho282,
 sho283,
 sho284,
 sho285,
 sho286,
 sho287,
 sho288,
 sho289,
 sho290,
 sho291,
 sho292,
 sho293,
 sho294,
 sho295,
 sho296,
 sho297,
 sho298,
 sho299,
 sho300,
 sho301,
 sho302,
 sho303,
 sho304,
 sho305,
 sho306,
 sho307,
 (121154, .cells (.node (some (.int .i64 (0))) (.node (some (.int .i64 (0))) .nil .nil) .nil) 2 .own),
 (121155, .cells (.node (some .nilptr) .nil .nil) 1 .own),
 (121156, .cells (.node (some (.int .i64 (0))) (.node (some (.int .i64 (0))) .nil .nil) .nil) 2 .own),
 (128285, .cells (.node (some (.int .i64 (0))) (.node (some (.int .i64 (0))) .nil .nil) .nil) 2 .own)] .nil
theorem part8 (b : Go.AE.KT) : Go.AE.runAt cfg2 45 128286 0 (Go.AE.gc cfg2 [13312, 13478, 13648, 13804, 13805, 13884, 14181, 14183, 14239, 14241, 14304, 14406, 14468, 14545, 14769, 15085, 15337, 15687, 15828, 15829, 15908, 16010, 16073, 16075, 16357, 16746, 16747, 16888, 17161, 17163, 17226, 17572, 17574, 17946, 17947, 18026, 18116, 18500, 18809, 19166, 19167, 19246, 19519, 19521, 19584, 19966, 19967, 20046, 20148, 20440, 20756, 20772, 23549, 23550, 23654, 23662, 23666, 23670, 23707, 23737, 24094, 24118, 24152, 24182, 24190, 24220, 24244, 24266, 24274, 24317, 24335, 24343, 24373, 24395, 24429, 37969, 37993, 37994, 37995, 37997, 38001, 38002, 38272, 38367, 38368, 38369, 38371, 38375, 38376, 38456, 38519, 38520, 38521, 38523, 38527, 38528, 38608, 38619, 39090, 40282, 41397, 42589, 43266, 43267, 43268, 43386, 43387, 43388, 43489, 43593, 43594, 43595, 43696, 43704, 44542, 44543, 44754, 44784, 44823, 44836, 44837, 87831, 87997, 88167, 88323, 88324, 88403, 88712, 88906, 89076, 89232, 89233, 89312, 89414, 89516, 89808, 90107, 90423, 90617, 90787, 90943, 90944, 91023, 91125, 91227, 91519, 91818, 92134, 92328, 92498, 92654, 92655, 92734, 92836, 92938, 93230, 93529, 93845, 94039, 94209, 94365, 94366, 94445, 94547, 94649, 94941, 95240, 95556, 95750, 95920, 96076, 96077, 96156, 96258, 96360, 96652, 96951, 97267, 97461, 97631, 97787, 97788, 97867, 97969, 98071, 98363, 98662, 98978, 99172, 99342, 99498, 99499, 99578, 99680, 99782, 100074, 100373, 100689, 100883, 101053, 101209, 101210, 101289, 101391, 101493, 101785, 102084, 102400, 102594, 102764, 102920, 102921, 103000, 103102, 103204, 103496, 103795, 104111, 104305, 104475, 104631, 104632, 104711, 104813, 104915, 105207, 105506, 105822, 106016, 106186, 106342, 106343, 106422, 106524, 106626, 106918, 107217, 107533, 107727, 107897, 108053, 108054, 108133, 108235, 108337, 108629, 108928, 109244, 109438, 109608, 109764, 109765, 109844, 109946, 110048, 110340, 110639, 110955, 110971, 111012, 111013, 111014, 118146, 118147, 118251, 118369, 118403, 118449, 118579, 118614, 118661, 118791, 118827, 118875, 119005, 119042, 119091, 119221, 119259, 119309, 119439, 119478, 119529, 119659, 119699, 119751, 119881, 119922, 119975, 120105, 120147, 120201, 120331, 120374, 120429, 120559, 120603, 120659, 120789, 120834, 120891, 121021, 121067, 121125, 121153, 121154, 121155, 121156, 128285] b) 100000000 .run todo7 fx7 tr7 ob7 118145 = b .run todo8 fx8 tr8 ob8 128286 := by kernel_rfl

end Go.Proofs.YtggompagkfmgnaaGreatDoor
