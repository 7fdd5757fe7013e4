/- Answers of pure functions, kept. -/
import Derived.Test.YteemapgpedcbkaaGreatDoorTab
import Derived.Test.YteemapgpedcbkaaGreatDoorPlain
import Derived.Test.YteemapgpedcbkaaGreatDoorFast
set_option maxRecDepth 1000000
set_option linter.unusedVariables false
set_option linter.unusedSectionVars false
set_option linter.unusedSimpArgs false
noncomputable section
namespace Go.Ab
open Go.Proofs
theorem q60_0 (H : Heap) : Spec Tryz.prog 60 [(.str [97])] H (.bool true) H := memQ_spec mixed tabS_ok (n := 100) (by kernel_rfl) H
def mm60 : List (List V × V) := [([(.str [97])], (.bool true))]
theorem mo60 : FnOk Tryz.prog 60 (.spec (memA mm60)) := memA_ok fun m hm H => by
  simp only [mm60, List.mem_cons, List.not_mem_nil, or_false] at hm
  rcases hm with rfl
  · exact q60_0 H
theorem q59_0 (H : Heap) : Spec Tryz.prog 59 [(.int .i64 5), (.str [])] H (.bool true) H := memQ_spec mixed tabS_ok (n := 100) (by kernel_rfl) H
theorem q59_1 (H : Heap) : Spec Tryz.prog 59 [(.int .i64 6), (.str [])] H (.bool true) H := memQ_spec mixed tabS_ok (n := 100) (by kernel_rfl) H
theorem q59_2 (H : Heap) : Spec Tryz.prog 59 [(.int .i64 4), (.str [107])] H (.bool true) H := memQ_spec mixed tabS_ok (n := 100) (by kernel_rfl) H
theorem q59_3 (H : Heap) : Spec Tryz.prog 59 [(.int .i64 3), (.str [49])] H (.bool true) H := memQ_spec mixed tabS_ok (n := 100) (by kernel_rfl) H
theorem q59_4 (H : Heap) : Spec Tryz.prog 59 [(.int .i64 4), (.str [97])] H (.bool true) H := memQ_spec mixed tabS_ok (n := 100) (by kernel_rfl) H
theorem q59_5 (H : Heap) : Spec Tryz.prog 59 [(.int .i64 4), (.str [98])] H (.bool true) H := memQ_spec mixed tabS_ok (n := 100) (by kernel_rfl) H
theorem q59_6 (H : Heap) : Spec Tryz.prog 59 [(.int .i64 3), (.str [53])] H (.bool true) H := memQ_spec mixed tabS_ok (n := 100) (by kernel_rfl) H
def mm59 : List (List V × V) := [([(.int .i64 5), (.str [])], (.bool true)), ([(.int .i64 6), (.str [])], (.bool true)), ([(.int .i64 4), (.str [107])], (.bool true)), ([(.int .i64 3), (.str [49])], (.bool true)), ([(.int .i64 4), (.str [97])], (.bool true)), ([(.int .i64 4), (.str [98])], (.bool true)), ([(.int .i64 3), (.str [53])], (.bool true))]
theorem mo59 : FnOk Tryz.prog 59 (.spec (memA mm59)) := memA_ok fun m hm H => by
  simp only [mm59, List.mem_cons, List.not_mem_nil, or_false] at hm
  rcases hm with rfl | rfl | rfl | rfl | rfl | rfl | rfl
  · exact q59_0 H
  · exact q59_1 H
  · exact q59_2 H
  · exact q59_3 H
  · exact q59_4 H
  · exact q59_5 H
  · exact q59_6 H
theorem q109_0 (H : Heap) : Spec Tryz.prog 109 [(.str [107]), (.bool false)] H (.bool true) H := memQ_spec mixed tabS_ok (n := 100) (by kernel_rfl) H
theorem q109_1 (H : Heap) : Spec Tryz.prog 109 [(.str [38, 97]), (.bool false)] H (.bool false) H := memQ_spec mixed tabS_ok (n := 100) (by kernel_rfl) H
theorem q109_2 (H : Heap) : Spec Tryz.prog 109 [(.str [97]), (.bool false)] H (.bool true) H := memQ_spec mixed tabS_ok (n := 100) (by kernel_rfl) H
theorem q109_3 (H : Heap) : Spec Tryz.prog 109 [(.str [98]), (.bool false)] H (.bool true) H := memQ_spec mixed tabS_ok (n := 100) (by kernel_rfl) H
theorem q109_4 (H : Heap) : Spec Tryz.prog 109 [(.str [49]), (.bool false)] H (.bool true) H := memQ_spec mixed tabS_ok (n := 100) (by kernel_rfl) H
def mm109 : List (List V × V) := [([(.str [107]), (.bool false)], (.bool true)), ([(.str [38, 97]), (.bool false)], (.bool false)), ([(.str [97]), (.bool false)], (.bool true)), ([(.str [98]), (.bool false)], (.bool true)), ([(.str [49]), (.bool false)], (.bool true))]
theorem mo109 : FnOk Tryz.prog 109 (.spec (memA mm109)) := memA_ok fun m hm H => by
  simp only [mm109, List.mem_cons, List.not_mem_nil, or_false] at hm
  rcases hm with rfl | rfl | rfl | rfl | rfl
  · exact q109_0 H
  · exact q109_1 H
  · exact q109_2 H
  · exact q109_3 H
  · exact q109_4 H
theorem q104_0 (H : Heap) : Spec Tryz.prog 104 [(.str [107])] H (.int .i64 4) H := memQ_spec mixed tabS_ok (n := 100) (by kernel_rfl) H
theorem q104_1 (H : Heap) : Spec Tryz.prog 104 [(.str [38, 97])] H (.int .i64 4) H := memQ_spec mixed tabS_ok (n := 100) (by kernel_rfl) H
theorem q104_2 (H : Heap) : Spec Tryz.prog 104 [(.str [49])] H (.int .i64 3) H := memQ_spec mixed tabS_ok (n := 100) (by kernel_rfl) H
theorem q104_3 (H : Heap) : Spec Tryz.prog 104 [(.str [97])] H (.int .i64 4) H := memQ_spec mixed tabS_ok (n := 100) (by kernel_rfl) H
theorem q104_4 (H : Heap) : Spec Tryz.prog 104 [(.str [53])] H (.int .i64 3) H := memQ_spec mixed tabS_ok (n := 100) (by kernel_rfl) H
theorem q104_5 (H : Heap) : Spec Tryz.prog 104 [(.str [98])] H (.int .i64 4) H := memQ_spec mixed tabS_ok (n := 100) (by kernel_rfl) H
def mm104 : List (List V × V) := [([(.str [107])], (.int .i64 4)), ([(.str [38, 97])], (.int .i64 4)), ([(.str [49])], (.int .i64 3)), ([(.str [97])], (.int .i64 4)), ([(.str [53])], (.int .i64 3)), ([(.str [98])], (.int .i64 4))]
theorem mo104 : FnOk Tryz.prog 104 (.spec (memA mm104)) := memA_ok fun m hm H => by
  simp only [mm104, List.mem_cons, List.not_mem_nil, or_false] at hm
  rcases hm with rfl | rfl | rfl | rfl | rfl | rfl
  · exact q104_0 H
  · exact q104_1 H
  · exact q104_2 H
  · exact q104_3 H
  · exact q104_4 H
  · exact q104_5 H
theorem q85_0 (H : Heap) : Spec Tryz.prog 85 [(.str [107, 58])] H (.tup [(.agg [(.int .i64 4), (.str [107]), (.str []), .zsl]), (.str []), (.int .i64 2), (.bool true)]) H := memQ_spec mixed tabS_ok (n := 100) (by kernel_rfl) H
theorem q85_1 (H : Heap) : Spec Tryz.prog 85 [(.str [38, 97])] H (.tup [(.agg [(.int .i64 0), (.str []), (.str []), .zsl]), (.str []), (.int .i64 0), (.bool false)]) H := memQ_spec mixed tabS_ok (n := 100) (by kernel_rfl) H
theorem q85_2 (H : Heap) : Spec Tryz.prog 85 [(.str [107, 58, 32, 38, 97])] H (.tup [(.agg [(.int .i64 4), (.str [107]), (.str []), .zsl]), (.str [38, 97]), (.int .i64 3), (.bool true)]) H := memQ_spec mixed tabS_ok (n := 100) (by kernel_rfl) H
theorem q85_3 (H : Heap) : Spec Tryz.prog 85 [(.str [97, 58, 32, 98])] H (.tup [(.agg [(.int .i64 4), (.str [97]), (.str []), .zsl]), (.str [98]), (.int .i64 3), (.bool true)]) H := memQ_spec mixed tabS_ok (n := 100) (by kernel_rfl) H
theorem q85_4 (H : Heap) : Spec Tryz.prog 85 [(.str [107, 58, 32, 53])] H (.tup [(.agg [(.int .i64 4), (.str [107]), (.str []), .zsl]), (.str [53]), (.int .i64 3), (.bool true)]) H := memQ_spec mixed tabS_ok (n := 100) (by kernel_rfl) H
def mm85 : List (List V × V) := [([(.str [107, 58])], (.tup [(.agg [(.int .i64 4), (.str [107]), (.str []), .zsl]), (.str []), (.int .i64 2), (.bool true)])), ([(.str [38, 97])], (.tup [(.agg [(.int .i64 0), (.str []), (.str []), .zsl]), (.str []), (.int .i64 0), (.bool false)])), ([(.str [107, 58, 32, 38, 97])], (.tup [(.agg [(.int .i64 4), (.str [107]), (.str []), .zsl]), (.str [38, 97]), (.int .i64 3), (.bool true)])), ([(.str [97, 58, 32, 98])], (.tup [(.agg [(.int .i64 4), (.str [97]), (.str []), .zsl]), (.str [98]), (.int .i64 3), (.bool true)])), ([(.str [107, 58, 32, 53])], (.tup [(.agg [(.int .i64 4), (.str [107]), (.str []), .zsl]), (.str [53]), (.int .i64 3), (.bool true)]))]
theorem mo85 : FnOk Tryz.prog 85 (.spec (memA mm85)) := memA_ok fun m hm H => by
  simp only [mm85, List.mem_cons, List.not_mem_nil, or_false] at hm
  rcases hm with rfl | rfl | rfl | rfl | rfl
  · exact q85_0 H
  · exact q85_1 H
  · exact q85_2 H
  · exact q85_3 H
  · exact q85_4 H
theorem q84_0 (H : Heap) : Spec Tryz.prog 84 [(.str [45, 32, 38, 97])] H (.tup [(.str [38, 97]), (.int .i64 2), (.bool true)]) H := memQ_spec mixed tabS_ok (n := 100) (by kernel_rfl) H
theorem q84_1 (H : Heap) : Spec Tryz.prog 84 [(.str [38, 97])] H (.tup [(.str []), (.int .i64 0), (.bool false)]) H := memQ_spec mixed tabS_ok (n := 100) (by kernel_rfl) H
theorem q84_2 (H : Heap) : Spec Tryz.prog 84 [(.str [107, 58])] H (.tup [(.str []), (.int .i64 0), (.bool false)]) H := memQ_spec mixed tabS_ok (n := 100) (by kernel_rfl) H
theorem q84_3 (H : Heap) : Spec Tryz.prog 84 [(.str [45, 32, 107, 58])] H (.tup [(.str [107, 58]), (.int .i64 2), (.bool true)]) H := memQ_spec mixed tabS_ok (n := 100) (by kernel_rfl) H
theorem q84_4 (H : Heap) : Spec Tryz.prog 84 [(.str [107, 58, 32, 38, 97])] H (.tup [(.str []), (.int .i64 0), (.bool false)]) H := memQ_spec mixed tabS_ok (n := 100) (by kernel_rfl) H
theorem q84_5 (H : Heap) : Spec Tryz.prog 84 [(.str [45, 32, 49])] H (.tup [(.str [49]), (.int .i64 2), (.bool true)]) H := memQ_spec mixed tabS_ok (n := 100) (by kernel_rfl) H
theorem q84_6 (H : Heap) : Spec Tryz.prog 84 [(.str [97, 58, 32, 98])] H (.tup [(.str []), (.int .i64 0), (.bool false)]) H := memQ_spec mixed tabS_ok (n := 100) (by kernel_rfl) H
def mm84 : List (List V × V) := [([(.str [45, 32, 38, 97])], (.tup [(.str [38, 97]), (.int .i64 2), (.bool true)])), ([(.str [38, 97])], (.tup [(.str []), (.int .i64 0), (.bool false)])), ([(.str [107, 58])], (.tup [(.str []), (.int .i64 0), (.bool false)])), ([(.str [45, 32, 107, 58])], (.tup [(.str [107, 58]), (.int .i64 2), (.bool true)])), ([(.str [107, 58, 32, 38, 97])], (.tup [(.str []), (.int .i64 0), (.bool false)])), ([(.str [45, 32, 49])], (.tup [(.str [49]), (.int .i64 2), (.bool true)])), ([(.str [97, 58, 32, 98])], (.tup [(.str []), (.int .i64 0), (.bool false)]))]
theorem mo84 : FnOk Tryz.prog 84 (.spec (memA mm84)) := memA_ok fun m hm H => by
  simp only [mm84, List.mem_cons, List.not_mem_nil, or_false] at hm
  rcases hm with rfl | rfl | rfl | rfl | rfl | rfl | rfl
  · exact q84_0 H
  · exact q84_1 H
  · exact q84_2 H
  · exact q84_3 H
  · exact q84_4 H
  · exact q84_5 H
  · exact q84_6 H
theorem q134_0 (H : Heap) : Spec Tryz.prog 134 [(.str [107, 58]), (.bool false)] H (.tup [(.str [107]), (.int .i64 1)]) H := memQ_spec mixed tabS_ok (n := 100) (by kernel_rfl) H
theorem q134_1 (H : Heap) : Spec Tryz.prog 134 [(.str [38, 97]), (.bool false)] H (.tup [(.str [38, 97]), (.int .i64 2)]) H := memQ_spec mixed tabS_ok (n := 100) (by kernel_rfl) H
theorem q134_2 (H : Heap) : Spec Tryz.prog 134 [(.str [107, 58, 32, 38, 97]), (.bool false)] H (.tup [(.str [107]), (.int .i64 1)]) H := memQ_spec mixed tabS_ok (n := 100) (by kernel_rfl) H
theorem q134_3 (H : Heap) : Spec Tryz.prog 134 [(.str [97, 58, 32, 98]), (.bool false)] H (.tup [(.str [97]), (.int .i64 1)]) H := memQ_spec mixed tabS_ok (n := 100) (by kernel_rfl) H
theorem q134_4 (H : Heap) : Spec Tryz.prog 134 [(.str [49]), (.bool false)] H (.tup [(.str [49]), (.int .i64 1)]) H := memQ_spec mixed tabS_ok (n := 100) (by kernel_rfl) H
theorem q134_5 (H : Heap) : Spec Tryz.prog 134 [(.str [107, 58, 32, 53]), (.bool false)] H (.tup [(.str [107]), (.int .i64 1)]) H := memQ_spec mixed tabS_ok (n := 100) (by kernel_rfl) H
def mm134 : List (List V × V) := [([(.str [107, 58]), (.bool false)], (.tup [(.str [107]), (.int .i64 1)])), ([(.str [38, 97]), (.bool false)], (.tup [(.str [38, 97]), (.int .i64 2)])), ([(.str [107, 58, 32, 38, 97]), (.bool false)], (.tup [(.str [107]), (.int .i64 1)])), ([(.str [97, 58, 32, 98]), (.bool false)], (.tup [(.str [97]), (.int .i64 1)])), ([(.str [49]), (.bool false)], (.tup [(.str [49]), (.int .i64 1)])), ([(.str [107, 58, 32, 53]), (.bool false)], (.tup [(.str [107]), (.int .i64 1)]))]
theorem mo134 : FnOk Tryz.prog 134 (.spec (memA mm134)) := memA_ok fun m hm H => by
  simp only [mm134, List.mem_cons, List.not_mem_nil, or_false] at hm
  rcases hm with rfl | rfl | rfl | rfl | rfl | rfl
  · exact q134_0 H
  · exact q134_1 H
  · exact q134_2 H
  · exact q134_3 H
  · exact q134_4 H
  · exact q134_5 H
theorem q142_0 (H : Heap) : Spec Tryz.prog 142 [(.str [107]), (.bool false)] H (.int .i64 1) H := memQ_spec mixed tabS_ok (n := 100) (by kernel_rfl) H
theorem q142_1 (H : Heap) : Spec Tryz.prog 142 [(.str [107, 58]), (.bool false)] H (.int .i64 1) H := memQ_spec mixed tabS_ok (n := 100) (by kernel_rfl) H
theorem q142_2 (H : Heap) : Spec Tryz.prog 142 [(.str [38, 97]), (.bool false)] H (.int .i64 2) H := memQ_spec mixed tabS_ok (n := 100) (by kernel_rfl) H
theorem q142_3 (H : Heap) : Spec Tryz.prog 142 [(.str [107, 58, 32, 38, 97]), (.bool false)] H (.int .i64 1) H := memQ_spec mixed tabS_ok (n := 100) (by kernel_rfl) H
theorem q142_4 (H : Heap) : Spec Tryz.prog 142 [(.str [97]), (.bool false)] H (.int .i64 1) H := memQ_spec mixed tabS_ok (n := 100) (by kernel_rfl) H
theorem q142_5 (H : Heap) : Spec Tryz.prog 142 [(.str [49]), (.bool false)] H (.int .i64 1) H := memQ_spec mixed tabS_ok (n := 100) (by kernel_rfl) H
theorem q142_6 (H : Heap) : Spec Tryz.prog 142 [(.str [98]), (.bool false)] H (.int .i64 1) H := memQ_spec mixed tabS_ok (n := 100) (by kernel_rfl) H
theorem q142_7 (H : Heap) : Spec Tryz.prog 142 [(.str [97, 58, 32, 98]), (.bool false)] H (.int .i64 1) H := memQ_spec mixed tabS_ok (n := 100) (by kernel_rfl) H
theorem q142_8 (H : Heap) : Spec Tryz.prog 142 [(.str [53]), (.bool false)] H (.int .i64 1) H := memQ_spec mixed tabS_ok (n := 100) (by kernel_rfl) H
theorem q142_9 (H : Heap) : Spec Tryz.prog 142 [(.str [107, 58, 32, 53]), (.bool false)] H (.int .i64 1) H := memQ_spec mixed tabS_ok (n := 100) (by kernel_rfl) H
def mm142 : List (List V × V) := [([(.str [107]), (.bool false)], (.int .i64 1)), ([(.str [107, 58]), (.bool false)], (.int .i64 1)), ([(.str [38, 97]), (.bool false)], (.int .i64 2)), ([(.str [107, 58, 32, 38, 97]), (.bool false)], (.int .i64 1)), ([(.str [97]), (.bool false)], (.int .i64 1)), ([(.str [49]), (.bool false)], (.int .i64 1)), ([(.str [98]), (.bool false)], (.int .i64 1)), ([(.str [97, 58, 32, 98]), (.bool false)], (.int .i64 1)), ([(.str [53]), (.bool false)], (.int .i64 1)), ([(.str [107, 58, 32, 53]), (.bool false)], (.int .i64 1))]
theorem mo142 : FnOk Tryz.prog 142 (.spec (memA mm142)) := memA_ok fun m hm H => by
  simp only [mm142, List.mem_cons, List.not_mem_nil, or_false] at hm
  rcases hm with rfl | rfl | rfl | rfl | rfl | rfl | rfl | rfl | rfl | rfl
  · exact q142_0 H
  · exact q142_1 H
  · exact q142_2 H
  · exact q142_3 H
  · exact q142_4 H
  · exact q142_5 H
  · exact q142_6 H
  · exact q142_7 H
  · exact q142_8 H
  · exact q142_9 H
theorem q106_0 (H : Heap) : Spec Tryz.prog 106 [(.str [97]), (.str [97, 98, 99, 100, 101, 102, 103, 104, 105, 106, 107, 108, 109, 110, 111, 112, 113, 114, 115, 116, 117, 118, 119, 120, 121, 122, 65, 66, 67, 68, 69, 70, 71, 72, 73, 74, 75, 76, 77, 78, 79, 80, 81, 82, 83, 84, 85, 86, 87, 88, 89, 90, 48, 49, 50, 51, 52, 53, 54, 55, 56, 57, 45, 95])] H (.str []) H := memQ_spec mixed tabS_ok (n := 100) (by kernel_rfl) H
theorem q106_1 (H : Heap) : Spec Tryz.prog 106 [(.str [107]), (.str [32])] H (.str [107]) H := memQ_spec mixed tabS_ok (n := 100) (by kernel_rfl) H
theorem q106_2 (H : Heap) : Spec Tryz.prog 106 [(.str [107]), (.str [9, 10, 13])] H (.str [107]) H := memQ_spec mixed tabS_ok (n := 100) (by kernel_rfl) H
theorem q106_3 (H : Heap) : Spec Tryz.prog 106 [(.str [38, 97]), (.str [32])] H (.str [38, 97]) H := memQ_spec mixed tabS_ok (n := 100) (by kernel_rfl) H
theorem q106_4 (H : Heap) : Spec Tryz.prog 106 [(.str [97]), (.str [32])] H (.str [97]) H := memQ_spec mixed tabS_ok (n := 100) (by kernel_rfl) H
theorem q106_5 (H : Heap) : Spec Tryz.prog 106 [(.str [97]), (.str [9, 10, 13])] H (.str [97]) H := memQ_spec mixed tabS_ok (n := 100) (by kernel_rfl) H
theorem q106_6 (H : Heap) : Spec Tryz.prog 106 [(.str []), (.str [32])] H (.str []) H := memQ_spec mixed tabS_ok (n := 100) (by kernel_rfl) H
theorem q106_7 (H : Heap) : Spec Tryz.prog 106 [(.str [49]), (.str [32])] H (.str [49]) H := memQ_spec mixed tabS_ok (n := 100) (by kernel_rfl) H
theorem q106_8 (H : Heap) : Spec Tryz.prog 106 [(.str [49]), (.str [9, 10, 13])] H (.str [49]) H := memQ_spec mixed tabS_ok (n := 100) (by kernel_rfl) H
theorem q106_9 (H : Heap) : Spec Tryz.prog 106 [(.str [98]), (.str [32])] H (.str [98]) H := memQ_spec mixed tabS_ok (n := 100) (by kernel_rfl) H
def mm106 : List (List V × V) := [([(.str [97]), (.str [97, 98, 99, 100, 101, 102, 103, 104, 105, 106, 107, 108, 109, 110, 111, 112, 113, 114, 115, 116, 117, 118, 119, 120, 121, 122, 65, 66, 67, 68, 69, 70, 71, 72, 73, 74, 75, 76, 77, 78, 79, 80, 81, 82, 83, 84, 85, 86, 87, 88, 89, 90, 48, 49, 50, 51, 52, 53, 54, 55, 56, 57, 45, 95])], (.str [])), ([(.str [107]), (.str [32])], (.str [107])), ([(.str [107]), (.str [9, 10, 13])], (.str [107])), ([(.str [38, 97]), (.str [32])], (.str [38, 97])), ([(.str [97]), (.str [32])], (.str [97])), ([(.str [97]), (.str [9, 10, 13])], (.str [97])), ([(.str []), (.str [32])], (.str [])), ([(.str [49]), (.str [32])], (.str [49])), ([(.str [49]), (.str [9, 10, 13])], (.str [49])), ([(.str [98]), (.str [32])], (.str [98]))]
theorem mo106 : FnOk Tryz.prog 106 (.spec (memA mm106)) := memA_ok fun m hm H => by
  simp only [mm106, List.mem_cons, List.not_mem_nil, or_false] at hm
  rcases hm with rfl | rfl | rfl | rfl | rfl | rfl | rfl | rfl | rfl | rfl
  · exact q106_0 H
  · exact q106_1 H
  · exact q106_2 H
  · exact q106_3 H
  · exact q106_4 H
  · exact q106_5 H
  · exact q106_6 H
  · exact q106_7 H
  · exact q106_8 H
  · exact q106_9 H
def tm : BS := (.node 78 (.shal s78) (.node 38 (.shal s38) (.node 19 (.shal s19) (.node 11 (.shal s11) (.node 7 (.shal s7) (.node 5 (.shal s5) (.node 4 (.shal s4) (.node 3 (.shal s3) .nil .nil) .nil) (.node 6 (.shal s6) .nil .nil)) (.node 9 (.shal s9) (.node 8 (.shal s8) .nil .nil) (.node 10 (.old (.code 63 c10 d10)) .nil .nil))) (.node 15 (.shal s15) (.node 13 (.shal s13) (.node 12 (.shal s12) .nil .nil) (.node 14 (.shal s14) .nil .nil)) (.node 17 (.shal s17) (.node 16 (.shal s16) .nil .nil) (.node 18 (.shal s18) .nil .nil)))) (.node 28 (.shal s28) (.node 24 (.shal s24) (.node 22 (.shal s22) (.node 21 (.shal s21) (.node 20 (.shal s20) .nil .nil) .nil) (.node 23 (.shal s23) .nil .nil)) (.node 26 (.shal s26) (.node 25 (.shal s25) .nil .nil) (.node 27 (.shal s27) .nil .nil))) (.node 34 (.shal s34) (.node 30 (.shal s30) (.node 29 (.shal s29) .nil .nil) (.node 33 (.shal s33) .nil .nil)) (.node 36 (.shal s36) (.node 35 (.shal s35) .nil .nil) (.node 37 (.shal s37) .nil .nil))))) (.node 58 (.shal s58) (.node 49 (.shal s49) (.node 45 (.shal s45) (.node 43 (.shal s43) (.node 42 (.mem chkG s42) (.node 41 (.old (.code 23 c41 d41)) .nil .nil) .nil) (.node 44 (.shal s44) .nil .nil)) (.node 47 (.shal s47) (.node 46 (.shal s46) .nil .nil) (.node 48 (.shal s48) .nil .nil))) (.node 53 (.shal s53) (.node 51 (.shal s51) (.node 50 (.shal s50) .nil .nil) (.node 52 (.shal s52) .nil .nil)) (.node 55 (.shal s55) (.node 54 (.shal s54) .nil .nil) (.node 56 (.shal s56) .nil .nil)))) (.node 69 (.shal s69) (.node 64 (.shal s64) (.node 61 (.shal s61) (.node 60 (.mem (memA mm60) s60) (.node 59 (.mem (memA mm59) s59) .nil .nil) .nil) (.node 63 (.shal s63) .nil .nil)) (.node 66 (.old (.ext 0)) (.node 65 (.shal s65) .nil .nil) (.node 68 (.shal s68) .nil .nil))) (.node 74 (.shal s74) (.node 72 (.shal s72) (.node 71 (.shal s71) .nil .nil) (.node 73 (.shal s73) .nil .nil)) (.node 76 (.shal s76) (.node 75 (.shal s75) .nil .nil) (.node 77 (.shal s77) .nil .nil)))))) (.node 123 (.shal s123) (.node 100 (.shal s100) (.node 89 (.shal s89) (.node 85 (.mem (memA mm85) s85) (.node 83 (.shal s83) (.node 81 (.shal s81) (.node 79 (.shal s79) .nil .nil) .nil) (.node 84 (.mem (memA mm84) s84) .nil .nil)) (.node 87 (.shal s87) (.node 86 (.shal s86) .nil .nil) (.node 88 (.shal s88) .nil .nil))) (.node 95 (.shal s95) (.node 91 (.shal s91) (.node 90 (.shal s90) .nil .nil) (.node 94 (.shal s94) .nil .nil)) (.node 98 (.shal s98) (.node 97 (.shal s97) .nil .nil) (.node 99 (.shal s99) .nil .nil)))) (.node 114 (.shal s114) (.node 106 (.mem (memA mm106) s106) (.node 104 (.mem (memA mm104) s104) (.node 103 (.shal s103) (.node 101 (.shal s101) .nil .nil) .nil) (.node 105 (.shal s105) .nil .nil)) (.node 112 (.shal s112) (.node 109 (.mem (memA mm109) s109) .nil .nil) (.node 113 (.shal s113) .nil .nil))) (.node 119 (.shal s119) (.node 116 (.old (.ext 1)) (.node 115 (.shal s115) .nil .nil) (.node 118 (.shal s118) .nil .nil)) (.node 121 (.shal s121) (.node 120 (.shal s120) .nil .nil) (.node 122 (.shal s122) .nil .nil))))) (.node 159 (.shal s159) (.node 140 (.shal s140) (.node 129 (.shal s129) (.node 127 (.shal s127) (.node 125 (.shal s125) (.node 124 (.shal s124) .nil .nil) .nil) (.node 128 (.shal s128) .nil .nil)) (.node 137 (.shal s137) (.node 134 (.mem (memA mm134) s134) .nil .nil) (.node 138 (.shal s138) .nil .nil))) (.node 146 (.shal s146) (.node 142 (.mem (memA mm142) s142) (.node 141 (.shal s141) .nil .nil) (.node 145 (.shal s145) .nil .nil)) (.node 148 (.shal s148) (.node 147 (.shal s147) .nil .nil) (.node 158 (.shal s158) .nil .nil)))) (.node 184 (.shal s184) (.node 175 (.shal s175) (.node 164 (.shal s164) (.node 163 (.shal s163) .nil .nil) (.node 169 (.shal s169) .nil .nil)) (.node 177 (.shal s177) (.node 176 (.shal s176) .nil .nil) (.node 180 (.shal s180) .nil .nil))) (.node 193 (.shal s193) (.node 189 (.shal s189) (.node 185 (.shal s185) .nil .nil) (.node 192 (.shal s192) .nil .nil)) (.node 197 (.shal s197) (.node 194 (.shal s194) .nil .nil) (.node 201 (.shal s201) .nil .nil)))))))
theorem tm_ok : tm.ok Tryz.prog := (bs_node k78 (bs_node k38 (bs_node k19 (bs_node k11 (bs_node k7 (bs_node k5 (bs_node k4 (bs_node k3 bs_nil bs_nil) bs_nil) (bs_node k6 bs_nil bs_nil)) (bs_node k9 (bs_node k8 bs_nil bs_nil) (bs_node k10 bs_nil bs_nil))) (bs_node k15 (bs_node k13 (bs_node k12 bs_nil bs_nil) (bs_node k14 bs_nil bs_nil)) (bs_node k17 (bs_node k16 bs_nil bs_nil) (bs_node k18 bs_nil bs_nil)))) (bs_node k28 (bs_node k24 (bs_node k22 (bs_node k21 (bs_node k20 bs_nil bs_nil) bs_nil) (bs_node k23 bs_nil bs_nil)) (bs_node k26 (bs_node k25 bs_nil bs_nil) (bs_node k27 bs_nil bs_nil))) (bs_node k34 (bs_node k30 (bs_node k29 bs_nil bs_nil) (bs_node k33 bs_nil bs_nil)) (bs_node k36 (bs_node k35 bs_nil bs_nil) (bs_node k37 bs_nil bs_nil))))) (bs_node k58 (bs_node k49 (bs_node k45 (bs_node k43 (bs_node ⟨chk_ok, k42⟩ (bs_node k41 bs_nil bs_nil) bs_nil) (bs_node k44 bs_nil bs_nil)) (bs_node k47 (bs_node k46 bs_nil bs_nil) (bs_node k48 bs_nil bs_nil))) (bs_node k53 (bs_node k51 (bs_node k50 bs_nil bs_nil) (bs_node k52 bs_nil bs_nil)) (bs_node k55 (bs_node k54 bs_nil bs_nil) (bs_node k56 bs_nil bs_nil)))) (bs_node k69 (bs_node k64 (bs_node k61 (bs_node ⟨mo60, k60⟩ (bs_node ⟨mo59, k59⟩ bs_nil bs_nil) bs_nil) (bs_node k63 bs_nil bs_nil)) (bs_node k66 (bs_node k65 bs_nil bs_nil) (bs_node k68 bs_nil bs_nil))) (bs_node k74 (bs_node k72 (bs_node k71 bs_nil bs_nil) (bs_node k73 bs_nil bs_nil)) (bs_node k76 (bs_node k75 bs_nil bs_nil) (bs_node k77 bs_nil bs_nil)))))) (bs_node k123 (bs_node k100 (bs_node k89 (bs_node ⟨mo85, k85⟩ (bs_node k83 (bs_node k81 (bs_node k79 bs_nil bs_nil) bs_nil) (bs_node ⟨mo84, k84⟩ bs_nil bs_nil)) (bs_node k87 (bs_node k86 bs_nil bs_nil) (bs_node k88 bs_nil bs_nil))) (bs_node k95 (bs_node k91 (bs_node k90 bs_nil bs_nil) (bs_node k94 bs_nil bs_nil)) (bs_node k98 (bs_node k97 bs_nil bs_nil) (bs_node k99 bs_nil bs_nil)))) (bs_node k114 (bs_node ⟨mo106, k106⟩ (bs_node ⟨mo104, k104⟩ (bs_node k103 (bs_node k101 bs_nil bs_nil) bs_nil) (bs_node k105 bs_nil bs_nil)) (bs_node k112 (bs_node ⟨mo109, k109⟩ bs_nil bs_nil) (bs_node k113 bs_nil bs_nil))) (bs_node k119 (bs_node k116 (bs_node k115 bs_nil bs_nil) (bs_node k118 bs_nil bs_nil)) (bs_node k121 (bs_node k120 bs_nil bs_nil) (bs_node k122 bs_nil bs_nil))))) (bs_node k159 (bs_node k140 (bs_node k129 (bs_node k127 (bs_node k125 (bs_node k124 bs_nil bs_nil) bs_nil) (bs_node k128 bs_nil bs_nil)) (bs_node k137 (bs_node ⟨mo134, k134⟩ bs_nil bs_nil) (bs_node k138 bs_nil bs_nil))) (bs_node k146 (bs_node ⟨mo142, k142⟩ (bs_node k141 bs_nil bs_nil) (bs_node k145 bs_nil bs_nil)) (bs_node k148 (bs_node k147 bs_nil bs_nil) (bs_node k158 bs_nil bs_nil)))) (bs_node k184 (bs_node k175 (bs_node k164 (bs_node k163 bs_nil bs_nil) (bs_node k169 bs_nil bs_nil)) (bs_node k177 (bs_node k176 bs_nil bs_nil) (bs_node k180 bs_nil bs_nil))) (bs_node k193 (bs_node k189 (bs_node k185 bs_nil bs_nil) (bs_node k192 bs_nil bs_nil)) (bs_node k197 (bs_node k194 bs_nil bs_nil) (bs_node k201 bs_nil bs_nil)))))))
theorem tabM_ok : TabS Tryz.prog tm.get lpT := ⟨fun f s h => BS.get_ok tm tm_ok f s h, lp_ok⟩
end Go.Ab
end
