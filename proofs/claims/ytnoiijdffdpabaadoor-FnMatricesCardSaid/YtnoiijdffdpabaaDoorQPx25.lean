-- By this session's driver (wip/tools/mk.py) of the kit's print program, over several statements at once. Not trusted: Lean checks it.
import Derived.Test.YtnoiijdffdpabaaDoorQWZip
import Derived.Test.YtnoiijdffdpabaaDoorQPx0
import Derived.Test.YtnoiijdffdpabaaDoorQPx2
import Derived.Test.YtnoiijdffdpabaaDoorQPx5
import Derived.Test.YtnoiijdffdpabaaDoorQPx6
import Derived.Test.YtnoiijdffdpabaaDoorQPx9
import Derived.Test.YtnoiijdffdpabaaDoorQPx10
import Derived.Test.YtnoiijdffdpabaaDoorQPx11
import Derived.Test.YtnoiijdffdpabaaDoorQPx12
import Derived.Test.YtnoiijdffdpabaaDoorQPx14
import Derived.Test.YtnoiijdffdpabaaDoorQPx15
import Derived.Test.YtnoiijdffdpabaaDoorQPx16
import Derived.Test.YtnoiijdffdpabaaDoorQPx17
import Derived.Test.YtnoiijdffdpabaaDoorQPx18
import Derived.Test.YtnoiijdffdpabaaDoorQPx19
import Derived.Test.YtnoiijdffdpabaaDoorQPx20
import Derived.Test.YtnoiijdffdpabaaDoorQPx21
import Derived.Test.YtnoiijdffdpabaaDoorQPx22
import Derived.Test.YtnoiijdffdpabaaDoorQPx23
import Derived.Test.YtnoiijdffdpabaaDoorQPx24
namespace Go.Proofs.YtnoiijdffdpabaaDoor.P
open Go.RowKit Go.Proofs.YtnoiijdffdpabaaDoorW.PrintWords Go.Proofs.YtnoiijdffdpabaaDoorW.PrintLast Go.Proofs.YtnoiijdffdpabaaDoorW.PrintMore
attribute [local go_sem] max2_int min2_int max_two min_two max_three min_three max_four min_four   -- for this text's walks alone
set_option linter.unusedVariables false
set_option linter.unusedSimpArgs false

attribute [local go_sem high] eqA25 eqA35
def tailOf : Code → Nat → Code
 | c, 0 => c
 | .seq _ b, n + 1 => tailOf b n
 | c, _ + 1 => c
def laws_FnMatrices.T14 : Bool × List (List Nat × List Nat) := (true, [([], []), ([], []), ([0, 1], [0, 1]), ([2], [2]), ([3], [3]), ([3], [3]), ([4, 5, 3], [3, 4, 5]), ([3, 6], [3, 6]), ([7, 3], [7]), ([8], [8]), ([8], [8]), ([9, 10, 8], [8, 9, 10]), ([8, 11], [8, 11]), ([12, 8], [12]), ([13], [13]), ([13], [13]), ([14, 15, 13], [13, 14, 15]), ([13, 16], [13, 16]), ([17, 13], [17]), ([18], [18]), ([18], [18]), ([19, 20, 18], [18, 19, 20]), ([18, 21], [18, 21]), ([22, 18], [22]), ([23], [23]), ([23], [23]), ([24, 25, 23], [23, 24, 25]), ([23, 26], [23, 26]), ([27, 23], [27]), ([28], [28]), ([28], [28]), ([30, 28, 28], [28, 30]), ([29, 31, 28], [28, 29, 31]), ([28, 32], [28, 32]), ([33, 31], [33]), ([34], [34]), ([35, 34, 34], [34, 35]), ([34], [34]), ([37, 36, 34], [34, 37]), ([36, 38, 34], [34, 36, 38]), ([34, 39], [34, 39]), ([40, 38], [40]), ([41], [41]), ([42, 41, 41], [41, 42]), ([41], [41]), ([44, 43, 41], [41, 44]), ([43, 45, 41], [41, 43, 45]), ([41, 46], [41, 46]), ([47, 45], [47]), ([48], [48]), ([49, 48, 48], [48, 49]), ([48], [48]), ([51, 50, 48], [48, 51]), ([50, 52, 48], [48, 50, 52]), ([48, 53], [48, 53]), ([54, 52], [54]), ([55], [55]), ([56, 55, 55], [55, 56]), ([55], [55]), ([58, 57, 55], [55, 58]), ([57, 59, 55], [55, 57, 59]), ([55, 60], [55, 60]), ([61, 59], [61]), ([62], [62]), ([63, 62, 62], [62, 63]), ([62], [62]), ([65, 64, 62], [62, 65]), ([64, 66, 62], [62, 64, 66]), ([62, 67], [62, 67]), ([68, 66], [68]), ([69], [69]), ([70, 69, 69], [69, 70]), ([69], [69]), ([72, 71, 69], [69, 72]), ([71, 73, 73, 69], [69, 71, 73]), ([74, 69], [69, 74]), ([69, 75], [69, 75]), ([76, 74], [76]), ([77], [77]), ([78, 77, 77], [77, 78]), ([77], [77]), ([80, 79, 77], [77, 80]), ([79, 81, 77], [77, 79, 81]), ([77, 82], [77, 82])])
def laws_FnMatrices.B14 : List Nat := [0, 0, 3, 7, 15, 15, 63, 127, 255, 511, 511, 2047, 4095, 8191, 16383, 16383, 65535, 131071, 262143, 524287, 524287, 2097151, 4194303, 8388607, 16777215, 16777215, 67108863, 134217727, 268435455, 536870911, 536870911, 1610612735, 4294967295, 8589934591, 17179869183, 34359738367, 68719476735, 34359738367, 274877906943, 549755813887, 1099511627775, 2199023255551, 4398046511103, 8796093022207, 4398046511103, 35184372088831, 70368744177663, 140737488355327, 281474976710655, 562949953421311, 1125899906842623, 562949953421311, 4503599627370495, 9007199254740991, 18014398509481983, 36028797018963967, 72057594037927935, 144115188075855871, 72057594037927935, 576460752303423487, 1152921504606846975, 2305843009213693951, 4611686018427387903, 9223372036854775807, 18446744073709551615, 9223372036854775807, 73786976294838206463, 147573952589676412927, 295147905179352825855, 590295810358705651711, 1180591620717411303423, 2361183241434822606847, 1180591620717411303423, 9444732965739290427391, 18889465931478580854783, 37778931862957161709567, 75557863725914323419135, 151115727451828646838271, 302231454903657293676543, 604462909807314587353087, 302231454903657293676543, 2417851639229258349412351, 4835703278458516698824703, 9671406556917033397649407]
theorem laws_FnMatrices.tab14 : rtab .any (opsOf Tryd.f4 14) = laws_FnMatrices.T14 := by kernel_rfl
theorem laws_FnMatrices.bits14 : waitsOk laws_FnMatrices.T14.2 laws_FnMatrices.B14 = true := by kernel_rfl
def laws_FnMatrices.T23 : Bool × List (List Nat × List Nat) := (true, [([], []), ([0], [0]), ([], []), ([1, 2, 1], [1, 2]), ([3], [3]), ([4], [4]), ([4], [4]), ([], []), ([7, 5, 3, 0, 1, 2, 3, 4, 5, 7], [5, 7]), ([6, 8, 0, 1, 2, 3, 4, 5, 6, 7, 8], [6])])
def laws_FnMatrices.B23 : List Nat := [0, 1, 0, 7, 15, 31, 31, 0, 191, 511]
theorem laws_FnMatrices.tab23 : rtab .any (opsOf Tryd.f4 23) = laws_FnMatrices.T23 := by kernel_rfl
theorem laws_FnMatrices.bits23 : waitsOk laws_FnMatrices.T23.2 laws_FnMatrices.B23 = true := by kernel_rfl
def laws_FnMatrices.T37 : Bool × List (List Nat × List Nat) := (true, [([], []), ([], []), ([], []), ([1, 2], [1, 2]), ([3], [3]), ([0, 4], [0, 4]), ([5], [5]), ([6], [6]), ([6], [6]), ([], []), ([9, 7, 5, 0, 1, 2, 3, 4, 5, 6, 7, 9], [7, 9]), ([8, 10, 0, 1, 2, 3, 4, 5, 6, 7, 8, 9, 10], [8])])
def laws_FnMatrices.B37 : List Nat := [0, 0, 0, 6, 14, 31, 63, 127, 127, 0, 767, 2047]
theorem laws_FnMatrices.tab37 : rtab .any (opsOf Tryd.f4 37) = laws_FnMatrices.T37 := by kernel_rfl
theorem laws_FnMatrices.bits37 : waitsOk laws_FnMatrices.T37.2 laws_FnMatrices.B37 = true := by kernel_rfl
def laws_FnMatrices.T38 : Bool × List (List Nat × List Nat) := (true, [([], []), ([0], [0]), ([1], [1]), ([2], [2]), ([2], [2]), ([2], [2]), ([4, 5, 2], [2, 4, 5]), ([6, 2], [2, 6]), ([3, 7, 2], [2, 3, 7]), ([2, 8], [2, 8])])
def laws_FnMatrices.B38 : List Nat := [0, 1, 3, 7, 7, 7, 55, 119, 255, 511]
theorem laws_FnMatrices.tab38 : rtab .any (opsOf Tryd.f4 38) = laws_FnMatrices.T38 := by kernel_rfl
theorem laws_FnMatrices.bits38 : waitsOk laws_FnMatrices.T38.2 laws_FnMatrices.B38 = true := by kernel_rfl
def laws_FnMatrices.T40 : Bool × List (List Nat × List Nat) := (true, [([], []), ([], []), ([1], [1]), ([0, 2, 2], [0, 2]), ([3], [3]), ([4], [4]), ([4], [4]), ([], []), ([7, 5, 3, 0, 1, 2, 3, 4, 5, 7], [5, 7]), ([6, 8, 0, 1, 2, 3, 4, 5, 6, 7, 8], [6])])
def laws_FnMatrices.B40 : List Nat := [0, 0, 2, 7, 15, 31, 31, 0, 191, 511]
theorem laws_FnMatrices.tab40 : rtab .any (opsOf Tryd.f4 40) = laws_FnMatrices.T40 := by kernel_rfl
theorem laws_FnMatrices.bits40 : waitsOk laws_FnMatrices.T40.2 laws_FnMatrices.B40 = true := by kernel_rfl
def laws_FnMatrices.T41 : Bool × List (List Nat × List Nat) := (true, [([], []), ([0], [0]), ([1], [1]), ([1], [1]), ([2, 3, 1], [1, 2, 3]), ([1, 4], [1, 4]), ([5, 1], [5]), ([6], [6]), ([7, 6, 6], [6, 7]), ([8, 6], [6, 8]), ([6], [6]), ([10, 8, 6], [6, 10]), ([11, 6], [6, 11]), ([12, 11, 6], [6, 12]), ([13], [13]), ([14, 13, 13], [13, 14]), ([15, 13], [13, 15]), ([13, 16, 6], [6, 13, 16]), ([9, 17, 6], [6, 9, 17]), ([6, 18], [6, 18]), ([19, 15], [19]), ([20], [20]), ([21, 20], [20, 21]), ([22, 20], [20, 22]), ([20], [20]), ([24, 20, 20], [20, 24]), ([25, 20], [20, 25]), ([23, 26, 20], [20, 23, 26]), ([20, 27], [20, 27]), ([28, 25, 0, 1, 2, 3, 4, 5, 6, 7, 8, 9, 10, 11, 12, 13, 14, 15, 16, 17, 18, 19, 20, 21, 22, 23, 24, 25, 26, 27, 28], [28])])
def laws_FnMatrices.B41 : List Nat := [0, 1, 3, 3, 15, 31, 63, 127, 255, 511, 127, 1535, 3583, 7679, 15871, 32255, 65023, 130559, 262143, 524287, 1048575, 2097151, 4194303, 8388607, 2097151, 18874367, 52428799, 134217727, 268435455, 536870911]
theorem laws_FnMatrices.tab41 : rtab .any (opsOf Tryd.f4 41) = laws_FnMatrices.T41 := by kernel_rfl
theorem laws_FnMatrices.bits41 : waitsOk laws_FnMatrices.T41.2 laws_FnMatrices.B41 = true := by kernel_rfl
end Go.Proofs.YtnoiijdffdpabaaDoor.P
