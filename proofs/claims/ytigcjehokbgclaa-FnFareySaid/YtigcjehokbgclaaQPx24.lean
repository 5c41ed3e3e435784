-- By this session's driver (wip/tools/mk.py) of the kit's print program, over several statements at once. Not trusted: Lean checks it.
import Derived.Test.YtigcjehokbgclaaQWZip
import Derived.Test.YtigcjehokbgclaaQPx0
import Derived.Test.YtigcjehokbgclaaQPx2
import Derived.Test.YtigcjehokbgclaaQPx5
import Derived.Test.YtigcjehokbgclaaQPx7
import Derived.Test.YtigcjehokbgclaaQPx8
import Derived.Test.YtigcjehokbgclaaQPx9
import Derived.Test.YtigcjehokbgclaaQPx10
import Derived.Test.YtigcjehokbgclaaQPx11
import Derived.Test.YtigcjehokbgclaaQPx12
import Derived.Test.YtigcjehokbgclaaQPx13
import Derived.Test.YtigcjehokbgclaaQPx15
import Derived.Test.YtigcjehokbgclaaQPx16
import Derived.Test.YtigcjehokbgclaaQPx19
import Derived.Test.YtigcjehokbgclaaQPx20
import Derived.Test.YtigcjehokbgclaaQPx22
import Derived.Test.YtigcjehokbgclaaQPx23
namespace Go.Proofs.Ytigcjehokbgclaa.P
open Go.RowKit Go.Proofs.YtigcjehokbgclaaW.PrintWords Go.Proofs.YtigcjehokbgclaaW.PrintLast Go.Proofs.YtigcjehokbgclaaW.PrintMore
attribute [local go_sem] max2_int min2_int max_two min_two max_three min_three max_four min_four   -- for this text's walks alone
set_option linter.unusedVariables false
set_option linter.unusedSimpArgs false

attribute [local go_sem high] eqA25
def tailOf : Code → Nat → Code
 | c, 0 => c
 | .seq _ b, n + 1 => tailOf b n
 | c, _ + 1 => c
def laws_FnFarey.T25 : Bool × List (List Nat × List Nat) := (true, [([], []), ([0], [0]), ([1], [1]), ([2], [2]), ([3], [3]), ([4, 3], [3, 4]), ([5, 3], [3, 5]), ([3], [3]), ([7, 3], [3, 7]), ([8, 3], [3, 8]), ([6, 9, 3, 3], [3, 6, 9]), ([10, 3], [3, 10]), ([11, 10, 3], [3, 11]), ([12], [12]), ([13, 12], [12, 13]), ([14, 12], [12, 14]), ([12], [12]), ([15, 16, 12, 12], [12, 15, 16]), ([17, 12], [12, 17]), ([12, 18, 3], [3, 12, 18]), ([19, 17, 3], [3, 19]), ([20], [20]), ([21, 20], [20, 21]), ([22, 20], [20, 22]), ([20], [20]), ([23, 24, 20, 20], [20, 23, 24]), ([25, 20], [20, 25]), ([20, 26, 3], [3, 20, 26]), ([3, 27], [3, 27])])
def laws_FnFarey.B25 : List Nat := [0, 1, 3, 7, 15, 31, 63, 15, 143, 399, 1023, 2047, 4095, 8191, 16383, 32767, 8191, 131071, 262143, 524287, 1048575, 2097151, 4194303, 8388607, 2097151, 33554431, 67108863, 134217727, 268435455]
theorem laws_FnFarey.tab25 : rtab .any (opsOf Try.f3 25) = laws_FnFarey.T25 := by kernel_rfl
theorem laws_FnFarey.bits25 : waitsOk laws_FnFarey.T25.2 laws_FnFarey.B25 = true := by kernel_rfl
def laws_FnFarey.T28 : Bool × List (List Nat × List Nat) := (true, [([], []), ([0], [0]), ([1], [1]), ([], []), ([3], [3]), ([4], [4]), ([2, 5], [2, 5]), ([6], [6]), ([7], [7]), ([7], [7]), ([], []), ([10, 8, 6, 0, 1, 2, 3, 4, 5, 6, 7, 8, 10], [8, 10]), ([9, 11, 0, 1, 2, 3, 4, 5, 6, 7, 8, 9, 10, 11], [9])])
def laws_FnFarey.B28 : List Nat := [0, 1, 3, 0, 8, 24, 63, 127, 255, 255, 0, 1535, 4095]
theorem laws_FnFarey.tab28 : rtab .any (opsOf Try.f3 28) = laws_FnFarey.T28 := by kernel_rfl
theorem laws_FnFarey.bits28 : waitsOk laws_FnFarey.T28.2 laws_FnFarey.B28 = true := by kernel_rfl
def laws_FnFarey.T29 : Bool × List (List Nat × List Nat) := (true, [([], []), ([0], [0]), ([1], [1]), ([2], [2]), ([2], [2]), ([3, 4, 2], [2, 3, 4]), ([2, 5], [2, 5]), ([6, 2], [6]), ([7], [7]), ([8, 7], [7, 8]), ([9, 7], [7, 9]), ([10, 7], [7, 10]), ([7], [7]), ([12, 7], [7, 12]), ([13, 7], [7, 13]), ([14, 7], [7, 14]), ([11, 15, 7], [7, 11, 15]), ([7], [7]), ([17, 7], [7, 17]), ([16, 18, 7], [7, 16, 18]), ([7, 19], [7, 19])])
def laws_FnFarey.B29 : List Nat := [0, 1, 3, 7, 7, 31, 63, 127, 255, 511, 1023, 2047, 255, 4351, 12543, 28927, 65535, 255, 131327, 524287, 1048575]
theorem laws_FnFarey.tab29 : rtab .any (opsOf Try.f3 29) = laws_FnFarey.T29 := by kernel_rfl
theorem laws_FnFarey.bits29 : waitsOk laws_FnFarey.T29.2 laws_FnFarey.B29 = true := by kernel_rfl
def laws_FnFarey.T44 : Bool × List (List Nat × List Nat) := (true, [([], []), ([], []), ([1], [1]), ([0, 2], [0, 2]), ([3], [3]), ([], []), ([], []), ([5, 6], [5, 6]), ([7], [7]), ([4, 8], [4, 8]), ([9], [9])])
def laws_FnFarey.B44 : List Nat := [0, 0, 2, 7, 15, 0, 0, 96, 224, 511, 1023]
theorem laws_FnFarey.tab44 : rtab .any (opsOf Try.f3 44) = laws_FnFarey.T44 := by kernel_rfl
theorem laws_FnFarey.bits44 : waitsOk laws_FnFarey.T44.2 laws_FnFarey.B44 = true := by kernel_rfl
def laws_FnFarey.T46 : Bool × List (List Nat × List Nat) := (true, [([], []), ([0], [0]), ([1], [1]), ([2], [2]), ([3], [3]), ([4, 3], [3, 4]), ([3], [3]), ([6, 3], [3, 6]), ([5, 7, 3], [3, 5, 7]), ([8, 3, 3], [3, 8]), ([9], [9]), ([10, 9], [9, 10]), ([11, 9], [9, 11]), ([9], [9]), ([12, 13, 9], [9, 12, 13]), ([9, 14, 3], [3, 9, 14]), ([15, 9, 3], [3, 15]), ([16], [16]), ([16], [16]), ([17, 18, 16], [16, 17, 18]), ([19, 16], [16, 19]), ([16], [16]), ([20, 21, 16], [16, 20, 21]), ([16, 22, 3], [3, 16, 22]), ([3, 23], [3, 23]), ([24, 16, 0, 1, 2, 3, 4, 5, 6, 7, 8, 9, 10, 11, 12, 13, 14, 15, 16, 17, 18, 19, 20, 21, 22, 23, 24], [24])])
def laws_FnFarey.B46 : List Nat := [0, 1, 3, 7, 15, 31, 15, 79, 255, 511, 1023, 2047, 4095, 1023, 16383, 32767, 65535, 131071, 131071, 524287, 1048575, 131071, 4194303, 8388607, 16777215, 33554431]
theorem laws_FnFarey.tab46 : rtab .any (opsOf Try.f3 46) = laws_FnFarey.T46 := by kernel_rfl
theorem laws_FnFarey.bits46 : waitsOk laws_FnFarey.T46.2 laws_FnFarey.B46 = true := by kernel_rfl
end Go.Proofs.Ytigcjehokbgclaa.P
namespace Go.Proofs.Ytigcjehokbgclaa.P
open Go.RowKit Go.Proofs.YtigcjehokbgclaaW.PrintWords Go.Proofs.YtigcjehokbgclaaW.PrintLast Go.Proofs.YtigcjehokbgclaaW.PrintMore
attribute [local go_sem] max2_int min2_int max_two min_two max_three min_three max_four min_four   -- for this text's walks alone
set_option linter.unusedVariables false
set_option linter.unusedSimpArgs false
open Bool renaming true → T, false → F
theorem bw_25 {n : Nat} {v v' : World} (h : Below n v v' := by repeat (first | (with_reducible first | exact HB.out | apply bwA | apply pbN | apply bwD | refine bwS ?_ GE573.out | refine bwS ?_ GE574.out | refine bwS ?_ GE579.out | refine bwS ?_ GE587.out | refine bwS ?_ GE588.out | refine bwS ?_ GE594.out | refine bwS ?_ GE641.out | refine bwS ?_ GE642.out | refine bwS ?_ GE646.out | refine bwS ?_ GE650.out) | exact HB.out)) : Below n v v' := h
theorem z25_0 {p : Prop} (h : p := by kernel_rfl) : p := h

attribute [local go_sem high] eqA25
set_option maxHeartbeats 8000000 in
set_option maxRecDepth 100000 in
theorem laws_FnFarey.p46 (A0 : Option Addr) (c0 : Nat) (l0 : List Int) (r : Bool) (w : World) (t569 t570 t571 t572 t575 t576 t577 t578 : Int) (t580 : List S25) (t583 t584 t585 t586 : Int) (t589 : List S25) (t592 t593 : Int) (t595 : List S25) (t598 : Bool) (t599 : List S25) (t602 : Bool) (gb573 : Nat) (GE573 : Az (w.heap.size ≤ gb573)) (gb574 : Nat) (GE574 : Az (w.heap.size ≤ gb574)) (gb579 : Nat) (GE579 : Az (w.heap.size ≤ gb579)) (gb587 : Nat) (GE587 : Az (w.heap.size ≤ gb587)) (gb588 : Nat) (GE588 : Az (w.heap.size ≤ gb588)) (gb594 : Nat) (GE594 : Az (w.heap.size ≤ gb594)) (Ao67 : Option Addr) (co67 : Nat) (Ao72 : Option Addr) (co72 : Nat) (Ao74 : Option Addr) (co74 : Nat) (Ao75 : Option Addr) (co75 : Nat) (u18 u19 : Value) (x17_2 : Int) (u20 u21 : Value) (t635 t636 t637 t638 t639 t640 t643 t644 : Int) (t645 : Bool) (t647 t648 : Int) (t649 : Bool) (gb641 : Nat) (GE641 : Az (w.heap.size ≤ gb641)) (gb642 : Nat) (GE642 : Az (w.heap.size ≤ gb642)) (gb646 : Nat) (GE646 : Az (w.heap.size ≤ gb646)) (gb650 : Nat) (GE650 : Az (w.heap.size ≤ gb650)) (u30 u31 u32 u33 u34 u35 u36 u37 u38 u39 u40 u41 u42 u43 u44 u45 u46 u47 u48 u49 u50 u51 u52 u53 u54 u55 u56 u57 u58 u59 u60 u61 u62 u63 u64 u65 u66 u67 u68 u69 u70 u71 u72 u73 u74 u75 u76 u77 u78 u79 u80 u81 u82 u83 u84 u85 u86 u87 u88 u89 u90 u91 u92 u93 u94 u95 u96 u97 u98 u99 u100 u101 u102 u103 u104 u105 u106 u107 u108 u109 u110 u111 u112 u113 u114 u115 u116 u117 u118 u119 u120 u121 u122 u123 u124 u125 u126 u127 u128 u129 u130 u131 u132 u133 u134 u135 u136 u137 u138 u139 u140 u141 u142 u143 u144 u145 u146 u147 u148 u149 u150 u151 u152 u153 u154 u155 u156 u157 u158 u159 u160 u161 u162 u163 u164 u165 u166 u167 u168 u169 u170 u171 u172 u173 u174 u175 u176 u177 u178 u179 u180 u181 u182 u183 u184 u185 u186 u187 u188 u189 u190 u191 u192 u193 u194 u195 u196 u197 u198 u199 u200 u201 u202 u203 u204 u205 u206 u207 u208 u209 u210 u211 u212 u213 u214 u215 u216 u217 u218 u219 u220 u221 u222 u223 u224 u225 u226 u227 u228 u229 u230 u231 u232 u233 u234 u235 u236 u237 u238 u239 u240 u241 u242 u243 u244 u245 u246 u247 u248 u249 u250 u251 u252 u253 u254 u255 u256 u257 u258 u259 u260 u261 u262 u263 u264 u265 u266 u267 u268 u269 u270 u271 u272 u273 u274 u275 u276 u277 u278 u306 u307 u308 u309 u310 u311 u312 u313 u314 u315 u316 u317 u318 u319 u320 u321 u322 u323 u324 u325 u326 u327 u328 u329 u330 : Value) (t655 t658 : List S25) (Ao417 : Option Addr) (co417 : Nat) (Ao418 : Option Addr) (co418 : Nat) (wr : World) (u2 u293 u294 u295 u296 u297 u298 u299 u300 u301 u302 u303 u304 u305 : Value) (x29_7 : Int) (HO_28 : Az (Kd.R k25 25 wr (w.heap.size) (fun (k_ : Nat) => k_ ≠ gb573 ∧ k_ ≠ gb574 ∧ k_ ≠ gb579 ∧ k_ ≠ gb587 ∧ k_ ≠ gb588 ∧ k_ ≠ gb594 ∧ k_ ≠ gb642 ∧ k_ ≠ gb646 ∧ k_ ≠ gb650) (Value.slice Ao417 (List.length t655) co417) t655)) (BK573 : Az ((World.heap wr)[gb573]? = some (Obj.cells #[Value.int IntKind.i64 t569, Value.int IntKind.i64 t570] 25))) (BK574 : Az ((World.heap wr)[gb574]? = some (Obj.cells #[Value.int IntKind.i64 t571, Value.int IntKind.i64 t572] 25))) (BK579 : Az ((World.heap wr)[gb579]? = some (Obj.cells #[Value.int IntKind.i64 t576, Value.int IntKind.i64 t577] 25))) (BK587 : Az ((World.heap wr)[gb587]? = some (Obj.cells #[Value.int IntKind.i64 t583, Value.int IntKind.i64 t584] 25))) (BK588 : Az ((World.heap wr)[gb588]? = some (Obj.cells #[Value.int IntKind.i64 t585, Value.int IntKind.i64 t586] 25))) (BK594 : Az ((World.heap wr)[gb594]? = some (Obj.cells #[Value.int IntKind.i64 t592, Value.int IntKind.i64 t593] 25))) (BK641 : Az ((World.heap wr)[gb641]? = some (Obj.cells #[Value.int IntKind.i64 t635, Value.int IntKind.i64 t636, Value.int IntKind.i64 t637, Value.int IntKind.i64 t638] 41))) (BK642 : Az ((World.heap wr)[gb642]? = some (Obj.cells #[Value.int IntKind.i64 t639, Value.int IntKind.i64 t640] 25))) (BK646 : Az ((World.heap wr)[gb646]? = some (Obj.cells #[Value.int IntKind.i64 t643, Value.int IntKind.i64 t644] 25))) (BK650 : Az ((World.heap wr)[gb650]? = some (Obj.cells #[Value.int IntKind.i64 t647, Value.int IntKind.i64 t648] 25))) (HB : Az (Below (w.heap.size) w wr)) (H : (if (↑(List.length t655) : Int) = 0 then some true else if (↑(List.length t655) : Int) = wrap64 (t575 + 1) then if 0 < (↑(List.length t655) : Int) then if (S25.f0 (rd_T25 t655 0) == t569 && S25.f1 (rd_T25 t655 0) == t570) = true then if 0 ≤ t575 then if t575 < (↑(List.length t655) : Int) then some (S25.f0 (rd_T25 t655 t575) == t571 && S25.f1 (rd_T25 t655 t575) == t572) else none else none else none else none else none) = some r) :
  Code.wp Try.prog (tailOf (Try.f3.body.getD .skip) 24) (bodyPost Try.prog Try.f3 (fun e w' => e = .returned (.bool r) ∧ Below w.heap.size w w')) ⟨#[Value.slice A0 (List.length l0) c0, undef, u2, Value.pointer (some ⟨gb573, 0, none⟩), Value.pointer (some ⟨gb574, 0, none⟩), Value.int IntKind.i64 t575, Value.pointer (some ⟨gb579, 0, none⟩), Value.int IntKind.i64 t578, Value.slice Ao67 (List.length t580) co67, Value.pointer (some ⟨gb587, 0, none⟩), Value.pointer (some ⟨gb588, 0, none⟩), Value.slice Ao72 (List.length t589) co72, Value.pointer (some ⟨gb594, 0, none⟩), Value.slice Ao74 (List.length t595) co74, Value.bool t598, Value.slice Ao75 (List.length t599) co75, Value.bool t602, Value.int IntKind.i64 x17_2, u18, u19, u20, u21, Value.pointer (some ⟨gb641, 0, none⟩), Value.pointer (some ⟨gb642, 0, none⟩), Value.pointer (some ⟨gb646, 0, none⟩), Value.bool t645, Value.pointer (some ⟨gb650, 0, none⟩), Value.bool t649, Value.slice Ao417 (List.length t655) co417, Value.int IntKind.i64 x29_7, u30, u31, u32, u33, u34, u35, u36, u37, u38, u39, u40, u41, u42, u43, u44, u45, u46, u47, u48, u49, u50, u51, u52, u53, u54, u55, u56, u57, u58, u59, u60, u61, u62, u63, u64, u65, u66, u67, u68, u69, u70, u71, u72, u73, u74, u75, u76, u77, u78, u79, u80, u81, u82, u83, u84, u85, u86, u87, u88, u89, u90, u91, u92, u93, u94, u95, u96, u97, u98, u99, u100, u101, u102, u103, u104, u105, u106, u107, u108, u109, u110, u111, u112, u113, u114, u115, u116, u117, u118, u119, u120, u121, u122, u123, u124, u125, u126, u127, u128, u129, u130, u131, u132, u133, u134, u135, u136, u137, u138, u139, u140, u141, u142, u143, u144, u145, u146, u147, u148, u149, u150, u151, u152, u153, u154, u155, u156, u157, u158, u159, u160, u161, u162, u163, u164, u165, u166, u167, u168, u169, u170, u171, u172, u173, u174, u175, u176, u177, u178, u179, u180, u181, u182, u183, u184, u185, u186, u187, u188, u189, u190, u191, u192, u193, u194, u195, u196, u197, u198, u199, u200, u201, u202, u203, u204, u205, u206, u207, u208, u209, u210, u211, u212, u213, u214, u215, u216, u217, u218, u219, u220, u221, u222, u223, u224, u225, u226, u227, u228, u229, u230, u231, u232, u233, u234, u235, u236, u237, u238, u239, u240, u241, u242, u243, u244, u245, u246, u247, u248, u249, u250, u251, u252, u253, u254, u255, u256, u257, u258, u259, u260, u261, u262, u263, u264, u265, u266, u267, u268, u269, u270, u271, u272, u273, u274, u275, u276, u277, u278, Value.bool false, Value.agg #[Value.int IntKind.i64 t569, Value.int IntKind.i64 t570], Value.agg #[Value.int IntKind.i64 t571, Value.int IntKind.i64 t572], Value.slice Ao417 (List.length t655) co417, Value.slice Ao417 (List.length t655) co417, Value.agg #[Value.int IntKind.i64 t569, Value.int IntKind.i64 t570], Value.agg #[Value.int IntKind.i64 t571, Value.int IntKind.i64 t572], Value.slice Ao418 (List.length t658) co418, Value.bool true, Value.bool false, Value.int IntKind.i64 x29_7, Value.slice Ao417 (List.length t655) co417, Value.int IntKind.i64 (↑(List.length t655) : Int), Value.bool false, u293, u294, u295, u296, u297, u298, u299, u300, u301, u302, u303, u304, u305, u306, u307, u308, u309, u310, u311, u312, u313, u314, u315, u316, u317, u318, u319, u320, u321, u322, u323, u324, u325, u326, u327, u328, u329, u330], []⟩ wr := by
 (try dsimp only)
 conv => arg 2; whnf
 by_cases c428 : (t655.length : Int) = 0
 ·rw [if_pos c428] at H
  have c428b0 : ((t655.length : Int) == 0) = true := beq_iff_eq.mpr c428
  have c428b1 : ((t655.length : Int) != 0) = false := bne_eq_false_iff_eq.mpr c428
  clear c428
  obtain rfl := Option.some.inj H
  try go_wp2
  replace HO_28 := Az.mk (Kd.R_drew HO_28.out); replace BK573 := Az.mk (bkD BK573.out); replace BK574 := Az.mk (bkD BK574.out); replace BK579 := Az.mk (bkD BK579.out); replace BK587 := Az.mk (bkD BK587.out); replace BK588 := Az.mk (bkD BK588.out); replace BK594 := Az.mk (bkD BK594.out); replace BK641 := Az.mk (bkD BK641.out); replace BK642 := Az.mk (bkD BK642.out); replace BK646 := Az.mk (bkD BK646.out); replace BK650 := Az.mk (bkD BK650.out); replace HB := Az.mk (bwD HB.out)
  refine start_ (n := 26) (S := fun w' => True) (ds := []) #[F,F,F,F,F,F,F,F,F,F,F,F,F,F,F,F,F,F,F,F,F,F,F,F,F,F] z25_0 rfl rfl trivial (fun hHeld => ?_); refine with_tabW laws_FnFarey.tab46 laws_FnFarey.bits46 (fun HT_ HW_ => ?_)
  generalize wr.drew = w429 at HO_28 BK573 BK574 BK579 BK587 BK588 BK594 BK641 BK642 BK646 BK650 HB hHeld ⊢
  refine pu (i := 0) (N := some 306) #[T,F,F,F,F,F,F,F,F,F,F,F,F,F,F,F,F,F,F,F,F,F,F,F,F,F] (any_of HT_.out z25_0) ?_
  refine pu (i := 1) (N := some 307) #[T,T,F,F,F,F,F,F,F,F,F,F,F,F,F,F,F,F,F,F,F,F,F,F,F,F] (any_of HT_.out z25_0) ?_
  refine pu (i := 2) (N := some 308) #[T,T,T,F,F,F,F,F,F,F,F,F,F,F,F,F,F,F,F,F,F,F,F,F,F,F] (any_of HT_.out z25_0) ?_
  refine pu (i := 3) (N := some 309) #[T,T,T,T,F,F,F,F,F,F,F,F,F,F,F,F,F,F,F,F,F,F,F,F,F,F] (any_of HT_.out z25_0) ?_
  refine pure_ (i := 4) (N := some 310) (v := undef) (a' := ?_) #[T,T,T,T,T,F,F,F,F,F,F,F,F,F,F,F,F,F,F,F,F,F,F,F,F,F] rfl rfl (any_of HT_.out z25_0) (fun _ _ _ h => h) (Or.inr ⟨by rfl, rfl⟩) ?_ ?_
  rotate_left
  ·exact acq
  refine pure_ (i := 5) (N := some 311) (v := undef) (a' := ?_) #[T,T,T,T,T,T,F,F,F,F,F,F,F,F,F,F,F,F,F,F,F,F,F,F,F,F] rfl rfl (any_of HT_.out z25_0) (fun _ _ _ h => h) (Or.inr ⟨by rfl, rfl⟩) ?_ ?_
  rotate_left
  ·exact acq
  refine pure_ (i := 6) (N := some 312) (v := undef) (a' := ?_) #[T,T,T,T,T,T,T,F,F,F,F,F,F,F,F,F,F,F,F,F,F,F,F,F,F,F] rfl rfl (any_of HT_.out z25_0) (fun _ _ _ h => h) (Or.inr ⟨by rfl, rfl⟩) ?_ ?_
  rotate_left
  ·exact acq
  refine pure_ (i := 7) (N := some 313) (v := undef) (a' := ?_) #[T,T,T,T,T,T,T,T,F,F,F,F,F,F,F,F,F,F,F,F,F,F,F,F,F,F] rfl rfl (any_of HT_.out z25_0) (fun _ _ _ h => h) (Or.inr ⟨by rfl, rfl⟩) ?_ ?_
  rotate_left
  ·exact acq
  refine pure_ (i := 8) (N := some 314) (v := undef) (a' := ?_) #[T,T,T,T,T,T,T,T,T,F,F,F,F,F,F,F,F,F,F,F,F,F,F,F,F,F] rfl rfl (any_of HT_.out z25_0) (fun _ _ _ h => h) (Or.inr ⟨by rfl, rfl⟩) ?_ ?_
  rotate_left
  ·exact acq
  refine pure_ (i := 9) (N := some 315) (v := undef) (a' := ?_) #[T,T,T,T,T,T,T,T,T,T,F,F,F,F,F,F,F,F,F,F,F,F,F,F,F,F] rfl rfl (any_of HT_.out z25_0) (fun _ _ _ h => h) (Or.inr ⟨by rfl, rfl⟩) ?_ ?_
  rotate_left
  ·exact acq
  refine pure_ (i := 10) (N := some 316) (v := undef) (a' := ?_) #[T,T,T,T,T,T,T,T,T,T,T,F,F,F,F,F,F,F,F,F,F,F,F,F,F,F] rfl rfl (any_of HT_.out z25_0) (fun _ _ _ h => h) (Or.inr ⟨by rfl, rfl⟩) ?_ ?_
  rotate_left
  ·exact acq
  refine pure_ (i := 11) (N := some 317) (v := undef) (a' := ?_) #[T,T,T,T,T,T,T,T,T,T,T,T,F,F,F,F,F,F,F,F,F,F,F,F,F,F] rfl rfl (any_of HT_.out z25_0) (fun _ _ _ h => h) (Or.inr ⟨by rfl, rfl⟩) ?_ ?_
  rotate_left
  ·exact acq
  refine pure_ (i := 12) (N := some 318) (v := undef) (a' := ?_) #[T,T,T,T,T,T,T,T,T,T,T,T,T,F,F,F,F,F,F,F,F,F,F,F,F,F] rfl rfl (any_of HT_.out z25_0) (fun _ _ _ h => h) (Or.inr ⟨by rfl, rfl⟩) ?_ ?_
  rotate_left
  ·exact acq
  refine pure_ (i := 13) (N := some 319) (v := undef) (a' := ?_) #[T,T,T,T,T,T,T,T,T,T,T,T,T,T,F,F,F,F,F,F,F,F,F,F,F,F] rfl rfl (any_of HT_.out z25_0) (fun _ _ _ h => h) (Or.inr ⟨by rfl, rfl⟩) ?_ ?_
  rotate_left
  ·exact acq
  refine pure_ (i := 14) (N := some 320) (v := undef) (a' := ?_) #[T,T,T,T,T,T,T,T,T,T,T,T,T,T,T,F,F,F,F,F,F,F,F,F,F,F] rfl rfl (any_of HT_.out z25_0) (fun _ _ _ h => h) (Or.inr ⟨by rfl, rfl⟩) ?_ ?_
  rotate_left
  ·exact acq
  refine pure_ (i := 15) (N := some 321) (v := undef) (a' := ?_) #[T,T,T,T,T,T,T,T,T,T,T,T,T,T,T,T,F,F,F,F,F,F,F,F,F,F] rfl rfl (any_of HT_.out z25_0) (fun _ _ _ h => h) (Or.inr ⟨by rfl, rfl⟩) ?_ ?_
  rotate_left
  ·exact acq
  refine pure_ (i := 16) (N := some 322) (v := undef) (a' := ?_) #[T,T,T,T,T,T,T,T,T,T,T,T,T,T,T,T,T,F,F,F,F,F,F,F,F,F] rfl rfl (any_of HT_.out z25_0) (fun _ _ _ h => h) (Or.inr ⟨by rfl, rfl⟩) ?_ ?_
  rotate_left
  ·exact acq
  refine pure_ (i := 17) (N := some 323) (v := undef) (a' := ?_) #[T,T,T,T,T,T,T,T,T,T,T,T,T,T,T,T,T,T,F,F,F,F,F,F,F,F] rfl rfl (any_of HT_.out z25_0) (fun _ _ _ h => h) (Or.inr ⟨by rfl, rfl⟩) ?_ ?_
  rotate_left
  ·exact acq
  refine pure_ (i := 18) (N := some 324) (v := undef) (a' := ?_) #[T,T,T,T,T,T,T,T,T,T,T,T,T,T,T,T,T,T,T,F,F,F,F,F,F,F] rfl rfl (any_of HT_.out z25_0) (fun _ _ _ h => h) (Or.inr ⟨by rfl, rfl⟩) ?_ ?_
  rotate_left
  ·exact acq
  refine pure_ (i := 19) (N := some 325) (v := undef) (a' := ?_) #[T,T,T,T,T,T,T,T,T,T,T,T,T,T,T,T,T,T,T,T,F,F,F,F,F,F] rfl rfl (any_of HT_.out z25_0) (fun _ _ _ h => h) (Or.inr ⟨by rfl, rfl⟩) ?_ ?_
  rotate_left
  ·exact acq
  refine pure_ (i := 20) (N := some 326) (v := undef) (a' := ?_) #[T,T,T,T,T,T,T,T,T,T,T,T,T,T,T,T,T,T,T,T,T,F,F,F,F,F] rfl rfl (any_of HT_.out z25_0) (fun _ _ _ h => h) (Or.inr ⟨by rfl, rfl⟩) ?_ ?_
  rotate_left
  ·exact acq
  refine pure_ (i := 21) (N := some 327) (v := undef) (a' := ?_) #[T,T,T,T,T,T,T,T,T,T,T,T,T,T,T,T,T,T,T,T,T,T,F,F,F,F] rfl rfl (any_of HT_.out z25_0) (fun _ _ _ h => h) (Or.inr ⟨by rfl, rfl⟩) ?_ ?_
  rotate_left
  ·exact acq
  refine pure_ (i := 22) (N := some 328) (v := undef) (a' := ?_) #[T,T,T,T,T,T,T,T,T,T,T,T,T,T,T,T,T,T,T,T,T,T,T,F,F,F] rfl rfl (any_of HT_.out z25_0) (fun _ _ _ h => h) (Or.inr ⟨by rfl, rfl⟩) ?_ ?_
  rotate_left
  ·exact acq
  refine pure_ (i := 23) (N := some 329) (v := undef) (a' := ?_) #[T,T,T,T,T,T,T,T,T,T,T,T,T,T,T,T,T,T,T,T,T,T,T,T,F,F] rfl rfl (any_of HT_.out z25_0) (fun _ _ _ h => h) (Or.inr ⟨by rfl, rfl⟩) ?_ ?_
  rotate_left
  ·exact acq
  refine pu (i := 24) (N := some 330) #[T,T,T,T,T,T,T,T,T,T,T,T,T,T,T,T,T,T,T,T,T,T,T,T,T,F] (any_of HT_.out z25_0) ?_
  refine pu (i := 25) (N := some 2) #[T,T,T,T,T,T,T,T,T,T,T,T,T,T,T,T,T,T,T,T,T,T,T,T,T,T] (any_of HT_.out z25_0) ?_
  refine done_ (done_of HT_.out z25_0) ?_
  try go_wp2
  go_ret
  exact ⟨rq1, bw_25⟩
 rw [if_neg c428] at H
 have c428b0 : ((t655.length : Int) == 0) = false := beq_eq_false_iff_ne.mpr c428
 have c428b1 : ((t655.length : Int) != 0) = true := bne_iff_ne.mpr c428
 have c428b2 : ¬ (t655 = []) := fun h_ => c428 (by rw [h_]; rfl)
 by_cases c430 : (t655.length : Int) = (wrap64 (t575 + 1))
 rotate_left
 ·rw [if_neg c430] at H
  have c430b0 : ((t655.length : Int) == (wrap64 (t575 + 1))) = false := beq_eq_false_iff_ne.mpr c430
  have c430b1 : ((t655.length : Int) != (wrap64 (t575 + 1))) = true := bne_iff_ne.mpr c430
  exact absurd H (by simp)
 rw [if_pos c430] at H
 have c430b0 : ((t655.length : Int) == (wrap64 (t575 + 1))) = true := beq_iff_eq.mpr c430
 have c430b1 : ((t655.length : Int) != (wrap64 (t575 + 1))) = false := bne_eq_false_iff_eq.mpr c430
 clear c430
 by_cases c431 : 0 < (t655.length : Int)
 rotate_left
 ·rw [if_neg c431] at H
  exact absurd H (by simp)
 rw [if_pos c431] at H
 have c431b0 : decide (0 < (t655.length : Int)) = true := decide_eq_true c431
 have c431b1 : decide (0 < t655.length) = true := decide_eq_true (by omega)
 clear c431
 by_cases c432 : (((rd_T25 t655 0).f0) == t569 && (((rd_T25 t655 0).f1) == t570)) = true
 rotate_left
 ·rw [if_neg c432] at H
  have c432b0 : (((rd_T25 t655 0).f0) == t569 && (((rd_T25 t655 0).f1) == t570)) = false := by simpa using c432
  (try (have c432b1 : decide (((rd_T25 t655 0).f0) = t569 && (((rd_T25 t655 0).f1) == t570)) = false := by simpa using c432))
  (try (have c432b2 : (((rd_T25 t655 0).f0) == t569 && (((rd_T25 t655 0).f1) == t570)) = false := by simpa using c432))
  (try (have c432b3 : ¬ (((rd_T25 t655 0).f0) = t569 && (((rd_T25 t655 0).f1) == t570)) := by simpa using c432))
  clear c432
  exact absurd H (by simp)
 rw [if_pos c432] at H
 have c432b0 : (((rd_T25 t655 0).f0) == t569 && (((rd_T25 t655 0).f1) == t570)) = true := c432
 (try (have c432b1 : decide (((rd_T25 t655 0).f0) = t569 && (((rd_T25 t655 0).f1) == t570)) = true := by simpa using c432))
 (try (have c432b2 : (((rd_T25 t655 0).f0) == t569 && (((rd_T25 t655 0).f1) == t570)) = true := by simpa using c432))
 clear c432
 by_cases c433 : 0 ≤ t575
 rotate_left
 ·rw [if_neg c433] at H
  exact absurd H (by simp)
 rw [if_pos c433] at H
 have c433b0 : decide (0 ≤ t575) = true := decide_eq_true c433
 clear c433
 by_cases c434 : t575 < (t655.length : Int)
 rotate_left
 ·rw [if_neg c434] at H
  exact absurd H (by simp)
 rw [if_pos c434] at H
 have c434b0 : decide (t575 < (t655.length : Int)) = true := decide_eq_true c434
 clear c434
 obtain rfl := Option.some.inj H
 try go_wp2
 replace HO_28 := Az.mk (Kd.R_drew HO_28.out); replace BK573 := Az.mk (bkD BK573.out); replace BK574 := Az.mk (bkD BK574.out); replace BK579 := Az.mk (bkD BK579.out); replace BK587 := Az.mk (bkD BK587.out); replace BK588 := Az.mk (bkD BK588.out); replace BK594 := Az.mk (bkD BK594.out); replace BK641 := Az.mk (bkD BK641.out); replace BK642 := Az.mk (bkD BK642.out); replace BK646 := Az.mk (bkD BK646.out); replace BK650 := Az.mk (bkD BK650.out); replace HB := Az.mk (bwD HB.out)
 have p665 : 0 ≤ (0 : Int) := (by omega)
 have q665 : 0 < (t655.length : Int) := of_decide_eq_true (by first | (with_reducible assumption) | assumption)
 obtain ⟨ad665, e665, hx665_0, hx665_1⟩ := at_T25 (Kd.R_reads' HO_28.out).2.2 0 p665 q665
 cases e665
 have qi665 : (0 < t655.length) = True := eq_true (by omega)
 (try rw [show ((0 : Int)).toNat = 0 from rfl] at hx665_0)
 (try rw [show 0 * 2 = 0 from rfl] at hx665_0)
 (try rw [Addr.add_zero'] at hx665_0)
 (try rw [show ((0 : Int)).toNat = 0 from rfl] at hx665_1)
 (try rw [show 0 * 2 = 0 from rfl] at hx665_1)
 (try rw [Addr.add_zero'] at hx665_1)
 replace p665 := eq_true p665
 replace q665 := eq_true q665
 have p666 : 0 ≤ (t575 : Int) := of_decide_eq_true (by first | (with_reducible assumption) | assumption)
 have q666 : t575 < (t655.length : Int) := of_decide_eq_true (by first | (with_reducible assumption) | assumption)
 obtain ⟨ad666, e666, hx666_0, hx666_1⟩ := at_T25 (Kd.R_reads' HO_28.out).2.2 t575 p666 q666
 obtain rfl : ad665 = ad666 := (by injection e666)
 replace p666 := eq_true p666
 replace q666 := eq_true q666
 refine start_ (n := 26) (S := fun w' => w'.cell? ⟨gb573, 0, none⟩ = some (.int .i64 t569) ∧ w'.cell? ⟨gb573, 1, none⟩ = some (.int .i64 t570) ∧ w'.cell? ⟨gb574, 0, none⟩ = some (.int .i64 t571) ∧ w'.cell? ⟨gb574, 1, none⟩ = some (.int .i64 t572) ∧ w'.cell? ad665 = some (.int .i64 ((rd_T25 t655 0).f0)) ∧ w'.cell? ⟨ad665.block, ad665.off + 1, none⟩ = some (.int .i64 ((rd_T25 t655 0).f1)) ∧ w'.cell? (ad665.add ((t575).toNat * 2)) = some (.int .i64 ((rd_T25 t655 t575).f0)) ∧ w'.cell? ⟨(ad665.add ((t575).toNat * 2)).block, (ad665.add ((t575).toNat * 2)).off + 1, none⟩ = some (.int .i64 ((rd_T25 t655 t575).f1))) (ds := []) #[F,F,F,F,F,F,F,F,F,F,F,F,F,F,F,F,F,F,F,F,F,F,F,F,F,F] z25_0 rfl rfl ⟨(bkC BK573.out 0).trans rfl, (bkC BK573.out 1).trans rfl, (bkC BK574.out 0).trans rfl, (bkC BK574.out 1).trans rfl, hx665_0, hx665_1, hx666_0, hx666_1⟩ (fun hHeld => ?_); refine with_tabW laws_FnFarey.tab46 laws_FnFarey.bits46 (fun HT_ HW_ => ?_)
 generalize wr.drew = w435 at HO_28 BK573 BK574 BK579 BK587 BK588 BK594 BK641 BK642 BK646 BK650 HB hx665_0 hx665_1 hx666_0 hx666_1 hHeld ⊢
 refine pu (i := 0) (N := some 306) #[T,F,F,F,F,F,F,F,F,F,F,F,F,F,F,F,F,F,F,F,F,F,F,F,F,F] (any_of HT_.out z25_0) ?_
 refine pu (i := 1) (N := some 307) #[T,T,F,F,F,F,F,F,F,F,F,F,F,F,F,F,F,F,F,F,F,F,F,F,F,F] (any_of HT_.out z25_0) ?_
 refine pu (i := 2) (N := some 308) #[T,T,T,F,F,F,F,F,F,F,F,F,F,F,F,F,F,F,F,F,F,F,F,F,F,F] (any_of HT_.out z25_0) ?_
 refine pu (i := 3) (N := some 309) #[T,T,T,T,F,F,F,F,F,F,F,F,F,F,F,F,F,F,F,F,F,F,F,F,F,F] (any_of HT_.out z25_0) ?_
 refine pu (i := 4) (N := some 310) #[T,T,T,T,T,F,F,F,F,F,F,F,F,F,F,F,F,F,F,F,F,F,F,F,F,F] (any_of HT_.out z25_0) ?_
 refine pu (i := 5) (N := some 311) #[T,T,T,T,T,T,F,F,F,F,F,F,F,F,F,F,F,F,F,F,F,F,F,F,F,F] (any_of HT_.out z25_0) ?_
 refine pu (i := 6) (N := some 312) #[T,T,T,T,T,T,T,F,F,F,F,F,F,F,F,F,F,F,F,F,F,F,F,F,F,F] (any_of HT_.out z25_0) ?_
 refine pu (i := 7) (N := some 313) #[T,T,T,T,T,T,T,T,F,F,F,F,F,F,F,F,F,F,F,F,F,F,F,F,F,F] (any_of HT_.out z25_0) ?_
 refine pu (i := 8) (N := some 314) #[T,T,T,T,T,T,T,T,T,F,F,F,F,F,F,F,F,F,F,F,F,F,F,F,F,F] (any_of HT_.out z25_0) ?_
 refine pu (i := 9) (N := some 315) #[T,T,T,T,T,T,T,T,T,T,F,F,F,F,F,F,F,F,F,F,F,F,F,F,F,F] (any_of HT_.out z25_0) ?_
 refine pu (i := 10) (N := some 316) #[T,T,T,T,T,T,T,T,T,T,T,F,F,F,F,F,F,F,F,F,F,F,F,F,F,F] (any_of HT_.out z25_0) ?_
 refine pu (i := 11) (N := some 317) #[T,T,T,T,T,T,T,T,T,T,T,T,F,F,F,F,F,F,F,F,F,F,F,F,F,F] (any_of HT_.out z25_0) ?_
 refine take_ (i := 12) (N := some 318) (v := ?_) (a' := ?_) #[T,T,T,T,T,T,T,T,T,T,T,T,T,F,F,F,F,F,F,F,F,F,F,F,F,F] rfl rfl (take_ofW HT_.out HW_.out z25_0) (fun _ _ _ h => h) (Or.inl ⟨by rfl, ?_⟩) hHeld ?_ ?_
 rotate_left
 ·rintro w' ⟨s0, s1, s2, s3, s4, s5, s6, s7⟩
  go_simp
  with_reducible rfl
 rotate_left
 ·exact acq
 refine take_ (i := 13) (N := some 319) (v := ?_) (a' := ?_) #[T,T,T,T,T,T,T,T,T,T,T,T,T,T,F,F,F,F,F,F,F,F,F,F,F,F] rfl rfl (take_ofW HT_.out HW_.out z25_0) (fun _ _ _ h => h) (Or.inl ⟨by rfl, ?_⟩) hHeld ?_ ?_
 rotate_left
 ·rintro w' ⟨s0, s1, s2, s3, s4, s5, s6, s7⟩
  go_simp
  with_reducible rfl
 rotate_left
 ·exact acq
 refine pu (i := 14) (N := some 320) #[T,T,T,T,T,T,T,T,T,T,T,T,T,T,T,F,F,F,F,F,F,F,F,F,F,F] (any_of HT_.out z25_0) ?_
 refine pu (i := 15) (N := some 321) #[T,T,T,T,T,T,T,T,T,T,T,T,T,T,T,T,F,F,F,F,F,F,F,F,F,F] (any_of HT_.out z25_0) ?_
 refine pu (i := 16) (N := some 322) #[T,T,T,T,T,T,T,T,T,T,T,T,T,T,T,T,T,F,F,F,F,F,F,F,F,F] (any_of HT_.out z25_0) ?_
 refine pu (i := 17) (N := some 323) #[T,T,T,T,T,T,T,T,T,T,T,T,T,T,T,T,T,T,F,F,F,F,F,F,F,F] (any_of HT_.out z25_0) ?_
 refine pu (i := 18) (N := some 324) #[T,T,T,T,T,T,T,T,T,T,T,T,T,T,T,T,T,T,T,F,F,F,F,F,F,F] (any_of HT_.out z25_0) ?_
 refine pu (i := 19) (N := some 325) #[T,T,T,T,T,T,T,T,T,T,T,T,T,T,T,T,T,T,T,T,F,F,F,F,F,F] (any_of HT_.out z25_0) ?_
 refine take_ (i := 20) (N := some 326) (v := ?_) (a' := ?_) #[T,T,T,T,T,T,T,T,T,T,T,T,T,T,T,T,T,T,T,T,T,F,F,F,F,F] rfl rfl (take_ofW HT_.out HW_.out z25_0) (fun _ _ _ h => h) (Or.inl ⟨by rfl, ?_⟩) hHeld ?_ ?_
 rotate_left
 ·rintro w' ⟨s0, s1, s2, s3, s4, s5, s6, s7⟩
  go_simp
  with_reducible rfl
 rotate_left
 ·exact acq
 refine take_ (i := 21) (N := some 327) (v := ?_) (a' := ?_) #[T,T,T,T,T,T,T,T,T,T,T,T,T,T,T,T,T,T,T,T,T,T,F,F,F,F] rfl rfl (take_ofW HT_.out HW_.out z25_0) (fun _ _ _ h => h) (Or.inl ⟨by rfl, ?_⟩) hHeld ?_ ?_
 rotate_left
 ·rintro w' ⟨s0, s1, s2, s3, s4, s5, s6, s7⟩
  go_simp
  with_reducible rfl
 rotate_left
 ·exact acq
 refine pu (i := 22) (N := some 328) #[T,T,T,T,T,T,T,T,T,T,T,T,T,T,T,T,T,T,T,T,T,T,T,F,F,F] (any_of HT_.out z25_0) ?_
 refine pu (i := 23) (N := some 329) #[T,T,T,T,T,T,T,T,T,T,T,T,T,T,T,T,T,T,T,T,T,T,T,T,F,F] (any_of HT_.out z25_0) ?_
 refine pu (i := 24) (N := some 330) #[T,T,T,T,T,T,T,T,T,T,T,T,T,T,T,T,T,T,T,T,T,T,T,T,T,F] (any_of HT_.out z25_0) ?_
 refine pu (i := 25) (N := some 2) #[T,T,T,T,T,T,T,T,T,T,T,T,T,T,T,T,T,T,T,T,T,T,T,T,T,T] (any_of HT_.out z25_0) ?_
 refine done_ (done_of HT_.out z25_0) ?_
 try go_wp2
 go_ret
 exact ⟨rq1, bw_25⟩
end Go.Proofs.Ytigcjehokbgclaa.P
namespace Go.Proofs.Ytigcjehokbgclaa.P
open Go.RowKit Go.Proofs.YtigcjehokbgclaaW.PrintWords Go.Proofs.YtigcjehokbgclaaW.PrintLast Go.Proofs.YtigcjehokbgclaaW.PrintMore
attribute [local go_sem] max2_int min2_int max_two min_two max_three min_three max_four min_four   -- for this text's walks alone
set_option linter.unusedVariables false
set_option linter.unusedSimpArgs false
open Bool renaming true → T, false → F
theorem bw_26 {n : Nat} {v v' : World} (h : Below n v v' := by repeat (first | (with_reducible first | exact HB.out | apply bwA | apply pbN | apply bwD | refine bwS ?_ GE573.out | refine bwS ?_ GE574.out | refine bwS ?_ GE579.out | refine bwS ?_ GE587.out | refine bwS ?_ GE588.out | refine bwS ?_ GE594.out | refine bwS ?_ GE641.out | refine bwS ?_ GE642.out | refine bwS ?_ GE646.out | refine bwS ?_ GE650.out) | exact HB.out)) : Below n v v' := h

attribute [local go_sem high] eqA25
set_option maxHeartbeats 8000000 in
set_option maxRecDepth 100000 in
theorem laws_FnFarey.p38 (k : Nat) (A0 : Option Addr) (c0 : Nat) (l0 : List Int) (r : Bool) (w : World) (t569 t570 t571 t572 t575 t576 t577 t578 : Int) (t580 : List S25) (t583 t584 t585 t586 : Int) (t589 : List S25) (t592 t593 : Int) (t595 : List S25) (t598 : Bool) (t599 : List S25) (t602 : Bool) (gb573 : Nat) (GE573 : Az (w.heap.size ≤ gb573)) (gb574 : Nat) (GE574 : Az (w.heap.size ≤ gb574)) (gb579 : Nat) (GE579 : Az (w.heap.size ≤ gb579)) (gb587 : Nat) (GE587 : Az (w.heap.size ≤ gb587)) (gb588 : Nat) (GE588 : Az (w.heap.size ≤ gb588)) (gb594 : Nat) (GE594 : Az (w.heap.size ≤ gb594)) (Ao67 : Option Addr) (co67 : Nat) (Ao72 : Option Addr) (co72 : Nat) (Ao74 : Option Addr) (co74 : Nat) (Ao75 : Option Addr) (co75 nd kj23 : Nat) (HJ23 : Az (kj23 + 1 ≤ k)) (wr : World) (u18 u19 : Value) (x17_2 : Int) (k2 : Nat) (HK2 : Az (k2 + 1 ≤ kj23)) (kj149 : Nat) (HJ149 : Az (kj149 + 1 ≤ k2)) (u2 u20 u21 : Value) (kj164 : Nat) (HJ164 : Az (kj164 + 1 ≤ kj149)) (t635 t636 t637 t638 t639 t640 t643 t644 : Int) (t645 : Bool) (t647 t648 : Int) (t649 : Bool) (gb641 : Nat) (GE641 : Az (w.heap.size ≤ gb641)) (gb642 : Nat) (GE642 : Az (w.heap.size ≤ gb642)) (gb646 : Nat) (GE646 : Az (w.heap.size ≤ gb646)) (gb650 : Nat) (GE650 : Az (w.heap.size ≤ gb650)) (kj183 : Nat) (HJ183 : Az (kj183 + 1 ≤ kj164)) (wc : World) (u30 u31 u32 u33 u34 u35 u36 u37 u38 u39 u40 u41 u42 u43 u44 u45 u46 u47 u48 u49 u50 u51 u52 u53 u54 u55 u56 u57 u58 u59 u60 u61 u62 u63 u64 u65 u66 u67 u68 u69 u70 u71 u72 u73 u74 u75 u76 u77 u78 u79 u80 u81 u82 u83 u84 u85 u86 u87 u88 u89 u90 u91 u92 u93 u94 u95 u96 u97 u98 u99 u100 u101 u102 u103 u104 u105 u106 u107 u108 u109 u110 u111 u112 u113 u114 u115 u116 u117 u118 u119 u120 u121 u122 u123 u124 u125 u126 u127 u128 u129 u130 u131 u132 u133 u134 u135 u136 u137 u138 u139 u140 u141 u142 u143 u144 u145 u146 u147 u148 u149 u150 u151 u152 u153 u154 u155 u156 u157 u158 u159 u160 u161 u162 u163 u164 u165 u166 u167 u168 u169 u170 u171 u172 u173 u174 u175 u176 u177 u178 u179 u180 u181 u182 u183 u184 u185 u186 u187 u188 u189 u190 u191 u192 u193 u194 u195 u196 u197 u198 u199 u200 u201 u202 u203 u204 u205 u206 u207 u208 u209 u210 u211 u212 u213 u214 u215 u216 u217 u218 u219 u220 u221 u222 u223 u224 u225 u226 u227 u228 u229 u230 u231 u232 u233 u234 u235 u236 u237 u238 u239 u240 u241 u242 u243 u244 u245 u246 u247 u248 u249 u250 u251 u252 u253 u254 u255 u256 u257 u258 u259 u260 u261 u262 u263 u264 u265 u266 u267 u268 u269 u270 u271 u272 u273 u274 u275 u276 u277 u278 u280 u281 u282 u283 u284 u285 u286 u287 u288 u289 u290 u291 u292 u293 u294 u295 u296 u297 u298 u299 u300 u301 u302 u303 u304 u305 u306 u307 u308 u309 u310 u311 u312 u313 u314 u315 u316 u317 u318 u319 u320 u321 u322 u323 u324 u325 u326 u327 u328 u329 u330 : Value) (BK573 : Az ((World.heap wc)[gb573]? = some (Obj.cells #[Value.int IntKind.i64 t569, Value.int IntKind.i64 t570] 25))) (BK574 : Az ((World.heap wc)[gb574]? = some (Obj.cells #[Value.int IntKind.i64 t571, Value.int IntKind.i64 t572] 25))) (BK579 : Az ((World.heap wc)[gb579]? = some (Obj.cells #[Value.int IntKind.i64 t576, Value.int IntKind.i64 t577] 25))) (BK587 : Az ((World.heap wc)[gb587]? = some (Obj.cells #[Value.int IntKind.i64 t583, Value.int IntKind.i64 t584] 25))) (BK588 : Az ((World.heap wc)[gb588]? = some (Obj.cells #[Value.int IntKind.i64 t585, Value.int IntKind.i64 t586] 25))) (BK594 : Az ((World.heap wc)[gb594]? = some (Obj.cells #[Value.int IntKind.i64 t592, Value.int IntKind.i64 t593] 25))) (BK641 : Az ((World.heap wc)[gb641]? = some (Obj.cells #[Value.int IntKind.i64 t635, Value.int IntKind.i64 t636, Value.int IntKind.i64 t637, Value.int IntKind.i64 t638] 41))) (BK642 : Az ((World.heap wc)[gb642]? = some (Obj.cells #[Value.int IntKind.i64 t639, Value.int IntKind.i64 t640] 25))) (BK646 : Az ((World.heap wc)[gb646]? = some (Obj.cells #[Value.int IntKind.i64 t643, Value.int IntKind.i64 t644] 25))) (BK650 : Az ((World.heap wc)[gb650]? = some (Obj.cells #[Value.int IntKind.i64 t647, Value.int IntKind.i64 t648] 25))) (HB : Az (Below (w.heap.size) w wc)) (kj261 : Nat) (HJ261 : Az (kj261 + 1 ≤ kj183)) (t655 : List S25) (A390 : Az (impl_StepsBetween.f kj261 t569 t570 t571 t572 = some t655)) (t658 : List S25) (A391 : Az (spec_StepsBetween.f kj261 t569 t570 t571 t572 = some t658)) (A392 : Az (laws_sameSlopes.f kj261 t655 t658 = some true)) (H' : Az (laws_FnFarey.l1 kj261 t575 t655 1 t569 t570 t571 t572 = some r)) (hcz403_0 : World.cell? wc ⟨gb573, 0, none⟩ = some (Value.int IntKind.i64 t569)) (hcz403_1 : World.cell? wc ⟨gb573, 1, none⟩ = some (Value.int IntKind.i64 t570)) (hfz403_0 : World.frozen? wc ⟨gb573, 0, none⟩ = false) (hfz403_1 : World.frozen? wc ⟨gb573, 1, none⟩ = false) (hcz412_0 : World.cell? wc ⟨gb574, 0, none⟩ = some (Value.int IntKind.i64 t571)) (hcz412_1 : World.cell? wc ⟨gb574, 1, none⟩ = some (Value.int IntKind.i64 t572)) (hfz412_0 : World.frozen? wc ⟨gb574, 0, none⟩ = false) (hfz412_1 : World.frozen? wc ⟨gb574, 1, none⟩ = false) :
  Code.wp Try.prog (tailOf (Try.f3.body.getD .skip) 21) (bodyPost Try.prog Try.f3 (fun e w' => e = .returned (.bool r) ∧ Below w.heap.size w w')) ⟨#[Value.slice A0 (List.length l0) c0, undef, u2, Value.pointer (some ⟨gb573, 0, none⟩), Value.pointer (some ⟨gb574, 0, none⟩), Value.int IntKind.i64 t575, Value.pointer (some ⟨gb579, 0, none⟩), Value.int IntKind.i64 t578, Value.slice Ao67 (List.length t580) co67, Value.pointer (some ⟨gb587, 0, none⟩), Value.pointer (some ⟨gb588, 0, none⟩), Value.slice Ao72 (List.length t589) co72, Value.pointer (some ⟨gb594, 0, none⟩), Value.slice Ao74 (List.length t595) co74, Value.bool t598, Value.slice Ao75 (List.length t599) co75, Value.bool t602, Value.int IntKind.i64 x17_2, u18, u19, u20, u21, Value.pointer (some ⟨gb641, 0, none⟩), Value.pointer (some ⟨gb642, 0, none⟩), Value.pointer (some ⟨gb646, 0, none⟩), Value.bool t645, Value.pointer (some ⟨gb650, 0, none⟩), Value.bool t649, undef, undef, u30, u31, u32, u33, u34, u35, u36, u37, u38, u39, u40, u41, u42, u43, u44, u45, u46, u47, u48, u49, u50, u51, u52, u53, u54, u55, u56, u57, u58, u59, u60, u61, u62, u63, u64, u65, u66, u67, u68, u69, u70, u71, u72, u73, u74, u75, u76, u77, u78, u79, u80, u81, u82, u83, u84, u85, u86, u87, u88, u89, u90, u91, u92, u93, u94, u95, u96, u97, u98, u99, u100, u101, u102, u103, u104, u105, u106, u107, u108, u109, u110, u111, u112, u113, u114, u115, u116, u117, u118, u119, u120, u121, u122, u123, u124, u125, u126, u127, u128, u129, u130, u131, u132, u133, u134, u135, u136, u137, u138, u139, u140, u141, u142, u143, u144, u145, u146, u147, u148, u149, u150, u151, u152, u153, u154, u155, u156, u157, u158, u159, u160, u161, u162, u163, u164, u165, u166, u167, u168, u169, u170, u171, u172, u173, u174, u175, u176, u177, u178, u179, u180, u181, u182, u183, u184, u185, u186, u187, u188, u189, u190, u191, u192, u193, u194, u195, u196, u197, u198, u199, u200, u201, u202, u203, u204, u205, u206, u207, u208, u209, u210, u211, u212, u213, u214, u215, u216, u217, u218, u219, u220, u221, u222, u223, u224, u225, u226, u227, u228, u229, u230, u231, u232, u233, u234, u235, u236, u237, u238, u239, u240, u241, u242, u243, u244, u245, u246, u247, u248, u249, u250, u251, u252, u253, u254, u255, u256, u257, u258, u259, u260, u261, u262, u263, u264, u265, u266, u267, u268, u269, u270, u271, u272, u273, u274, u275, u276, u277, u278, Value.bool false, u280, u281, u282, u283, u284, u285, u286, u287, u288, u289, u290, u291, u292, u293, u294, u295, u296, u297, u298, u299, u300, u301, u302, u303, u304, u305, u306, u307, u308, u309, u310, u311, u312, u313, u314, u315, u316, u317, u318, u319, u320, u321, u322, u323, u324, u325, u326, u327, u328, u329, u330], []⟩ wc := by
 (try dsimp only)
 conv => arg 2; whnf
 go_wp2_with (first | ((with_reducible refine gtC (f := 24) rfl ?_); refine clz Try.func24 (some 282) #[.agg #[.int .i64 t569, .int .i64 t570], .agg #[.int .i64 t571, .int .i64 t572]] ?_; (with_reducible refine (impl_StepsBetween.calls kj261 t569 t570 t571 t572 t655 _ A390.out).mono ?_); rintro e w413 ⟨v656, rfl, ho0, hb⟩; refine ⟨_, rfl, ?_⟩; have HO657 := Az.mk (Kd.R_lower (Kd.R_newB (Kd.R_newB (Kd.R_newB (Kd.R_newB (Kd.R_newB (Kd.R_newB (Kd.R_newB (Kd.R_newB (Kd.R_newB ho0 (g := gb573) (o := .cells #[.int .i64 t569, .int .i64 t570] 25 (0, 0)) (bk1 BK573)) (g := gb574) (o := .cells #[.int .i64 t571, .int .i64 t572] 25 (0, 0)) (bk1 BK574)) (g := gb579) (o := .cells #[.int .i64 t576, .int .i64 t577] 25 (0, 0)) (bk1 BK579)) (g := gb587) (o := .cells #[.int .i64 t583, .int .i64 t584] 25 (0, 0)) (bk1 BK587)) (g := gb588) (o := .cells #[.int .i64 t585, .int .i64 t586] 25 (0, 0)) (bk1 BK588)) (g := gb594) (o := .cells #[.int .i64 t592, .int .i64 t593] 25 (0, 0)) (bk1 BK594)) (g := gb642) (o := .cells #[.int .i64 t639, .int .i64 t640] 25 (0, 0)) (bk1 BK642)) (g := gb646) (o := .cells #[.int .i64 t643, .int .i64 t644] 25 (0, 0)) (bk1 BK646)) (g := gb650) (o := .cells #[.int .i64 t647, .int .i64 t648] 25 (0, 0)) (bk1 BK650)) (bwZ bw_26)); replace BK573 := bkz BK573 hb; replace BK574 := bkz BK574 hb; replace BK579 := bkz BK579 hb; replace BK587 := bkz BK587 hb; replace BK588 := bkz BK588 hb; replace BK594 := bkz BK594 hb; replace BK641 := bkz BK641 hb; replace BK642 := bkz BK642 hb; replace BK646 := bkz BK646 hb; replace BK650 := bkz BK650 hb; replace HB := Az.mk (bwT bw_26 hb); (try clear hb); (try clear ho0); obtain ⟨hcz414_0, hcz414_1, hfz414_0, hfz414_1⟩ := bq2 BK573; obtain ⟨hcz415_0, hcz415_1, hfz415_0, hfz415_1⟩ := bq2 BK574) | ((with_reducible refine gtC (f := 25) rfl ?_); refine clz Try.func25 (some 286) #[.agg #[.int .i64 t569, .int .i64 t570], .agg #[.int .i64 t571, .int .i64 t572]] ?_; (with_reducible refine (spec_StepsBetween.calls kj261 t569 t570 t571 t572 t658 _ A391.out).mono ?_); rintro e w416 ⟨v659, rfl, ho0, hb⟩; refine ⟨_, rfl, ?_⟩; have HO660 := Az.mk (Kd.R_lower (Kd.R_newB (Kd.R_newB (Kd.R_newB (Kd.R_newB (Kd.R_newB (Kd.R_newB (Kd.R_newB (Kd.R_newB (Kd.R_newB (Kd.R_new' ho0 (Kd.R_lt (by (with_reducible repeat (first | apply Kd.R_alloc | apply Kd.R_drewN | apply Kd.R_drew)); exact HO657.out))) (g := gb573) (o := .cells #[.int .i64 t569, .int .i64 t570] 25 (0, 0)) (bk1 BK573)) (g := gb574) (o := .cells #[.int .i64 t571, .int .i64 t572] 25 (0, 0)) (bk1 BK574)) (g := gb579) (o := .cells #[.int .i64 t576, .int .i64 t577] 25 (0, 0)) (bk1 BK579)) (g := gb587) (o := .cells #[.int .i64 t583, .int .i64 t584] 25 (0, 0)) (bk1 BK587)) (g := gb588) (o := .cells #[.int .i64 t585, .int .i64 t586] 25 (0, 0)) (bk1 BK588)) (g := gb594) (o := .cells #[.int .i64 t592, .int .i64 t593] 25 (0, 0)) (bk1 BK594)) (g := gb642) (o := .cells #[.int .i64 t639, .int .i64 t640] 25 (0, 0)) (bk1 BK642)) (g := gb646) (o := .cells #[.int .i64 t643, .int .i64 t644] 25 (0, 0)) (bk1 BK646)) (g := gb650) (o := .cells #[.int .i64 t647, .int .i64 t648] 25 (0, 0)) (bk1 BK650)) (bwZ bw_26)); replace HO657 := Az.mk (Kd.R_elder' (by (with_reducible repeat (first | apply Kd.R_alloc | apply Kd.R_drewN | apply Kd.R_drew)); exact HO657.out) (Kd.R_base ho0) hb); replace BK573 := bkz BK573 hb; replace BK574 := bkz BK574 hb; replace BK579 := bkz BK579 hb; replace BK587 := bkz BK587 hb; replace BK588 := bkz BK588 hb; replace BK594 := bkz BK594 hb; replace BK641 := bkz BK641 hb; replace BK642 := bkz BK642 hb; replace BK646 := bkz BK646 hb; replace BK650 := bkz BK650 hb; replace HB := Az.mk (bwT bw_26 hb); (try clear hb); (try clear ho0); obtain ⟨Ao417, co417, eo417⟩ := Kd.R_slice HO657.out; subst eo417; obtain ⟨Ao418, co418, eo418⟩ := Kd.R_slice HO660.out; subst eo418) | ((with_reducible refine gtC (f := 15) rfl ?_); refine clz Try.func15 (some 287) #[.slice Ao417 t655.length co417, .slice Ao418 t658.length co418] ?_; (with_reducible refine (laws_sameSlopes.calls kj261 _ _ t655 _ _ t658 true _ ?side1 ?side2 ?side3 ?side4 A392.out).mono ?_); (case side1 => repeat (first | exact (Kd.R_reads' HO657.out).2.2 | (with_reducible refine Kd.C_alloc ?_ _) | (with_reducible refine Kd.C_drewN ?_ _) | (with_reducible refine Kd.C_drew ?_))); (case side2 => exact (Kd.R_reads' HO657.out).2.1); (case side3 => repeat (first | exact (Kd.R_reads' HO660.out).2.2 | (with_reducible refine Kd.C_alloc ?_ _) | (with_reducible refine Kd.C_drewN ?_ _) | (with_reducible refine Kd.C_drew ?_))); (case side4 => exact (Kd.R_reads' HO660.out).2.1); rintro e w' ⟨rfl, ⟨nd, rfl⟩⟩; refine ⟨_, rfl, ?_⟩))
 go_loopg [29] kj261 (fun kq v29 w' => ∃ (x29_7 : Int), v29 = .int .i64 x29_7 ∧ Az (laws_FnFarey.l1 kq t575 t655 x29_7 t569 t570 t571 t572 = some r) ∧ Az (kq ≤ kj261) ∧ Az (Kd.R k25 25 w' w.heap.size (fun k_ => k_ ≠ gb573 ∧ k_ ≠ gb574 ∧ k_ ≠ gb579 ∧ k_ ≠ gb587 ∧ k_ ≠ gb588 ∧ k_ ≠ gb594 ∧ k_ ≠ gb642 ∧ k_ ≠ gb646 ∧ k_ ≠ gb650) (.slice Ao417 t655.length co417) t655) ∧ Az (w'.heap[gb573]? = some (.cells #[.int .i64 t569, .int .i64 t570] 25 (0, 0))) ∧ Az (w'.heap[gb574]? = some (.cells #[.int .i64 t571, .int .i64 t572] 25 (0, 0))) ∧ Az (w'.heap[gb579]? = some (.cells #[.int .i64 t576, .int .i64 t577] 25 (0, 0))) ∧ Az (w'.heap[gb587]? = some (.cells #[.int .i64 t583, .int .i64 t584] 25 (0, 0))) ∧ Az (w'.heap[gb588]? = some (.cells #[.int .i64 t585, .int .i64 t586] 25 (0, 0))) ∧ Az (w'.heap[gb594]? = some (.cells #[.int .i64 t592, .int .i64 t593] 25 (0, 0))) ∧ Az (w'.heap[gb641]? = some (.cells #[.int .i64 t635, .int .i64 t636, .int .i64 t637, .int .i64 t638] 41 (0, 0))) ∧ Az (w'.heap[gb642]? = some (.cells #[.int .i64 t639, .int .i64 t640] 25 (0, 0))) ∧ Az (w'.heap[gb646]? = some (.cells #[.int .i64 t643, .int .i64 t644] 25 (0, 0))) ∧ Az (w'.heap[gb650]? = some (.cells #[.int .i64 t647, .int .i64 t648] 25 (0, 0))) ∧ Az (Below w.heap.size w w'))
 case atStart => exact ⟨(1), rq2, H', ⟨Nat.le_refl _⟩, ⟨by (with_reducible repeat (first | apply Kd.R_alloc | apply Kd.R_drewN | apply Kd.R_drew)); exact Kd.R_mono HO657.out (fun _ hk => ⟨hk.1.1.1.1.1.1.1.1.1.2, ⟨hk.1.1.1.1.1.1.1.1.2, ⟨hk.1.1.1.1.1.1.1.2, ⟨hk.1.1.1.1.1.1.2, ⟨hk.1.1.1.1.1.2, ⟨hk.1.1.1.1.2, ⟨hk.1.1.1.2, ⟨hk.1.1.2, hk.1.2⟩⟩⟩⟩⟩⟩⟩⟩)⟩, ⟨bk1 BK573⟩, ⟨bk1 BK574⟩, ⟨bk1 BK579⟩, ⟨bk1 BK587⟩, ⟨bk1 BK588⟩, ⟨bk1 BK594⟩, ⟨bk1 BK641⟩, ⟨bk1 BK642⟩, ⟨bk1 BK646⟩, ⟨bk1 BK650⟩, ⟨bw_26⟩⟩
 clear H'
 try clear hcz403_0
 try clear hcz403_1
 try clear hcz412_0
 try clear hcz412_1
 try clear hcz414_0
 try clear hcz414_1
 try clear hcz415_0
 try clear hcz415_1
 try clear hfz403_0
 try clear hfz403_1
 try clear hfz412_0
 try clear hfz412_1
 try clear hfz414_0
 try clear hfz414_1
 try clear hfz415_0
 try clear hfz415_1
 obtain ⟨x29_7, rfl, HA, HK7, HO_28, BK573, BK574, BK579, BK587, BK588, BK594, BK641, BK642, BK646, BK650, HB⟩ := hrel
 cases gk with
 | zero => exact absurd HA.out (by simp [laws_FnFarey.l1])
 | succ k7 =>
  have H := HA.out
  clear HA
  simp only [laws_FnFarey.l1] at H
  by_cases c419 : x29_7 < (t655.length : Int)
  rotate_left
  ·rw [if_neg c419] at H
   have c419b0 : decide (x29_7 < (t655.length : Int)) = false := decide_eq_false c419
   clear c419
   rename_i Kt at_ Jj Kj aj ah
   have AT := Az.mk at_
   clear at_
   go_wp2
   exact AT.out _ _ (laws_FnFarey.p46 A0 c0 l0 r w t569 t570 t571 t572 t575 t576 t577 t578 t580 t583 t584 t585 t586 t589 t592 t593 t595 t598 t599 t602 gb573 GE573 gb574 GE574 gb579 GE579 gb587 GE587 gb588 GE588 gb594 GE594 Ao67 co67 Ao72 co72 Ao74 co74 Ao75 co75 u18 u19 x17_2 u20 u21 t635 t636 t637 t638 t639 t640 t643 t644 t645 t647 t648 t649 gb641 GE641 gb642 GE642 gb646 GE646 gb650 GE650 u30 u31 u32 u33 u34 u35 u36 u37 u38 u39 u40 u41 u42 u43 u44 u45 u46 u47 u48 u49 u50 u51 u52 u53 u54 u55 u56 u57 u58 u59 u60 u61 u62 u63 u64 u65 u66 u67 u68 u69 u70 u71 u72 u73 u74 u75 u76 u77 u78 u79 u80 u81 u82 u83 u84 u85 u86 u87 u88 u89 u90 u91 u92 u93 u94 u95 u96 u97 u98 u99 u100 u101 u102 u103 u104 u105 u106 u107 u108 u109 u110 u111 u112 u113 u114 u115 u116 u117 u118 u119 u120 u121 u122 u123 u124 u125 u126 u127 u128 u129 u130 u131 u132 u133 u134 u135 u136 u137 u138 u139 u140 u141 u142 u143 u144 u145 u146 u147 u148 u149 u150 u151 u152 u153 u154 u155 u156 u157 u158 u159 u160 u161 u162 u163 u164 u165 u166 u167 u168 u169 u170 u171 u172 u173 u174 u175 u176 u177 u178 u179 u180 u181 u182 u183 u184 u185 u186 u187 u188 u189 u190 u191 u192 u193 u194 u195 u196 u197 u198 u199 u200 u201 u202 u203 u204 u205 u206 u207 u208 u209 u210 u211 u212 u213 u214 u215 u216 u217 u218 u219 u220 u221 u222 u223 u224 u225 u226 u227 u228 u229 u230 u231 u232 u233 u234 u235 u236 u237 u238 u239 u240 u241 u242 u243 u244 u245 u246 u247 u248 u249 u250 u251 u252 u253 u254 u255 u256 u257 u258 u259 u260 u261 u262 u263 u264 u265 u266 u267 u268 u269 u270 u271 u272 u273 u274 u275 u276 u277 u278 u306 u307 u308 u309 u310 u311 u312 u313 u314 u315 u316 u317 u318 u319 u320 u321 u322 u323 u324 u325 u326 u327 u328 u329 u330 t655 t658 Ao417 co417 Ao418 co418 wr u2 u293 u294 u295 u296 u297 u298 u299 u300 u301 u302 u303 u304 u305 x29_7 HO_28 BK573 BK574 BK579 BK587 BK588 BK594 BK641 BK642 BK646 BK650 HB H)
  rw [if_pos c419] at H
  have c419b0 : decide (x29_7 < (t655.length : Int)) = true := decide_eq_true c419
  clear c419
  obtain ⟨ji420, hji420⟩ : ∃ j_ : Int, (wrap64 (x29_7 - 1)) = j_ := ⟨_, rfl⟩
  replace H : (if 0 ≤ (ji420) then (if (ji420) < (t655.length : Int) then (if 0 ≤ x29_7 then ((spec_CrossNumber.f k7 ((rd_T25 t655 (ji420)).f0) ((rd_T25 t655 (ji420)).f1) ((rd_T25 t655 x29_7).f0) ((rd_T25 t655 x29_7).f1)).bind fun t664 => (if t664 = 1 then (laws_FnFarey.l1 k7 t575 t655 (wrap64 (x29_7 + 1)) t569 t570 t571 t572) else (none))) else (none)) else (none)) else (none)) = some r := by first | (rw [hji420] at H; exact H) | (simp only [hji420] at H ⊢; exact H)
  have hji420w : (IntKind.i64.wrap (x29_7 - 1)) = ji420 := (i64_w _).trans hji420
  by_cases c421 : 0 ≤ (ji420)
  rotate_left
  ·rw [if_neg c421] at H
   exact absurd H (by simp)
  rw [if_pos c421] at H
  have c421b0 : decide (0 ≤ (ji420)) = true := decide_eq_true c421
  clear c421
  by_cases c422 : (ji420) < (t655.length : Int)
  rotate_left
  ·rw [if_neg c422] at H
   exact absurd H (by simp)
  rw [if_pos c422] at H
  have c422b0 : decide ((ji420) < (t655.length : Int)) = true := decide_eq_true c422
  clear c422
  by_cases c423 : 0 ≤ x29_7
  rotate_left
  ·rw [if_neg c423] at H
   exact absurd H (by simp)
  rw [if_pos c423] at H
  have c423b0 : decide (0 ≤ x29_7) = true := decide_eq_true c423
  clear c423
  replace H := bez H
  obtain ⟨t664, A424, H⟩ := H
  try dsimp only at H
  by_cases c425 : t664 = 1
  rotate_left
  ·rw [if_neg c425] at H
   exact absurd H (by simp)
  rw [if_pos c425] at H
  have c425b0 : (t664 == 1) = true := beq_iff_eq.mpr c425
  have c425b1 : (t664 != 1) = false := bne_eq_false_iff_eq.mpr c425
  clear c425
  have H' := Az.mk H
  clear H
  try go_wp2
  replace HO_28 := Az.mk (Kd.R_drew HO_28.out); replace BK573 := Az.mk (bkD BK573.out); replace BK574 := Az.mk (bkD BK574.out); replace BK579 := Az.mk (bkD BK579.out); replace BK587 := Az.mk (bkD BK587.out); replace BK588 := Az.mk (bkD BK588.out); replace BK594 := Az.mk (bkD BK594.out); replace BK641 := Az.mk (bkD BK641.out); replace BK642 := Az.mk (bkD BK642.out); replace BK646 := Az.mk (bkD BK646.out); replace BK650 := Az.mk (bkD BK650.out); replace HB := Az.mk (bwD HB.out)
  have p662 : 0 ≤ ((ji420) : Int) := of_decide_eq_true (by first | (with_reducible assumption) | assumption)
  have q662 : (ji420) < (t655.length : Int) := of_decide_eq_true (by first | (with_reducible assumption) | assumption)
  obtain ⟨ad662, e662, hx662_0, hx662_1⟩ := at_T25 (Kd.R_reads' HO_28.out).2.2 (ji420) p662 q662
  cases e662
  replace p662 := eq_true p662
  replace q662 := eq_true q662
  have p663 : 0 ≤ (x29_7 : Int) := of_decide_eq_true (by first | (with_reducible assumption) | assumption)
  have q663 : x29_7 < (t655.length : Int) := of_decide_eq_true (by first | (with_reducible assumption) | assumption)
  obtain ⟨ad663, e663, hx663_0, hx663_1⟩ := at_T25 (Kd.R_reads' HO_28.out).2.2 x29_7 p663 q663
  obtain rfl : ad662 = ad663 := (by injection e663)
  replace p663 := eq_true p663
  replace q663 := eq_true q663
  refine start_ (n := 11) (S := fun w' => w'.cell? (ad662.add (((ji420)).toNat * 2)) = some (.int .i64 ((rd_T25 t655 (ji420)).f0)) ∧ w'.cell? ⟨(ad662.add (((ji420)).toNat * 2)).block, (ad662.add (((ji420)).toNat * 2)).off + 1, none⟩ = some (.int .i64 ((rd_T25 t655 (ji420)).f1)) ∧ w'.cell? (ad662.add ((x29_7).toNat * 2)) = some (.int .i64 ((rd_T25 t655 x29_7).f0)) ∧ w'.cell? ⟨(ad662.add ((x29_7).toNat * 2)).block, (ad662.add ((x29_7).toNat * 2)).off + 1, none⟩ = some (.int .i64 ((rd_T25 t655 x29_7).f1))) (ds := []) #[F,F,F,F,F,F,F,F,F,F,F] (by kernel_rfl) rfl rfl ⟨hx662_0, hx662_1, hx663_0, hx663_1⟩ (fun hHeld => ?_); refine with_tabW laws_FnFarey.tab44 laws_FnFarey.bits44 (fun HT_ HW_ => ?_)
  generalize wr.drew = w426 at HO_28 BK573 BK574 BK579 BK587 BK588 BK594 BK641 BK642 BK646 BK650 HB hx662_0 hx662_1 hx663_0 hx663_1 hHeld ⊢
  refine pu (i := 0) (N := some 295) #[T,F,F,F,F,F,F,F,F,F,F] (any_of HT_.out (by kernel_rfl)) ?_
  refine pu (i := 1) (N := some 296) #[T,T,F,F,F,F,F,F,F,F,F] (any_of HT_.out (by kernel_rfl)) ?_
  refine pu (i := 2) (N := some 297) #[T,T,T,F,F,F,F,F,F,F,F] (any_of HT_.out (by kernel_rfl)) ?_
  refine pu (i := 3) (N := some 298) #[T,T,T,T,F,F,F,F,F,F,F] (any_of HT_.out (by kernel_rfl)) ?_
  refine pu (i := 5) (N := some 300) #[T,T,T,T,F,T,F,F,F,F,F] (any_of HT_.out (by kernel_rfl)) ?_
  refine pu (i := 6) (N := some 301) #[T,T,T,T,F,T,T,F,F,F,F] (any_of HT_.out (by kernel_rfl)) ?_
  refine pu (i := 7) (N := some 302) #[T,T,T,T,F,T,T,T,F,F,F] (any_of HT_.out (by kernel_rfl)) ?_
  refine take_ (i := 4) (N := some 299) (v := ?_) (a' := ?_) #[T,T,T,T,T,T,T,T,F,F,F] rfl rfl (take_ofW HT_.out HW_.out (by kernel_rfl)) (fun _ _ _ h => h) (Or.inl ⟨by rfl, ?_⟩) hHeld ?_ ?_
  rotate_left
  ·rintro w' ⟨s0, s1, s2, s3⟩
   go_simp
   with_reducible rfl
  rotate_left
  ·exact acq
  refine take_ (i := 8) (N := some 303) (v := ?_) (a' := ?_) #[T,T,T,T,T,T,T,T,T,F,F] rfl rfl (take_ofW HT_.out HW_.out (by kernel_rfl)) (fun _ _ _ h => h) (Or.inl ⟨by rfl, ?_⟩) hHeld ?_ ?_
  rotate_left
  ·rintro w' ⟨s0, s1, s2, s3⟩
   go_simp
   with_reducible rfl
  rotate_left
  ·exact acq
  refine one_ (i := 9) (N := some 304) #[T,T,T,T,T,T,T,T,T,T,F] rfl rfl (one_of HT_.out (by kernel_rfl)) (by decide) (fun K hK => ?_)
  refine goes_ Try.func18 (by kernel_rfl) rfl #[.agg #[.int .i64 ((rd_T25 t655 (ji420)).f0), .int .i64 ((rd_T25 t655 (ji420)).f1)], .agg #[.int .i64 ((rd_T25 t655 x29_7).f0), .int .i64 ((rd_T25 t655 x29_7).f1)]] (by rfl) rfl rfl (by (try simp only [List.map_toArray, List.map_cons, List.map_nil]); first | done | (simp only [hji420]; rfl) | rfl | (simp only [List.length_drop, List.length_take]; rfl)) ?_
  with_reducible refine (spec_CrossNumber.calls k7 ((rd_T25 t655 (ji420)).f0) ((rd_T25 t655 (ji420)).f1) ((rd_T25 t655 x29_7).f0) ((rd_T25 t655 x29_7).f1) t664 _ A424.out).mono ?_
  rintro e w427 ⟨rfl, hb⟩
  have HS0_ := (hb.cell (World.block_lt_of_cell? _ _ (hHeld.1))).trans (hHeld.1)
  have HS1_ := (hb.cell (World.block_lt_of_cell? _ _ (hHeld.2.1))).trans (hHeld.2.1)
  have HS2_ := (hb.cell (World.block_lt_of_cell? _ _ (hHeld.2.2.1))).trans (hHeld.2.2.1)
  have HS3_ := (hb.cell (World.block_lt_of_cell? _ _ (hHeld.2.2.2))).trans (hHeld.2.2.2)
  refine ⟨_, rfl, ?_⟩
  replace HO_28 := Az.mk (Kd.R_below (by (with_reducible repeat (first | apply Kd.R_alloc | apply Kd.R_drewN | apply Kd.R_drew)); exact HO_28.out) hb); replace BK573 := bkz BK573 hb; replace BK574 := bkz BK574 hb; replace BK579 := bkz BK579 hb; replace BK587 := bkz BK587 hb; replace BK588 := bkz BK588 hb; replace BK594 := bkz BK594 hb; replace BK641 := bkz BK641 hb; replace BK642 := bkz BK642 hb; replace BK646 := bkz BK646 hb; replace BK650 := bkz BK650 hb; replace HB := Az.mk (bwT bw_26 hb)
  (try clear hb)
  (try clear hb2)
  (try clear hk)
  (try clear hi)
  refine hK.out _ _ ⟨HS0_, HS1_, HS2_, HS3_⟩ (fun hHeld => ?_)
  clear hK K
  refine norm_ (a' := ?_) ?_ ?_
  rotate_left
  ·show Act.put _ (some 304) _ = _
   exact acq
  refine pu (i := 10) (N := some 305) #[T,T,T,T,T,T,T,T,T,T,T] (any_of HT_.out (by kernel_rfl)) ?_
  refine done_ (done_of HT_.out (by kernel_rfl)) ?_
  try go_wp2
  go_roundg k7
  case measure => have := HJ23.out; have := HK2.out; have := HJ149.out; have := HJ164.out; have := HJ183.out; have := HJ261.out; have := HK7.out; omega
  case rel => exact ⟨(wrap64 (x29_7 + 1)), rq2, H', ⟨by have := HJ23.out; have := HK2.out; have := HJ149.out; have := HJ164.out; have := HJ183.out; have := HJ261.out; have := HK7.out; omega⟩, ⟨by (with_reducible repeat (first | apply Kd.R_alloc | apply Kd.R_drewN | apply Kd.R_drew)); exact HO_28.out⟩, ⟨bk1 BK573⟩, ⟨bk1 BK574⟩, ⟨bk1 BK579⟩, ⟨bk1 BK587⟩, ⟨bk1 BK588⟩, ⟨bk1 BK594⟩, ⟨bk1 BK641⟩, ⟨bk1 BK642⟩, ⟨bk1 BK646⟩, ⟨bk1 BK650⟩, ⟨bw_26⟩⟩
end Go.Proofs.Ytigcjehokbgclaa.P
