-- By this session's driver (wip/tools/mk.py) of the kit's print program, over several statements at once. Not trusted: Lean checks it.
import Derived.Test.YtnoiijdffdpabaaDoorQWZip
import Derived.Test.YtnoiijdffdpabaaDoorQPx0
import Derived.Test.YtnoiijdffdpabaaDoorQPx2
import Derived.Test.YtnoiijdffdpabaaDoorQPx5
import Derived.Test.YtnoiijdffdpabaaDoorQPx6
import Derived.Test.YtnoiijdffdpabaaDoorQPx9
import Derived.Test.YtnoiijdffdpabaaDoorQPx10
import Derived.Test.YtnoiijdffdpabaaDoorQPx11
import Derived.Test.YtnoiijdffdpabaaDoorQPx12
import Derived.Test.YtnoiijdffdpabaaDoorQPx14
import Derived.Test.YtnoiijdffdpabaaDoorQPx15
import Derived.Test.YtnoiijdffdpabaaDoorQPx16
import Derived.Test.YtnoiijdffdpabaaDoorQPx17
import Derived.Test.YtnoiijdffdpabaaDoorQPx18
import Derived.Test.YtnoiijdffdpabaaDoorQPx19
import Derived.Test.YtnoiijdffdpabaaDoorQPx20
import Derived.Test.YtnoiijdffdpabaaDoorQPx21
import Derived.Test.YtnoiijdffdpabaaDoorQPx22
import Derived.Test.YtnoiijdffdpabaaDoorQPx23
import Derived.Test.YtnoiijdffdpabaaDoorQPx24
import Derived.Test.YtnoiijdffdpabaaDoorQPx25
import Derived.Test.YtnoiijdffdpabaaDoorQPx26
namespace Go.Proofs.YtnoiijdffdpabaaDoor.P
open Go.RowKit Go.Proofs.YtnoiijdffdpabaaDoorW.PrintWords Go.Proofs.YtnoiijdffdpabaaDoorW.PrintLast Go.Proofs.YtnoiijdffdpabaaDoorW.PrintMore
attribute [local go_sem] max2_int min2_int max_two min_two max_three min_three max_four min_four   -- for this text's walks alone
set_option linter.unusedVariables false
set_option linter.unusedSimpArgs false
open Bool renaming true → T, false → F
theorem bw_27 {n : Nat} {v v' : World} (h : Below n v v' := by repeat (first | (with_reducible first | exact HB.out | apply bwA | apply pbN | apply bwD | refine bwS ?_ GE509.out | refine bwS ?_ GE510.out | refine bwS ?_ GE516.out | refine bwS ?_ GE522.out | refine bwS ?_ GE529.out | refine bwS ?_ GE530.out | refine bwS ?_ GE534.out | refine bwS ?_ GE538.out | refine bwS ?_ GE545.out | refine bwS ?_ GE551.out | refine bwS ?_ GE554.out | refine bwS ?_ GE622.out | refine bwS ?_ GE633.out) | exact HB.out)) : Below n v v' := h
theorem ln_27 {P : Prop} (h : P := by (try simp only [List.map_toArray, List.map_cons, List.map_nil]); first | done | rfl | (simp only [List.length_drop, List.length_take]; rfl)) : P := h
open Option renaming bind_eq_some_iff → be
theorem z27_3 {p : Prop} (h : p := by simp only [putAll, Act.put, List.setIfInBounds_toArray, List.set_cons_zero, List.set_cons_succ]) : p := h
theorem z27_2 {p : Prop} (h : p := by kernel_rfl) : p := h
theorem z27_1 {p : Prop} (h : p := by first | exact Kd.own_blk (Kd.R_away HO_34.out (fun _ hk => hk.2.2.2.2)) | (rw [add_block]; exact Kd.own_blk (Kd.R_away HO_34.out (fun _ hk => hk.2.2.2.2))) | (show (Addr.add _ _).block ≠ _; rw [add_block]; exact Kd.own_blk (Kd.R_away HO_34.out (fun _ hk => hk.2.2.2.2))) | (dsimp only; exact Kd.own_blk (Kd.R_away HO_34.out (fun _ hk => hk.2.2.2.2)))) : p := h
theorem z27_0 {p : Prop} (h : p := by (with_reducible repeat (first | apply Kd.R_alloc | apply Kd.R_drewN | apply Kd.R_drew)); exact HO_34.out) : p := h

attribute [local go_sem high] eqA25 eqA35
set_option maxHeartbeats 8000000 in
set_option maxRecDepth 100000 in
theorem laws_FnMatrices.p31 (k : Nat) (A0 : Option Addr) (c0 : Nat) (l0 : List Int) (r : Bool) (w : World) (HT : Az (Tabs w)) (t501 t502 t503 t504 t505 t506 t507 t508 t511 t512 t513 t514 : Int) (t515 : Bool) (t517 t518 t519 t520 : Int) (t521 : Bool) (t523 t524 t525 t526 t527 t528 t531 t532 : Int) (t533 : Bool) (t535 t536 : Int) (t537 : Bool) (t539 : ByteArray) (t540 t541 t542 t543 : Int) (t544 : Bool) (t546 t547 t548 t549 : Int) (t550 : Bool) (t552 t553 : Int) (t555 : ByteArray) (gb509 : Nat) (GE509 : Az (w.heap.size ≤ gb509)) (gb510 : Nat) (GE510 : Az (w.heap.size ≤ gb510)) (NB509_510 : Az (gb509 ≠ gb510)) (NB510_509 : Az (gb510 ≠ gb509)) (gb516 : Nat) (GE516 : Az (w.heap.size ≤ gb516)) (NB509_516 : Az (gb509 ≠ gb516)) (NB516_509 : Az (gb516 ≠ gb509)) (gb522 : Nat) (GE522 : Az (w.heap.size ≤ gb522)) (NB509_522 : Az (gb509 ≠ gb522)) (NB522_509 : Az (gb522 ≠ gb509)) (gb529 : Nat) (GE529 : Az (w.heap.size ≤ gb529)) (NB509_529 : Az (gb509 ≠ gb529)) (NB529_509 : Az (gb529 ≠ gb509)) (gb530 : Nat) (GE530 : Az (w.heap.size ≤ gb530)) (NB509_530 : Az (gb509 ≠ gb530)) (NB530_509 : Az (gb530 ≠ gb509)) (gb534 : Nat) (GE534 : Az (w.heap.size ≤ gb534)) (NB509_534 : Az (gb509 ≠ gb534)) (NB534_509 : Az (gb534 ≠ gb509)) (gb538 : Nat) (GE538 : Az (w.heap.size ≤ gb538)) (NB509_538 : Az (gb509 ≠ gb538)) (NB538_509 : Az (gb538 ≠ gb509)) (gb545 : Nat) (GE545 : Az (w.heap.size ≤ gb545)) (NB509_545 : Az (gb509 ≠ gb545)) (NB545_509 : Az (gb545 ≠ gb509)) (gb551 : Nat) (GE551 : Az (w.heap.size ≤ gb551)) (NB509_551 : Az (gb509 ≠ gb551)) (NB551_509 : Az (gb551 ≠ gb509)) (gb554 : Nat) (GE554 : Az (w.heap.size ≤ gb554)) (NB509_554 : Az (gb509 ≠ gb554)) (NB554_509 : Az (gb554 ≠ gb509)) (u22 u23 u24 u25 u26 u27 : Value) (kj44 : Nat) (HJ44 : Az (kj44 + 1 ≤ k)) (u28 u29 : Value) (kj500 : Nat) (HJ500 : Az (kj500 + 1 ≤ kj44)) (wc : World) (u2 u30 u31 u32 u33 u40 u41 u42 u43 u44 u45 u46 u47 u48 u49 u50 u51 u52 u53 u54 u55 u56 u57 u58 u59 u60 u61 u62 u63 u64 u65 u66 u67 u68 u69 u70 u71 u72 u73 u74 u75 u76 u77 u78 u79 u80 u81 u82 u83 u84 u85 u86 u87 u88 u89 u90 u91 u92 u93 u94 u95 u96 u97 u98 u99 u100 u101 u102 u103 u104 u105 u106 u107 u108 u109 u110 u111 u112 u113 u114 u115 u116 u117 u118 u119 u120 u121 u122 u123 u124 u125 u126 u127 u128 u129 u130 u131 u132 u133 u134 u135 u136 u137 u138 u139 u140 u141 u142 u143 u144 u145 u146 u147 u148 u149 u150 u151 u152 u153 u154 u155 u156 u157 u158 u159 u160 u161 u162 u163 u164 u165 u166 u167 u168 u169 u170 u171 u172 u173 u174 u175 u176 u177 u178 u179 u180 u181 u182 u183 u184 u185 u186 u187 u188 u189 u190 u191 u192 u193 u194 u195 u196 u197 u198 u199 u200 u201 u202 u203 u204 u205 u206 u207 u208 u209 u210 u211 u212 u213 u214 u215 u216 u217 u218 u219 u220 u221 u222 u223 u224 u225 u226 u227 u228 u229 u230 u231 u232 u233 u234 u235 u236 u237 u238 u239 u240 u241 u242 u243 u244 u245 u246 u247 u248 u249 u250 u251 u252 u253 u254 u255 u256 u257 u258 u259 u260 u261 u262 u263 u264 u265 u266 u267 u268 u269 u270 u271 u272 u273 u274 u275 u276 u277 u278 u279 u280 u281 u282 u283 u284 u285 u286 u287 u288 u289 u290 u291 u292 u293 u294 u295 u296 u297 u298 u299 u300 u301 u302 u303 u304 u305 u306 u307 u308 u309 u310 u311 u312 u313 u314 u315 u316 u317 u318 : Value) (BK509 : Az ((World.heap wc)[gb509]? = some (Obj.cells #[Value.int IntKind.i64 t501, Value.int IntKind.i64 t502, Value.int IntKind.i64 t503, Value.int IntKind.i64 t504] 25))) (BK510 : Az ((World.heap wc)[gb510]? = some (Obj.cells #[Value.int IntKind.i64 t505, Value.int IntKind.i64 t506, Value.int IntKind.i64 t507, Value.int IntKind.i64 t508] 25))) (BK516 : Az ((World.heap wc)[gb516]? = some (Obj.cells #[Value.int IntKind.i64 t511, Value.int IntKind.i64 t512, Value.int IntKind.i64 t513, Value.int IntKind.i64 t514] 25))) (BK522 : Az ((World.heap wc)[gb522]? = some (Obj.cells #[Value.int IntKind.i64 t517, Value.int IntKind.i64 t518, Value.int IntKind.i64 t519, Value.int IntKind.i64 t520] 25))) (BK529 : Az ((World.heap wc)[gb529]? = some (Obj.cells #[Value.int IntKind.i64 t523, Value.int IntKind.i64 t524, Value.int IntKind.i64 t525, Value.int IntKind.i64 t526] 25))) (BK530 : Az ((World.heap wc)[gb530]? = some (Obj.cells #[Value.int IntKind.i64 t527, Value.int IntKind.i64 t528] 35))) (BK534 : Az ((World.heap wc)[gb534]? = some (Obj.cells #[Value.int IntKind.i64 t531, Value.int IntKind.i64 t532] 35))) (BK538 : Az ((World.heap wc)[gb538]? = some (Obj.cells #[Value.int IntKind.i64 t535, Value.int IntKind.i64 t536] 35))) (BK545 : Az ((World.heap wc)[gb545]? = some (Obj.cells #[Value.int IntKind.i64 t540, Value.int IntKind.i64 t541, Value.int IntKind.i64 t542, Value.int IntKind.i64 t543] 25))) (BK551 : Az ((World.heap wc)[gb551]? = some (Obj.cells #[Value.int IntKind.i64 t546, Value.int IntKind.i64 t547, Value.int IntKind.i64 t548, Value.int IntKind.i64 t549] 25))) (BK554 : Az ((World.heap wc)[gb554]? = some (Obj.cells #[Value.int IntKind.i64 t552, Value.int IntKind.i64 t553] 35))) (HB : Az (Below (w.heap.size) w wc)) (kj536 : Nat) (HJ536 : Az (kj536 + 1 ≤ kj500)) (t612 : Bool) (H : (if t612 = true then Option.bind (impl_FixedSlopes.f kj536 t501 t502 t503 t504) fun (t615 : List S35) => laws_FnMatrices.l0 kj536 t615 0 t501 t502 t503 t504 else Option.bind (impl_KindOf.f kj536 t501 t502 t503 t504) fun (t613 : ByteArray) => if ByteArray.toList t613 = [] then Option.bind (impl_OrderOf.f kj536 t501 t502 t503 t504) fun (t614 : Int) => some (t614 == -1) else none) = some r) (A613 : Az (spec_IsMatrix.f kj536 t501 t502 t503 t504 = some t612)) :
  Code.wp Tryd.prog (tailOf (Tryd.f4.body.getD .skip) 17) (bodyPost Tryd.prog Tryd.f4 (fun e w' => e = .returned (.bool r) ∧ Below w.heap.size w w')) ⟨#[Value.slice A0 (List.length l0) c0, undef, u2, Value.pointer (some ⟨gb509, 0, none⟩), Value.pointer (some ⟨gb510, 0, none⟩), Value.pointer (some ⟨gb516, 0, none⟩), Value.bool t515, Value.pointer (some ⟨gb522, 0, none⟩), Value.bool t521, Value.pointer (some ⟨gb529, 0, none⟩), Value.pointer (some ⟨gb530, 0, none⟩), Value.pointer (some ⟨gb534, 0, none⟩), Value.bool t533, Value.pointer (some ⟨gb538, 0, none⟩), Value.bool t537, Value.string t539, Value.pointer (some ⟨gb545, 0, none⟩), Value.bool t544, Value.pointer (some ⟨gb551, 0, none⟩), Value.bool t550, Value.pointer (some ⟨gb554, 0, none⟩), Value.string t555, u22, u23, u24, u25, u26, u27, u28, u29, u30, u31, u32, u33, undef, undef, undef, undef, undef, undef, u40, u41, u42, u43, u44, u45, u46, u47, u48, u49, u50, u51, u52, u53, u54, u55, u56, u57, u58, u59, u60, u61, u62, u63, u64, u65, u66, u67, u68, u69, u70, u71, u72, u73, u74, u75, u76, u77, u78, u79, u80, u81, u82, u83, u84, u85, u86, u87, u88, u89, u90, u91, u92, u93, u94, u95, u96, u97, u98, u99, u100, u101, u102, u103, u104, u105, u106, u107, u108, u109, u110, u111, u112, u113, u114, u115, u116, u117, u118, u119, u120, u121, u122, u123, u124, u125, u126, u127, u128, u129, u130, u131, u132, u133, u134, u135, u136, u137, u138, u139, u140, u141, u142, u143, u144, u145, u146, u147, u148, u149, u150, u151, u152, u153, u154, u155, u156, u157, u158, u159, u160, u161, u162, u163, u164, u165, u166, u167, u168, u169, u170, u171, u172, u173, u174, u175, u176, u177, u178, u179, u180, u181, u182, u183, u184, u185, u186, u187, u188, u189, u190, u191, u192, u193, u194, u195, u196, u197, u198, u199, u200, u201, u202, u203, u204, u205, u206, u207, u208, u209, u210, u211, u212, u213, u214, u215, u216, u217, u218, u219, u220, u221, u222, u223, u224, u225, u226, u227, u228, u229, u230, u231, u232, u233, u234, u235, u236, u237, u238, u239, u240, u241, u242, u243, u244, u245, u246, u247, u248, u249, u250, u251, u252, u253, u254, u255, u256, u257, u258, u259, u260, u261, u262, u263, u264, u265, u266, u267, u268, u269, u270, u271, u272, u273, u274, u275, u276, u277, u278, u279, u280, u281, u282, u283, u284, u285, u286, u287, u288, u289, u290, u291, u292, u293, u294, u295, u296, u297, u298, u299, u300, u301, u302, u303, u304, u305, u306, u307, u308, u309, u310, u311, u312, u313, u314, u315, u316, u317, u318], []⟩ wc := by
 (try dsimp only)
 conv => arg 2; whnf
 by_cases c614 : t612 = true
 rotate_left
 ·replace c614 := Bool.eq_false_iff.mpr c614
  subst c614
  rw [if_neg (show ¬ (false = true) by decide)] at H
  replace H := bez H
  obtain ⟨t613, A687, H⟩ := H
  try dsimp only at H
  by_cases c688 : t613.toList = ([] : List UInt8)
  rotate_left
  ·rw [if_neg c688] at H
   exact absurd H (by simp)
  rw [if_pos c688] at H
  have c688b0 : (t613.toList == ([] : List UInt8)) = true := beq_iff_eq.mpr c688
  have c688b2 : t613.toList.isEmpty = true := List.isEmpty_iff.mpr c688
  (try simp only [c688b2, Bool.not_true])
  have c688b1 : (t613.toList != ([] : List UInt8)) = false := bne_eq_false_iff_eq.mpr c688
  clear c688
  replace H := bez H
  obtain ⟨t614, A689, H⟩ := H
  try dsimp only at H
  obtain rfl := Option.some.inj H
  have hnb690 := NB509_510.out
  have hnc690 := NB510_509.out
  have hnb691 := NB509_516.out
  have hnc691 := NB516_509.out
  have hnb692 := NB509_522.out
  have hnc692 := NB522_509.out
  have hnb693 := NB509_529.out
  have hnc693 := NB529_509.out
  have hnb694 := NB509_530.out
  have hnc694 := NB530_509.out
  have hnb695 := NB509_534.out
  have hnc695 := NB534_509.out
  have hnb696 := NB509_538.out
  have hnc696 := NB538_509.out
  have hnb697 := NB509_545.out
  have hnc697 := NB545_509.out
  have hnb698 := NB509_551.out
  have hnc698 := NB551_509.out
  have hnb699 := NB509_554.out
  have hnc699 := NB554_509.out
  have hcz700_0 := bkc0 BK509
  have hcz700_1 := bkc1 BK509
  have hcz700_2 := bkc2 BK509
  have hcz700_3 := bkc3 BK509
  have hfz700_0 := bkF BK509.out 0
  have hfz700_1 := bkF BK509.out 1
  have hfz700_2 := bkF BK509.out 2
  have hfz700_3 := bkF BK509.out 3
  go_wp2_with (first | ((with_reducible refine gtC (f := 22) rfl ?_); refine clz Tryd.func22 (some 246) #[.agg #[.int .i64 t501, .int .i64 t502, .int .i64 t503, .int .i64 t504]] ?_; (with_reducible refine (spec_IsMatrix.calls kj536 t501 t502 t503 t504 false _ A613.out).mono ?_); rintro e w701 ⟨rfl, hb⟩; refine ⟨_, rfl, ?_⟩; replace BK509 := bkz BK509 hb; replace BK510 := bkz BK510 hb; replace BK516 := bkz BK516 hb; replace BK522 := bkz BK522 hb; replace BK529 := bkz BK529 hb; replace BK530 := bkz BK530 hb; replace BK534 := bkz BK534 hb; replace BK538 := bkz BK538 hb; replace BK545 := bkz BK545 hb; replace BK551 := bkz BK551 hb; replace BK554 := bkz BK554 hb; replace HB := Az.mk (bwT bw_27 hb); (try clear hb); obtain ⟨hcz702_0, hcz702_1, hcz702_2, hcz702_3, hfz702_0, hfz702_1, hfz702_2, hfz702_3⟩ := bq4 BK509) | ((with_reducible refine gtC (f := 27) rfl ?_); refine clz Tryd.func27 (some 249) #[.agg #[.int .i64 t501, .int .i64 t502, .int .i64 t503, .int .i64 t504]] ?_; (with_reducible refine (impl_KindOf.calls kj536 t501 t502 t503 t504 t613 _ A687.out).mono ?_); rintro e w703 ⟨rfl, hb⟩; refine ⟨_, rfl, ?_⟩; replace BK509 := bkz BK509 hb; replace BK510 := bkz BK510 hb; replace BK516 := bkz BK516 hb; replace BK522 := bkz BK522 hb; replace BK529 := bkz BK529 hb; replace BK530 := bkz BK530 hb; replace BK534 := bkz BK534 hb; replace BK538 := bkz BK538 hb; replace BK545 := bkz BK545 hb; replace BK551 := bkz BK551 hb; replace BK554 := bkz BK554 hb; replace HB := Az.mk (bwT bw_27 hb); (try clear hb); obtain ⟨hcz704_0, hcz704_1, hcz704_2, hcz704_3, hfz704_0, hfz704_1, hfz704_2, hfz704_3⟩ := bq4 BK509) | (go_at_call 29; (with_reducible refine (impl_OrderOf.calls kj536 t501 t502 t503 t504 t614 _ A689.out).mono ?_); rintro e w705 ⟨rfl, hb⟩; replace BK509 := bkz BK509 hb; replace BK510 := bkz BK510 hb; replace BK516 := bkz BK516 hb; replace BK522 := bkz BK522 hb; replace BK529 := bkz BK529 hb; replace BK530 := bkz BK530 hb; replace BK534 := bkz BK534 hb; replace BK538 := bkz BK538 hb; replace BK545 := bkz BK545 hb; replace BK551 := bkz BK551 hb; replace BK554 := bkz BK554 hb; replace HB := Az.mk (bwT bw_27 hb); (try clear hb)))
  go_ret
  exact ⟨rq1, bw_27⟩
 subst c614
 rw [if_pos rfl] at H
 replace H := bez H
 obtain ⟨t615, A615, H⟩ := H
 try dsimp only at H
 have H' := Az.mk H
 clear H
 have hnb616 := NB509_510.out
 have hnc616 := NB510_509.out
 have hnb617 := NB509_516.out
 have hnc617 := NB516_509.out
 have hnb618 := NB509_522.out
 have hnc618 := NB522_509.out
 have hnb619 := NB509_529.out
 have hnc619 := NB529_509.out
 have hnb620 := NB509_530.out
 have hnc620 := NB530_509.out
 have hnb621 := NB509_534.out
 have hnc621 := NB534_509.out
 have hnb622 := NB509_538.out
 have hnc622 := NB538_509.out
 have hnb623 := NB509_545.out
 have hnc623 := NB545_509.out
 have hnb624 := NB509_551.out
 have hnc624 := NB551_509.out
 have hnb625 := NB509_554.out
 have hnc625 := NB554_509.out
 have hcz626_0 := bkc0 BK509
 have hcz626_1 := bkc1 BK509
 have hcz626_2 := bkc2 BK509
 have hcz626_3 := bkc3 BK509
 have hfz626_0 := bkF BK509.out 0
 have hfz626_1 := bkF BK509.out 1
 have hfz626_2 := bkF BK509.out 2
 have hfz626_3 := bkF BK509.out 3
 go_wp2_with (first | ((with_reducible refine gtC (f := 22) rfl ?_); refine clz Tryd.func22 (some 246) #[.agg #[.int .i64 t501, .int .i64 t502, .int .i64 t503, .int .i64 t504]] ?_; (with_reducible refine (spec_IsMatrix.calls kj536 t501 t502 t503 t504 true _ A613.out).mono ?_); rintro e w627 ⟨rfl, hb⟩; refine ⟨_, rfl, ?_⟩; replace BK509 := bkz BK509 hb; replace BK510 := bkz BK510 hb; replace BK516 := bkz BK516 hb; replace BK522 := bkz BK522 hb; replace BK529 := bkz BK529 hb; replace BK530 := bkz BK530 hb; replace BK534 := bkz BK534 hb; replace BK538 := bkz BK538 hb; replace BK545 := bkz BK545 hb; replace BK551 := bkz BK551 hb; replace BK554 := bkz BK554 hb; replace HB := Az.mk (bwT bw_27 hb); (try clear hb); obtain ⟨hcz628_0, hcz628_1, hcz628_2, hcz628_3, hfz628_0, hfz628_1, hfz628_2, hfz628_3⟩ := bq4 BK509) | ((with_reducible refine gtC (f := 32) rfl ?_); refine clz Tryd.func32 (some 257) #[.agg #[.int .i64 t501, .int .i64 t502, .int .i64 t503, .int .i64 t504]] ?_; (with_reducible refine (impl_FixedSlopes.calls kj536 t501 t502 t503 t504 t615 _ A615.out).mono ?_); rintro e w629 ⟨v616, rfl, ho0, hb⟩; refine ⟨_, rfl, ?_⟩; have HO617 := Az.mk (Kd.R_lower (Kd.R_newB (Kd.R_newB (Kd.R_newB (Kd.R_newB ho0 (g := gb530) (o := .cells #[.int .i64 t527, .int .i64 t528] 35 (0, 0)) (bk1 BK530)) (g := gb534) (o := .cells #[.int .i64 t531, .int .i64 t532] 35 (0, 0)) (bk1 BK534)) (g := gb538) (o := .cells #[.int .i64 t535, .int .i64 t536] 35 (0, 0)) (bk1 BK538)) (g := gb554) (o := .cells #[.int .i64 t552, .int .i64 t553] 35 (0, 0)) (bk1 BK554)) (bwZ bw_27)); replace BK509 := bkz BK509 hb; replace BK510 := bkz BK510 hb; replace BK516 := bkz BK516 hb; replace BK522 := bkz BK522 hb; replace BK529 := bkz BK529 hb; replace BK530 := bkz BK530 hb; replace BK534 := bkz BK534 hb; replace BK538 := bkz BK538 hb; replace BK545 := bkz BK545 hb; replace BK551 := bkz BK551 hb; replace BK554 := bkz BK554 hb; replace HB := Az.mk (bwT bw_27 hb); (try clear hb); (try clear ho0)))
 go_loopg [35] kj536 (fun kq v35 w' => ∃ (x35_4 : Int), v35 = .int .i64 x35_4 ∧ Az (laws_FnMatrices.l0 kq t615 x35_4 t501 t502 t503 t504 = some r) ∧ Az (kq ≤ kj536) ∧ Az (Kd.R k35 35 w' w.heap.size (fun k_ => k_ ≠ gb530 ∧ k_ ≠ gb534 ∧ k_ ≠ gb538 ∧ k_ ≠ gb554) v616 t615) ∧ Az (w'.heap[gb509]? = some (.cells #[.int .i64 t501, .int .i64 t502, .int .i64 t503, .int .i64 t504] 25 (0, 0))) ∧ Az (w'.heap[gb510]? = some (.cells #[.int .i64 t505, .int .i64 t506, .int .i64 t507, .int .i64 t508] 25 (0, 0))) ∧ Az (w'.heap[gb516]? = some (.cells #[.int .i64 t511, .int .i64 t512, .int .i64 t513, .int .i64 t514] 25 (0, 0))) ∧ Az (w'.heap[gb522]? = some (.cells #[.int .i64 t517, .int .i64 t518, .int .i64 t519, .int .i64 t520] 25 (0, 0))) ∧ Az (w'.heap[gb529]? = some (.cells #[.int .i64 t523, .int .i64 t524, .int .i64 t525, .int .i64 t526] 25 (0, 0))) ∧ Az (w'.heap[gb530]? = some (.cells #[.int .i64 t527, .int .i64 t528] 35 (0, 0))) ∧ Az (w'.heap[gb534]? = some (.cells #[.int .i64 t531, .int .i64 t532] 35 (0, 0))) ∧ Az (w'.heap[gb538]? = some (.cells #[.int .i64 t535, .int .i64 t536] 35 (0, 0))) ∧ Az (w'.heap[gb545]? = some (.cells #[.int .i64 t540, .int .i64 t541, .int .i64 t542, .int .i64 t543] 25 (0, 0))) ∧ Az (w'.heap[gb551]? = some (.cells #[.int .i64 t546, .int .i64 t547, .int .i64 t548, .int .i64 t549] 25 (0, 0))) ∧ Az (w'.heap[gb554]? = some (.cells #[.int .i64 t552, .int .i64 t553] 35 (0, 0))) ∧ Az (Below w.heap.size w w'))
 case atStart => exact ⟨(0), rq2, H', ⟨Nat.le_refl _⟩, ⟨by (with_reducible repeat (first | apply Kd.R_alloc | apply Kd.R_drewN | apply Kd.R_drew)); exact Kd.R_mono HO617.out (fun _ hk => ⟨hk.1.1.1.2, ⟨hk.1.1.2, ⟨hk.1.2, hk.2⟩⟩⟩)⟩, ⟨bk1 BK509⟩, ⟨bk1 BK510⟩, ⟨bk1 BK516⟩, ⟨bk1 BK522⟩, ⟨bk1 BK529⟩, ⟨bk1 BK530⟩, ⟨bk1 BK534⟩, ⟨bk1 BK538⟩, ⟨bk1 BK545⟩, ⟨bk1 BK551⟩, ⟨bk1 BK554⟩, ⟨bw_27⟩⟩
 clear H'
 try clear c614
 try clear hcz626_0
 try clear hcz626_1
 try clear hcz626_2
 try clear hcz626_3
 try clear hcz628_0
 try clear hcz628_1
 try clear hcz628_2
 try clear hcz628_3
 try clear hfz626_0
 try clear hfz626_1
 try clear hfz626_2
 try clear hfz626_3
 try clear hfz628_0
 try clear hfz628_1
 try clear hfz628_2
 try clear hfz628_3
 obtain ⟨x35_4, rfl, HA, HK4, HO_34, BK509, BK510, BK516, BK522, BK529, BK530, BK534, BK538, BK545, BK551, BK554, HB⟩ := hrel
 cases gk with
 | zero => exact absurd HA.out (by simp [laws_FnMatrices.l0])
 | succ k4 =>
  have H := HA.out
  clear HA
  simp only [laws_FnMatrices.l0] at H
  by_cases c630 : x35_4 < (t615.length : Int)
  ·rw [if_pos c630] at H
   have c630b0 : decide (x35_4 < (t615.length : Int)) = true := decide_eq_true c630
   clear c630
   by_cases c631 : 0 ≤ x35_4
   rotate_left
   ·rw [if_neg c631] at H
    exact absurd H (by simp)
   rw [if_pos c631] at H
   have c631b0 : decide (0 ≤ x35_4) = true := decide_eq_true c631
   clear c631
   replace H := bez H
   obtain ⟨⟨t619, t620, t621⟩, A632, H⟩ := H
   try dsimp only at H
   by_cases c633 : t621 = true
   rotate_left
   ·replace c633 := Bool.eq_false_iff.mpr c633
    subst c633
    rw [if_neg (show ¬ (false = true) by decide)] at H
    exact absurd H (by simp)
   subst c633
   rw [if_pos rfl] at H
   by_cases c634 : (!(t619 == ((rd_T35 t615 x35_4).f0)) || (!(t620 == ((rd_T35 t615 x35_4).f1)))) = true
   ·rw [if_pos c634] at H
    exact absurd H (by simp)
   rw [if_neg c634] at H
   have c634b0 : (!(t619 == ((rd_T35 t615 x35_4).f0)) || (!(t620 == ((rd_T35 t615 x35_4).f1)))) = false := by simpa using c634
   clear c634
   have H' := Az.mk H
   clear H
   obtain ⟨Ao635, co635, eo635⟩ := Kd.R_slice HO_34.out
   subst eo635
   try go_wp2
   replace HO_34 := Az.mk (Kd.R_drew HO_34.out); replace BK509 := Az.mk (bkD BK509.out); replace BK510 := Az.mk (bkD BK510.out); replace BK516 := Az.mk (bkD BK516.out); replace BK522 := Az.mk (bkD BK522.out); replace BK529 := Az.mk (bkD BK529.out); replace BK530 := Az.mk (bkD BK530.out); replace BK534 := Az.mk (bkD BK534.out); replace BK538 := Az.mk (bkD BK538.out); replace BK545 := Az.mk (bkD BK545.out); replace BK551 := Az.mk (bkD BK551.out); replace BK554 := Az.mk (bkD BK554.out); replace HB := Az.mk (bwD HB.out)
   have p618 : 0 ≤ (x35_4 : Int) := of_decide_eq_true (by first | (with_reducible assumption) | assumption)
   have q618 : x35_4 < (t615.length : Int) := of_decide_eq_true (by first | (with_reducible assumption) | assumption)
   obtain ⟨ad618, e618, hx618_0, hx618_1⟩ := at_T35 (Kd.R_reads' HO_34.out).2.2 x35_4 p618 q618
   cases e618
   replace p618 := eq_true p618
   replace q618 := eq_true q618
   refine start_ (n := 12) (S := fun w' => w'.cell? ⟨gb509, 0, none⟩ = some (.int .i64 t501) ∧ w'.cell? ⟨gb509, 1, none⟩ = some (.int .i64 t502) ∧ w'.cell? ⟨gb509, 2, none⟩ = some (.int .i64 t503) ∧ w'.cell? ⟨gb509, 3, none⟩ = some (.int .i64 t504) ∧ w'.cell? (ad618.add ((x35_4).toNat * 2)) = some (.int .i64 ((rd_T35 t615 x35_4).f0)) ∧ w'.cell? ⟨(ad618.add ((x35_4).toNat * 2)).block, (ad618.add ((x35_4).toNat * 2)).off + 1, none⟩ = some (.int .i64 ((rd_T35 t615 x35_4).f1))) (ds := []) #[F,F,F,F,F,F,F,F,F,F,F,F] z27_2 rfl rfl ⟨(bkC BK509.out 0).trans rfl, (bkC BK509.out 1).trans rfl, (bkC BK509.out 2).trans rfl, (bkC BK509.out 3).trans rfl, hx618_0, hx618_1⟩ (fun hHeld => ?_); refine with_tabW laws_FnMatrices.tab37 laws_FnMatrices.bits37 (fun HT_ HW_ => ?_)
   generalize wr.drew = w636 at HO_34 BK509 BK510 BK516 BK522 BK529 BK530 BK534 BK538 BK545 BK551 BK554 HB hx618_0 hx618_1 hHeld ⊢
   refine pu (i := 1) (N := some 266) #[F,T,F,F,F,F,F,F,F,F,F,F] (any_of HT_.out z27_2) ?_
   refine pu (i := 2) (N := some 267) #[F,T,T,F,F,F,F,F,F,F,F,F] (any_of HT_.out z27_2) ?_
   refine pu (i := 3) (N := some 268) #[F,T,T,T,F,F,F,F,F,F,F,F] (any_of HT_.out z27_2) ?_
   refine take_ (i := 0) (N := some 265) (v := ?_) (a' := ?_) #[T,T,T,T,F,F,F,F,F,F,F,F] rfl rfl (take_ofW HT_.out HW_.out z27_2) (fun _ _ _ h => h) (Or.inl ⟨by rfl, ?_⟩) hHeld ?_ ?_
   rotate_left
   ·rintro w' ⟨s0, s1, s2, s3, s4, s5⟩
    go_simp
    with_reducible rfl
   rotate_left
   ·exact acq
   refine take_ (i := 4) (N := some 269) (v := ?_) (a' := ?_) #[T,T,T,T,T,F,F,F,F,F,F,F] rfl rfl (take_ofW HT_.out HW_.out z27_2) (fun _ _ _ h => h) (Or.inl ⟨by rfl, ?_⟩) hHeld ?_ ?_
   rotate_left
   ·rintro w' ⟨s0, s1, s2, s3, s4, s5⟩
    go_simp
    with_reducible rfl
   rotate_left
   ·exact acq
   refine join_ (σ := Nat) 2 #[T,T,T,T,T,T,T,T,T,T,F,F] (fun s_ => [(270, .tuple #[.agg #[.int .i64 t619, .int .i64 t620], .bool true]), (36, .pointer (some ⟨s_, 0, none⟩)), (264, .tuple #[.agg #[.int .i64 t619, .int .i64 t620], .bool true]), (271, .agg #[.int .i64 t619, .int .i64 t620]), (272, .bool true)]) (fun s_ w' => (w'.cell? ⟨gb509, 0, none⟩ = some (.int .i64 t501) ∧ w'.cell? ⟨gb509, 1, none⟩ = some (.int .i64 t502) ∧ w'.cell? ⟨gb509, 2, none⟩ = some (.int .i64 t503) ∧ w'.cell? ⟨gb509, 3, none⟩ = some (.int .i64 t504) ∧ w'.cell? (ad618.add ((x35_4).toNat * 2)) = some (.int .i64 ((rd_T35 t615 x35_4).f0)) ∧ w'.cell? ⟨(ad618.add ((x35_4).toNat * 2)).block, (ad618.add ((x35_4).toNat * 2)).off + 1, none⟩ = some (.int .i64 ((rd_T35 t615 x35_4).f1))) ∧ (Kd.R k35 35 w' w.heap.size (fun k_ => k_ ≠ gb530 ∧ k_ ≠ gb534 ∧ k_ ≠ gb538 ∧ k_ ≠ gb554 ∧ k_ ≠ s_) (.slice (some ad618) t615.length co635) t615) ∧ (w'.heap[gb509]? = some (.cells #[.int .i64 t501, .int .i64 t502, .int .i64 t503, .int .i64 t504] 25 (0, 0))) ∧ (w'.heap[gb510]? = some (.cells #[.int .i64 t505, .int .i64 t506, .int .i64 t507, .int .i64 t508] 25 (0, 0))) ∧ (w'.heap[gb516]? = some (.cells #[.int .i64 t511, .int .i64 t512, .int .i64 t513, .int .i64 t514] 25 (0, 0))) ∧ (w'.heap[gb522]? = some (.cells #[.int .i64 t517, .int .i64 t518, .int .i64 t519, .int .i64 t520] 25 (0, 0))) ∧ (w'.heap[gb529]? = some (.cells #[.int .i64 t523, .int .i64 t524, .int .i64 t525, .int .i64 t526] 25 (0, 0))) ∧ (w'.heap[gb530]? = some (.cells #[.int .i64 t527, .int .i64 t528] 35 (0, 0))) ∧ (w'.heap[gb534]? = some (.cells #[.int .i64 t531, .int .i64 t532] 35 (0, 0))) ∧ (w'.heap[gb538]? = some (.cells #[.int .i64 t535, .int .i64 t536] 35 (0, 0))) ∧ (w'.heap[gb545]? = some (.cells #[.int .i64 t540, .int .i64 t541, .int .i64 t542, .int .i64 t543] 25 (0, 0))) ∧ (w'.heap[gb551]? = some (.cells #[.int .i64 t546, .int .i64 t547, .int .i64 t548, .int .i64 t549] 25 (0, 0))) ∧ (w'.heap[gb554]? = some (.cells #[.int .i64 t552, .int .i64 t553] 35 (0, 0))) ∧ (w'.heap[s_]? = some (.cells #[.int .i64 0, .int .i64 0] 35 (0, 0))) ∧ (w.heap.size ≤ s_) ∧ (w.heap.size ≤ s_) ∧ (gb509 ≠ s_) ∧ (s_ ≠ gb509) ∧ (gb510 ≠ s_) ∧ (s_ ≠ gb510) ∧ (gb516 ≠ s_) ∧ (s_ ≠ gb516) ∧ (gb522 ≠ s_) ∧ (s_ ≠ gb522) ∧ (gb529 ≠ s_) ∧ (s_ ≠ gb529) ∧ (gb530 ≠ s_) ∧ (s_ ≠ gb530) ∧ (gb534 ≠ s_) ∧ (s_ ≠ gb534) ∧ (gb538 ≠ s_) ∧ (s_ ≠ gb538) ∧ (gb545 ≠ s_) ∧ (s_ ≠ gb545) ∧ (gb551 ≠ s_) ∧ (s_ ≠ gb551) ∧ (gb554 ≠ s_) ∧ (s_ ≠ gb554) ∧ (Below w.heap.size w w')) ?_ ?_
   rotate_left
   ·intro hCont
    refine two_ (i := 5) (j := 9) (Ni := some 270) (Nj := some 36) #[T,T,T,T,T,T,F,F,F,F,F,F] #[T,T,T,T,T,F,F,F,F,T,F,F] rfl rfl rfl rfl (two_of HT_.out z27_2) (by decide) (by decide) (fun K hK => ?_) (fun K hK => ?_)
    ·skip
     refine goes_ Tryd.func13 z27_2 rfl #[.agg #[.int .i64 t501, .int .i64 t502, .int .i64 t503, .int .i64 t504], .agg #[.int .i64 ((rd_T35 t615 x35_4).f0), .int .i64 ((rd_T35 t615 x35_4).f1)]] (by rfl) rfl rfl ln_27 ?_
     with_reducible refine (impl_MoveSlope.calls k4 t501 t502 t503 t504 ((rd_T35 t615 x35_4).f0) ((rd_T35 t615 x35_4).f1) t619 t620 true _ A632.out).mono ?_
     rintro e w637 ⟨rfl, hb⟩
     have HS4_ := (hb.cell (World.block_lt_of_cell? _ _ (hHeld.2.2.2.2.1))).trans (hHeld.2.2.2.2.1)
     have HS5_ := (hb.cell (World.block_lt_of_cell? _ _ (hHeld.2.2.2.2.2))).trans (hHeld.2.2.2.2.2)
     refine ⟨_, rfl, ?_⟩
     replace HO_34 := Az.mk (Kd.R_below z27_0 hb); replace BK509 := bkz BK509 hb; replace BK510 := bkz BK510 hb; replace BK516 := bkz BK516 hb; replace BK522 := bkz BK522 hb; replace BK529 := bkz BK529 hb; replace BK530 := bkz BK530 hb; replace BK534 := bkz BK534 hb; replace BK538 := bkz BK538 hb; replace BK545 := bkz BK545 hb; replace BK551 := bkz BK551 hb; replace BK554 := bkz BK554 hb; replace HB := Az.mk (bwT bw_27 hb)
     (try clear hb)
     (try clear hb2)
     (try clear hk)
     (try clear hi)
     refine hK.out _ _ ⟨(bkC BK509.out 0).trans rfl, (bkC BK509.out 1).trans rfl, (bkC BK509.out 2).trans rfl, (bkC BK509.out 3).trans rfl, HS4_, HS5_⟩ (fun hHeld => ?_)
     clear hK K
     refine norm_ (a' := ?_) ?_ ?_
     rotate_left
     ·show Act.put _ (some 270) _ = _
      exact acq
     refine pu (i := 6) (N := some 264) #[T,T,T,T,T,T,T,F,F,F,F,F] (any_of HT_.out z27_2) ?_
     refine pu (i := 7) (N := some 271) #[T,T,T,T,T,T,T,T,F,F,F,F] (any_of HT_.out z27_2) ?_
     refine pu (i := 8) (N := some 272) #[T,T,T,T,T,T,T,T,T,F,F,F] (any_of HT_.out z27_2) ?_
     refine one_ (i := 9) (N := some 36) #[T,T,T,T,T,T,T,T,T,T,F,F] rfl rfl (one_of HT_.out z27_2) (by decide) (fun K hK => ?_)
     refine box_step ?hg (N := 36) ?hd (cs := #[.int .i64 0, .int .i64 0]) (t := 35) ?hr ?_; (case hd => rfl); (case hg => rfl); (case hr => first | (go_simp; done) | (go_simp; rfl))
     intro gb622 hg w638 hbox hb
     have HS4_ := (hb.cell (World.block_lt_of_cell? _ _ (hHeld.2.2.2.2.1))).trans (hHeld.2.2.2.2.1)
     have HS5_ := (hb.cell (World.block_lt_of_cell? _ _ (hHeld.2.2.2.2.2))).trans (hHeld.2.2.2.2.2)
     replace HO_34 := Az.mk (Kd.R_below (Kd.R_elderB z27_0 gb622 (Nat.le_of_eq hg.symm)) hb); have BK622 := Az.mk (hbox); have GW622 := gwz hg bw_27; have GE622 := gwz hg bw_27; replace HB := Az.mk (bwT bw_27 hb); have NB509_622 := nlt BK509 hg; have NB622_509 := ngt BK509 hg; replace BK509 := bkz BK509 hb; have NB510_622 := nlt BK510 hg; have NB622_510 := ngt BK510 hg; replace BK510 := bkz BK510 hb; have NB516_622 := nlt BK516 hg; have NB622_516 := ngt BK516 hg; replace BK516 := bkz BK516 hb; have NB522_622 := nlt BK522 hg; have NB622_522 := ngt BK522 hg; replace BK522 := bkz BK522 hb; have NB529_622 := nlt BK529 hg; have NB622_529 := ngt BK529 hg; replace BK529 := bkz BK529 hb; have NB530_622 := nlt BK530 hg; have NB622_530 := ngt BK530 hg; replace BK530 := bkz BK530 hb; have NB534_622 := nlt BK534 hg; have NB622_534 := ngt BK534 hg; replace BK534 := bkz BK534 hb; have NB538_622 := nlt BK538 hg; have NB622_538 := ngt BK538 hg; replace BK538 := bkz BK538 hb; have NB545_622 := nlt BK545 hg; have NB622_545 := ngt BK545 hg; replace BK545 := bkz BK545 hb; have NB551_622 := nlt BK551 hg; have NB622_551 := ngt BK551 hg; replace BK551 := bkz BK551 hb; have NB554_622 := nlt BK554 hg; have NB622_554 := ngt BK554 hg; replace BK554 := bkz BK554 hb
     clear hb hbox hg
     refine hK.out _ _ ⟨(bkC BK509.out 0).trans rfl, (bkC BK509.out 1).trans rfl, (bkC BK509.out 2).trans rfl, (bkC BK509.out 3).trans rfl, HS4_, HS5_⟩ (fun hHeld => ?_)
     clear hK K
     refine norm_ (a' := ?_) ?_ ?_
     rotate_left
     ·show Act.put _ (some 36) _ = _
      exact acq
     exact norm_ z27_3 (hCont (gb622) _ ⟨hHeld, (by (with_reducible repeat (first | apply Kd.R_alloc | apply Kd.R_drewN | apply Kd.R_drew)); exact Kd.R_mono HO_34.out (fun _ hk => ⟨hk.1.1, ⟨hk.1.2.1, ⟨hk.1.2.2.1, ⟨hk.1.2.2.2, hk.2⟩⟩⟩⟩)), (bk1 BK509), (bk1 BK510), (bk1 BK516), (bk1 BK522), (bk1 BK529), (bk1 BK530), (bk1 BK534), (bk1 BK538), (bk1 BK545), (bk1 BK551), (bk1 BK554), (bk1 BK622), GW622.out, GE622.out, NB509_622.out, NB622_509.out, NB510_622.out, NB622_510.out, NB516_622.out, NB622_516.out, NB522_622.out, NB622_522.out, NB529_622.out, NB622_529.out, NB530_622.out, NB622_530.out, NB534_622.out, NB622_534.out, NB538_622.out, NB622_538.out, NB545_622.out, NB622_545.out, NB551_622.out, NB622_551.out, NB554_622.out, NB622_554.out, bw_27⟩)
    skip
    refine box_step ?hg (N := 36) ?hd (cs := #[.int .i64 0, .int .i64 0]) (t := 35) ?hr ?_; (case hd => rfl); (case hg => rfl); (case hr => first | (go_simp; done) | (go_simp; rfl))
    intro gb622 hg w637 hbox hb
    have HS4_ := (hb.cell (World.block_lt_of_cell? _ _ (hHeld.2.2.2.2.1))).trans (hHeld.2.2.2.2.1)
    have HS5_ := (hb.cell (World.block_lt_of_cell? _ _ (hHeld.2.2.2.2.2))).trans (hHeld.2.2.2.2.2)
    replace HO_34 := Az.mk (Kd.R_below (Kd.R_elderB z27_0 gb622 (Nat.le_of_eq hg.symm)) hb); have BK622 := Az.mk (hbox); have GW622 := gwz hg bw_27; have GE622 := gwz hg bw_27; replace HB := Az.mk (bwT bw_27 hb); have NB509_622 := nlt BK509 hg; have NB622_509 := ngt BK509 hg; replace BK509 := bkz BK509 hb; have NB510_622 := nlt BK510 hg; have NB622_510 := ngt BK510 hg; replace BK510 := bkz BK510 hb; have NB516_622 := nlt BK516 hg; have NB622_516 := ngt BK516 hg; replace BK516 := bkz BK516 hb; have NB522_622 := nlt BK522 hg; have NB622_522 := ngt BK522 hg; replace BK522 := bkz BK522 hb; have NB529_622 := nlt BK529 hg; have NB622_529 := ngt BK529 hg; replace BK529 := bkz BK529 hb; have NB530_622 := nlt BK530 hg; have NB622_530 := ngt BK530 hg; replace BK530 := bkz BK530 hb; have NB534_622 := nlt BK534 hg; have NB622_534 := ngt BK534 hg; replace BK534 := bkz BK534 hb; have NB538_622 := nlt BK538 hg; have NB622_538 := ngt BK538 hg; replace BK538 := bkz BK538 hb; have NB545_622 := nlt BK545 hg; have NB622_545 := ngt BK545 hg; replace BK545 := bkz BK545 hb; have NB551_622 := nlt BK551 hg; have NB622_551 := ngt BK551 hg; replace BK551 := bkz BK551 hb; have NB554_622 := nlt BK554 hg; have NB622_554 := ngt BK554 hg; replace BK554 := bkz BK554 hb
    clear hb hbox hg
    refine hK.out _ _ ⟨(bkC BK509.out 0).trans rfl, (bkC BK509.out 1).trans rfl, (bkC BK509.out 2).trans rfl, (bkC BK509.out 3).trans rfl, HS4_, HS5_⟩ (fun hHeld => ?_)
    clear hK K
    refine norm_ (a' := ?_) ?_ ?_
    rotate_left
    ·show Act.put _ (some 36) _ = _
     exact acq
    refine one_ (i := 5) (N := some 270) #[T,T,T,T,T,T,F,F,F,T,F,F] rfl rfl (one_of HT_.out z27_2) (by decide) (fun K hK => ?_)
    refine goes_ Tryd.func13 z27_2 rfl #[.agg #[.int .i64 t501, .int .i64 t502, .int .i64 t503, .int .i64 t504], .agg #[.int .i64 ((rd_T35 t615 x35_4).f0), .int .i64 ((rd_T35 t615 x35_4).f1)]] (by rfl) rfl rfl ln_27 ?_
    with_reducible refine (impl_MoveSlope.calls k4 t501 t502 t503 t504 ((rd_T35 t615 x35_4).f0) ((rd_T35 t615 x35_4).f1) t619 t620 true _ A632.out).mono ?_
    rintro e w638 ⟨rfl, hb⟩
    have HS4_ := (hb.cell (World.block_lt_of_cell? _ _ (hHeld.2.2.2.2.1))).trans (hHeld.2.2.2.2.1)
    have HS5_ := (hb.cell (World.block_lt_of_cell? _ _ (hHeld.2.2.2.2.2))).trans (hHeld.2.2.2.2.2)
    refine ⟨_, rfl, ?_⟩
    replace HO_34 := Az.mk (Kd.R_below z27_0 hb); replace BK509 := bkz BK509 hb; replace BK510 := bkz BK510 hb; replace BK516 := bkz BK516 hb; replace BK522 := bkz BK522 hb; replace BK529 := bkz BK529 hb; replace BK530 := bkz BK530 hb; replace BK534 := bkz BK534 hb; replace BK538 := bkz BK538 hb; replace BK545 := bkz BK545 hb; replace BK551 := bkz BK551 hb; replace BK554 := bkz BK554 hb; replace BK622 := bkz BK622 hb; replace HB := Az.mk (bwT bw_27 hb)
    (try clear hb)
    (try clear hb2)
    (try clear hk)
    (try clear hi)
    refine hK.out _ _ ⟨(bkC BK509.out 0).trans rfl, (bkC BK509.out 1).trans rfl, (bkC BK509.out 2).trans rfl, (bkC BK509.out 3).trans rfl, HS4_, HS5_⟩ (fun hHeld => ?_)
    clear hK K
    refine norm_ (a' := ?_) ?_ ?_
    rotate_left
    ·show Act.put _ (some 270) _ = _
     exact acq
    refine pu (i := 6) (N := some 264) #[T,T,T,T,T,T,T,F,F,T,F,F] (any_of HT_.out z27_2) ?_
    refine pu (i := 7) (N := some 271) #[T,T,T,T,T,T,T,T,F,T,F,F] (any_of HT_.out z27_2) ?_
    refine pu (i := 8) (N := some 272) #[T,T,T,T,T,T,T,T,T,T,F,F] (any_of HT_.out z27_2) ?_
    exact norm_ z27_3 (hCont (gb622) _ ⟨hHeld, (by (with_reducible repeat (first | apply Kd.R_alloc | apply Kd.R_drewN | apply Kd.R_drew)); exact Kd.R_mono HO_34.out (fun _ hk => ⟨hk.1.1, ⟨hk.1.2.1, ⟨hk.1.2.2.1, ⟨hk.1.2.2.2, hk.2⟩⟩⟩⟩)), (bk1 BK509), (bk1 BK510), (bk1 BK516), (bk1 BK522), (bk1 BK529), (bk1 BK530), (bk1 BK534), (bk1 BK538), (bk1 BK545), (bk1 BK551), (bk1 BK554), (bk1 BK622), GW622.out, GE622.out, NB509_622.out, NB622_509.out, NB510_622.out, NB622_510.out, NB516_622.out, NB622_516.out, NB522_622.out, NB622_522.out, NB529_622.out, NB622_529.out, NB530_622.out, NB622_530.out, NB534_622.out, NB622_534.out, NB538_622.out, NB622_538.out, NB545_622.out, NB622_545.out, NB551_622.out, NB622_551.out, NB554_622.out, NB622_554.out, bw_27⟩)
   rintro gb622 w639 ⟨hS_, h0_, h1_, h2_, h3_, h4_, h5_, h6_, h7_, h8_, h9_, h10_, h11_, h12_, h13_, h14_, h15_, h16_, h17_, h18_, h19_, h20_, h21_, h22_, h23_, h24_, h25_, h26_, h27_, h28_, h29_, h30_, h31_, h32_, h33_, h34_, h35_, h36_, h37_⟩
   have n0_ : Az (Kd.R k35 35 w639 w.heap.size (fun k_ => k_ ≠ gb530 ∧ k_ ≠ gb534 ∧ k_ ≠ gb538 ∧ k_ ≠ gb554 ∧ k_ ≠ gb622) (.slice (some ad618) t615.length co635) t615) := ⟨h0_⟩
   have n1_ : Az (w639.heap[gb509]? = some (.cells #[.int .i64 t501, .int .i64 t502, .int .i64 t503, .int .i64 t504] 25 (0, 0))) := ⟨h1_⟩
   have n2_ : Az (w639.heap[gb510]? = some (.cells #[.int .i64 t505, .int .i64 t506, .int .i64 t507, .int .i64 t508] 25 (0, 0))) := ⟨h2_⟩
   have n3_ : Az (w639.heap[gb516]? = some (.cells #[.int .i64 t511, .int .i64 t512, .int .i64 t513, .int .i64 t514] 25 (0, 0))) := ⟨h3_⟩
   have n4_ : Az (w639.heap[gb522]? = some (.cells #[.int .i64 t517, .int .i64 t518, .int .i64 t519, .int .i64 t520] 25 (0, 0))) := ⟨h4_⟩
   have n5_ : Az (w639.heap[gb529]? = some (.cells #[.int .i64 t523, .int .i64 t524, .int .i64 t525, .int .i64 t526] 25 (0, 0))) := ⟨h5_⟩
   have n6_ : Az (w639.heap[gb530]? = some (.cells #[.int .i64 t527, .int .i64 t528] 35 (0, 0))) := ⟨h6_⟩
   have n7_ : Az (w639.heap[gb534]? = some (.cells #[.int .i64 t531, .int .i64 t532] 35 (0, 0))) := ⟨h7_⟩
   have n8_ : Az (w639.heap[gb538]? = some (.cells #[.int .i64 t535, .int .i64 t536] 35 (0, 0))) := ⟨h8_⟩
   have n9_ : Az (w639.heap[gb545]? = some (.cells #[.int .i64 t540, .int .i64 t541, .int .i64 t542, .int .i64 t543] 25 (0, 0))) := ⟨h9_⟩
   have n10_ : Az (w639.heap[gb551]? = some (.cells #[.int .i64 t546, .int .i64 t547, .int .i64 t548, .int .i64 t549] 25 (0, 0))) := ⟨h10_⟩
   have n11_ : Az (w639.heap[gb554]? = some (.cells #[.int .i64 t552, .int .i64 t553] 35 (0, 0))) := ⟨h11_⟩
   have n12_ : Az (w639.heap[gb622]? = some (.cells #[.int .i64 0, .int .i64 0] 35 (0, 0))) := ⟨h12_⟩
   have n13_ : Az (w.heap.size ≤ gb622) := ⟨h13_⟩
   have n14_ : Az (w.heap.size ≤ gb622) := ⟨h14_⟩
   have n15_ : Az (gb509 ≠ gb622) := ⟨h15_⟩
   have n16_ : Az (gb622 ≠ gb509) := ⟨h16_⟩
   have n17_ : Az (gb510 ≠ gb622) := ⟨h17_⟩
   have n18_ : Az (gb622 ≠ gb510) := ⟨h18_⟩
   have n19_ : Az (gb516 ≠ gb622) := ⟨h19_⟩
   have n20_ : Az (gb622 ≠ gb516) := ⟨h20_⟩
   have n21_ : Az (gb522 ≠ gb622) := ⟨h21_⟩
   have n22_ : Az (gb622 ≠ gb522) := ⟨h22_⟩
   have n23_ : Az (gb529 ≠ gb622) := ⟨h23_⟩
   have n24_ : Az (gb622 ≠ gb529) := ⟨h24_⟩
   have n25_ : Az (gb530 ≠ gb622) := ⟨h25_⟩
   have n26_ : Az (gb622 ≠ gb530) := ⟨h26_⟩
   have n27_ : Az (gb534 ≠ gb622) := ⟨h27_⟩
   have n28_ : Az (gb622 ≠ gb534) := ⟨h28_⟩
   have n29_ : Az (gb538 ≠ gb622) := ⟨h29_⟩
   have n30_ : Az (gb622 ≠ gb538) := ⟨h30_⟩
   have n31_ : Az (gb545 ≠ gb622) := ⟨h31_⟩
   have n32_ : Az (gb622 ≠ gb545) := ⟨h32_⟩
   have n33_ : Az (gb551 ≠ gb622) := ⟨h33_⟩
   have n34_ : Az (gb622 ≠ gb551) := ⟨h34_⟩
   have n35_ : Az (gb554 ≠ gb622) := ⟨h35_⟩
   have n36_ : Az (gb622 ≠ gb554) := ⟨h36_⟩
   have n37_ : Az (Below w.heap.size w w639) := ⟨h37_⟩
   clear HO_34
   clear BK509
   clear BK510
   clear BK516
   clear BK522
   clear BK529
   clear BK530
   clear BK534
   clear BK538
   clear BK545
   clear BK551
   clear BK554
   clear HB
   clear h0_ h1_ h2_ h3_ h4_ h5_ h6_ h7_ h8_ h9_ h10_ h11_ h12_ h13_ h14_ h15_ h16_ h17_ h18_ h19_ h20_ h21_ h22_ h23_ h24_ h25_ h26_ h27_ h28_ h29_ h30_ h31_ h32_ h33_ h34_ h35_ h36_ h37_
   have HO_34 := n0_
   have BK509 := n1_
   have BK510 := n2_
   have BK516 := n3_
   have BK522 := n4_
   have BK529 := n5_
   have BK530 := n6_
   have BK534 := n7_
   have BK538 := n8_
   have BK545 := n9_
   have BK551 := n10_
   have BK554 := n11_
   have BK622 := n12_
   have GW622 := n13_
   have GE622 := n14_
   have NB509_622 := n15_
   have NB622_509 := n16_
   have NB510_622 := n17_
   have NB622_510 := n18_
   have NB516_622 := n19_
   have NB622_516 := n20_
   have NB522_622 := n21_
   have NB622_522 := n22_
   have NB529_622 := n23_
   have NB622_529 := n24_
   have NB530_622 := n25_
   have NB622_530 := n26_
   have NB534_622 := n27_
   have NB622_534 := n28_
   have NB538_622 := n29_
   have NB622_538 := n30_
   have NB545_622 := n31_
   have NB622_545 := n32_
   have NB551_622 := n33_
   have NB622_551 := n34_
   have NB554_622 := n35_
   have NB622_554 := n36_
   have HB := n37_
   clear n0_ n1_ n2_ n3_ n4_ n5_ n6_ n7_ n8_ n9_ n10_ n11_ n12_ n13_ n14_ n15_ n16_ n17_ n18_ n19_ n20_ n21_ n22_ n23_ n24_ n25_ n26_ n27_ n28_ n29_ n30_ n31_ n32_ n33_ n34_ n35_ n36_ n37_
   have hHeld : w639.cell? ⟨gb509, 0, none⟩ = some (.int .i64 t501) ∧ w639.cell? ⟨gb509, 1, none⟩ = some (.int .i64 t502) ∧ w639.cell? ⟨gb509, 2, none⟩ = some (.int .i64 t503) ∧ w639.cell? ⟨gb509, 3, none⟩ = some (.int .i64 t504) ∧ w639.cell? (ad618.add ((x35_4).toNat * 2)) = some (.int .i64 ((rd_T35 t615 x35_4).f0)) ∧ w639.cell? ⟨(ad618.add ((x35_4).toNat * 2)).block, (ad618.add ((x35_4).toNat * 2)).off + 1, none⟩ = some (.int .i64 ((rd_T35 t615 x35_4).f1)) := hS_
   refine norm_ (a' := ?_) ?_ ?_
   rotate_left
   ·simp only [putAll, Act.put, List.setIfInBounds_toArray, List.set_cons_zero, List.set_cons_succ]
    rfl
   refine one_ (i := 10) (N := none) #[T,T,T,T,T,T,T,T,T,T,T,F] rfl rfl (one_of HT_.out z27_2) (by decide) (fun K hK => ?_)
   have hs640 := bkc0 BK622
   have hfs640 := bkF BK622.out 0
   have hns640_0 := NB509_622.out
   have hns640_1 := NB510_622.out
   have hns640_2 := NB516_622.out
   have hns640_3 := NB522_622.out
   have hns640_4 := NB529_622.out
   have hns640_5 := NB530_622.out
   have hns640_6 := NB534_622.out
   have hns640_7 := NB538_622.out
   have hns640_8 := NB545_622.out
   have hns640_9 := NB551_622.out
   have hns640_10 := NB554_622.out
   have hms640_0 := NB622_509.out
   have hms640_1 := NB622_510.out
   have hms640_2 := NB622_516.out
   have hms640_3 := NB622_522.out
   have hms640_4 := NB622_529.out
   have hms640_5 := NB622_530.out
   have hms640_6 := NB622_534.out
   have hms640_7 := NB622_538.out
   have hms640_8 := NB622_545.out
   have hms640_9 := NB622_551.out
   have hms640_10 := NB622_554.out
   have hs641 := bkc1 BK622
   have hfs641 := bkF BK622.out 1
   have hns641_0 := NB509_622.out
   have hns641_1 := NB510_622.out
   have hns641_2 := NB516_622.out
   have hns641_3 := NB522_622.out
   have hns641_4 := NB529_622.out
   have hns641_5 := NB530_622.out
   have hns641_6 := NB534_622.out
   have hns641_7 := NB538_622.out
   have hns641_8 := NB545_622.out
   have hns641_9 := NB551_622.out
   have hns641_10 := NB554_622.out
   have hms641_0 := NB622_509.out
   have hms641_1 := NB622_510.out
   have hms641_2 := NB622_516.out
   have hms641_3 := NB622_522.out
   have hms641_4 := NB622_529.out
   have hms641_5 := NB622_530.out
   have hms641_6 := NB622_534.out
   have hms641_7 := NB622_538.out
   have hms641_8 := NB622_545.out
   have hms641_9 := NB622_551.out
   have hms641_10 := NB622_554.out
   refine skip_ (w1 := ?_) (by rfl) rfl ?_ ?_
   rotate_left
   ·go_simp
    rfl
   refine hK.out _ _ ⟨((cell_far (p := ⟨gb622, _, none⟩) NB509_622.out _).trans (((cell_far (p := ⟨gb622, _, none⟩) NB509_622.out _).trans (hHeld.1)))), ((cell_far (p := ⟨gb622, _, none⟩) NB509_622.out _).trans (((cell_far (p := ⟨gb622, _, none⟩) NB509_622.out _).trans (hHeld.2.1)))), ((cell_far (p := ⟨gb622, _, none⟩) NB509_622.out _).trans (((cell_far (p := ⟨gb622, _, none⟩) NB509_622.out _).trans (hHeld.2.2.1)))), ((cell_far (p := ⟨gb622, _, none⟩) NB509_622.out _).trans (((cell_far (p := ⟨gb622, _, none⟩) NB509_622.out _).trans (hHeld.2.2.2.1)))), ((cell_far (p := ⟨gb622, _, none⟩) z27_1 _).trans (((cell_far (p := ⟨gb622, _, none⟩) z27_1 _).trans (hHeld.2.2.2.2.1)))), ((cell_far (p := ⟨gb622, _, none⟩) z27_1 _).trans (((cell_far (p := ⟨gb622, _, none⟩) z27_1 _).trans (hHeld.2.2.2.2.2))))⟩ (fun hHeld => ?_)
   clear hK K
   refine pu (i := 11) (N := some 37) #[T,T,T,T,T,T,T,T,T,T,T,T] (any_of HT_.out z27_2) ?_
   refine done_ (done_of HT_.out z27_2) ?_
   try go_wp2
   have n0_ : Az (Kd.R k35 35 ((w639.setCell ⟨gb622, 0, none⟩ (.int .i64 t619)).setCell ⟨gb622, 1, none⟩ (.int .i64 t620)) w.heap.size (fun k_ => k_ ≠ gb530 ∧ k_ ≠ gb534 ∧ k_ ≠ gb538 ∧ k_ ≠ gb554 ∧ k_ ≠ gb622) (.slice (some ad618) t615.length co635) t615) := ⟨by (with_reducible repeat (first | apply Kd.R_alloc | apply Kd.R_drewN | apply Kd.R_drew)); exact Kd.R_mono (Kd.R_far (p := ⟨gb622, 1, none⟩) (Kd.R_far (p := ⟨gb622, 0, none⟩) (Kd.R_mono HO_34.out (fun k_ hk => (⟨hk, hk.2.2.2.2⟩ : _ ∧ k_ ≠ gb622))) (fun _ hk => hk.2) (.int .i64 t619)) (fun _ hk => hk.2) (.int .i64 t620)) (fun _ hk => ⟨hk.1.1, ⟨hk.1.2.1, ⟨hk.1.2.2.1, ⟨hk.1.2.2.2.1, hk.1.2.2.2.2⟩⟩⟩⟩)⟩
   have n1_ : Az (((w639.setCell ⟨gb622, 0, none⟩ (.int .i64 t619)).setCell ⟨gb622, 1, none⟩ (.int .i64 t620)).heap[gb509]? = some (.cells #[.int .i64 t501, .int .i64 t502, .int .i64 t503, .int .i64 t504] 25 (0, 0))) := ⟨bkv⟩
   have n2_ : Az (((w639.setCell ⟨gb622, 0, none⟩ (.int .i64 t619)).setCell ⟨gb622, 1, none⟩ (.int .i64 t620)).heap[gb510]? = some (.cells #[.int .i64 t505, .int .i64 t506, .int .i64 t507, .int .i64 t508] 25 (0, 0))) := ⟨bkv⟩
   have n3_ : Az (((w639.setCell ⟨gb622, 0, none⟩ (.int .i64 t619)).setCell ⟨gb622, 1, none⟩ (.int .i64 t620)).heap[gb516]? = some (.cells #[.int .i64 t511, .int .i64 t512, .int .i64 t513, .int .i64 t514] 25 (0, 0))) := ⟨bkv⟩
   have n4_ : Az (((w639.setCell ⟨gb622, 0, none⟩ (.int .i64 t619)).setCell ⟨gb622, 1, none⟩ (.int .i64 t620)).heap[gb522]? = some (.cells #[.int .i64 t517, .int .i64 t518, .int .i64 t519, .int .i64 t520] 25 (0, 0))) := ⟨bkv⟩
   have n5_ : Az (((w639.setCell ⟨gb622, 0, none⟩ (.int .i64 t619)).setCell ⟨gb622, 1, none⟩ (.int .i64 t620)).heap[gb529]? = some (.cells #[.int .i64 t523, .int .i64 t524, .int .i64 t525, .int .i64 t526] 25 (0, 0))) := ⟨bkv⟩
   have n6_ : Az (((w639.setCell ⟨gb622, 0, none⟩ (.int .i64 t619)).setCell ⟨gb622, 1, none⟩ (.int .i64 t620)).heap[gb530]? = some (.cells #[.int .i64 t527, .int .i64 t528] 35 (0, 0))) := ⟨bkv⟩
   have n7_ : Az (((w639.setCell ⟨gb622, 0, none⟩ (.int .i64 t619)).setCell ⟨gb622, 1, none⟩ (.int .i64 t620)).heap[gb534]? = some (.cells #[.int .i64 t531, .int .i64 t532] 35 (0, 0))) := ⟨bkv⟩
   have n8_ : Az (((w639.setCell ⟨gb622, 0, none⟩ (.int .i64 t619)).setCell ⟨gb622, 1, none⟩ (.int .i64 t620)).heap[gb538]? = some (.cells #[.int .i64 t535, .int .i64 t536] 35 (0, 0))) := ⟨bkv⟩
   have n9_ : Az (((w639.setCell ⟨gb622, 0, none⟩ (.int .i64 t619)).setCell ⟨gb622, 1, none⟩ (.int .i64 t620)).heap[gb545]? = some (.cells #[.int .i64 t540, .int .i64 t541, .int .i64 t542, .int .i64 t543] 25 (0, 0))) := ⟨bkv⟩
   have n10_ : Az (((w639.setCell ⟨gb622, 0, none⟩ (.int .i64 t619)).setCell ⟨gb622, 1, none⟩ (.int .i64 t620)).heap[gb551]? = some (.cells #[.int .i64 t546, .int .i64 t547, .int .i64 t548, .int .i64 t549] 25 (0, 0))) := ⟨bkv⟩
   have n11_ : Az (((w639.setCell ⟨gb622, 0, none⟩ (.int .i64 t619)).setCell ⟨gb622, 1, none⟩ (.int .i64 t620)).heap[gb554]? = some (.cells #[.int .i64 t552, .int .i64 t553] 35 (0, 0))) := ⟨bkv⟩
   have n12_ : Az (((w639.setCell ⟨gb622, 0, none⟩ (.int .i64 t619)).setCell ⟨gb622, 1, none⟩ (.int .i64 t620)).heap[gb622]? = some (.cells #[.int .i64 t619, .int .i64 t620] 35 (0, 0))) := ⟨bkv⟩
   have n13_ : Az (Below w.heap.size w ((w639.setCell ⟨gb622, 0, none⟩ (.int .i64 t619)).setCell ⟨gb622, 1, none⟩ (.int .i64 t620))) := ⟨bw_27⟩
   (try clear HO_34)
   (try clear BK509)
   (try clear BK510)
   (try clear BK516)
   (try clear BK522)
   (try clear BK529)
   (try clear BK530)
   (try clear BK534)
   (try clear BK538)
   (try clear BK545)
   (try clear BK551)
   (try clear BK554)
   (try clear BK622)
   (try clear HB)
   generalize ((w639.setCell ⟨gb622, 0, none⟩ (.int .i64 t619)).setCell ⟨gb622, 1, none⟩ (.int .i64 t620)) = w642 at n0_ n1_ n2_ n3_ n4_ n5_ n6_ n7_ n8_ n9_ n10_ n11_ n12_ n13_ ⊢
   have HO_34 := n0_
   have BK509 := n1_
   have BK510 := n2_
   have BK516 := n3_
   have BK522 := n4_
   have BK529 := n5_
   have BK530 := n6_
   have BK534 := n7_
   have BK538 := n8_
   have BK545 := n9_
   have BK551 := n10_
   have BK554 := n11_
   have BK622 := n12_
   have HB := n13_
   clear n0_ n1_ n2_ n3_ n4_ n5_ n6_ n7_ n8_ n9_ n10_ n11_ n12_ n13_
   replace HO_34 := Az.mk (Kd.R_drew HO_34.out); replace BK509 := Az.mk (bkD BK509.out); replace BK510 := Az.mk (bkD BK510.out); replace BK516 := Az.mk (bkD BK516.out); replace BK522 := Az.mk (bkD BK522.out); replace BK529 := Az.mk (bkD BK529.out); replace BK530 := Az.mk (bkD BK530.out); replace BK534 := Az.mk (bkD BK534.out); replace BK538 := Az.mk (bkD BK538.out); replace BK545 := Az.mk (bkD BK545.out); replace BK551 := Az.mk (bkD BK551.out); replace BK554 := Az.mk (bkD BK554.out); replace BK622 := Az.mk (bkD BK622.out); replace HB := Az.mk (bwD HB.out)
   have p623 : 0 ≤ (x35_4 : Int) := of_decide_eq_true (by first | (with_reducible assumption) | assumption)
   have q623 : x35_4 < (t615.length : Int) := of_decide_eq_true (by first | (with_reducible assumption) | assumption)
   obtain ⟨ad623, e623, hx623_0, hx623_1⟩ := at_T35 (Kd.R_reads' HO_34.out).2.2 x35_4 p623 q623
   obtain rfl : ad618 = ad623 := (by injection e623)
   replace p623 := eq_true p623
   replace q623 := eq_true q623
   refine start_ (n := 10) (S := fun w' => w'.cell? ⟨gb622, 0, none⟩ = some (.int .i64 t619) ∧ w'.cell? ⟨gb622, 1, none⟩ = some (.int .i64 t620) ∧ w'.cell? (ad618.add ((x35_4).toNat * 2)) = some (.int .i64 ((rd_T35 t615 x35_4).f0)) ∧ w'.cell? ⟨(ad618.add ((x35_4).toNat * 2)).block, (ad618.add ((x35_4).toNat * 2)).off + 1, none⟩ = some (.int .i64 ((rd_T35 t615 x35_4).f1))) (ds := []) #[F,F,F,F,F,F,F,F,F,F] z27_2 rfl rfl ⟨(bkC BK622.out 0).trans rfl, (bkC BK622.out 1).trans rfl, hx623_0, hx623_1⟩ (fun hHeld => ?_); refine with_tabW laws_FnMatrices.tab38 laws_FnMatrices.bits38 (fun HT_ HW_ => ?_)
   generalize w642.drew = w643 at HO_34 BK509 BK510 BK516 BK522 BK529 BK530 BK534 BK538 BK545 BK551 BK554 BK622 HB hx623_0 hx623_1 hHeld ⊢
   refine pu (i := 0) (N := some 273) #[T,F,F,F,F,F,F,F,F,F] (any_of HT_.out z27_2) ?_
   refine pu (i := 1) (N := some 274) #[T,T,F,F,F,F,F,F,F,F] (any_of HT_.out z27_2) ?_
   refine pu (i := 2) (N := some 275) #[T,T,T,F,F,F,F,F,F,F] (any_of HT_.out z27_2) ?_
   refine pu (i := 4) (N := some 277) #[T,T,T,F,T,F,F,F,F,F] (any_of HT_.out z27_2) ?_
   refine pu (i := 5) (N := some 278) #[T,T,T,F,T,T,F,F,F,F] (any_of HT_.out z27_2) ?_
   refine pu (i := 6) (N := some 279) #[T,T,T,F,T,T,T,F,F,F] (any_of HT_.out z27_2) ?_
   refine take_ (i := 3) (N := some 276) (v := ?_) (a' := ?_) #[T,T,T,T,T,T,T,F,F,F] rfl rfl (take_ofW HT_.out HW_.out z27_2) (fun _ _ _ h => h) (Or.inl ⟨by rfl, ?_⟩) hHeld ?_ ?_
   rotate_left
   ·rintro w' ⟨s0, s1, s2, s3⟩
    go_simp
    with_reducible rfl
   rotate_left
   ·exact acq
   refine take_ (i := 7) (N := some 280) (v := ?_) (a' := ?_) #[T,T,T,T,T,T,T,T,F,F] rfl rfl (take_ofW HT_.out HW_.out z27_2) (fun _ _ _ h => h) (Or.inl ⟨by rfl, ?_⟩) hHeld ?_ ?_
   rotate_left
   ·rintro w' ⟨s0, s1, s2, s3⟩
    go_simp
    with_reducible rfl
   rotate_left
   ·exact acq
   refine pu (i := 8) (N := some 281) #[T,T,T,T,T,T,T,T,T,F] (any_of HT_.out z27_2) ?_
   refine pu (i := 9) (N := some 282) #[T,T,T,T,T,T,T,T,T,T] (any_of HT_.out z27_2) ?_
   refine done_ (done_of HT_.out z27_2) ?_
   try go_wp2
   go_roundg k4
   case measure => have := HJ44.out; have := HJ500.out; have := HJ536.out; have := HK4.out; omega
   case rel => exact ⟨(wrap64 (x35_4 + 1)), rq2, H', ⟨by have := HJ44.out; have := HJ500.out; have := HJ536.out; have := HK4.out; omega⟩, ⟨by (with_reducible repeat (first | apply Kd.R_alloc | apply Kd.R_drewN | apply Kd.R_drew)); exact Kd.R_mono HO_34.out (fun _ hk => ⟨hk.1, ⟨hk.2.1, ⟨hk.2.2.1, hk.2.2.2.1⟩⟩⟩)⟩, ⟨bk1 BK509⟩, ⟨bk1 BK510⟩, ⟨bk1 BK516⟩, ⟨bk1 BK522⟩, ⟨bk1 BK529⟩, ⟨bk1 BK530⟩, ⟨bk1 BK534⟩, ⟨bk1 BK538⟩, ⟨bk1 BK545⟩, ⟨bk1 BK551⟩, ⟨bk1 BK554⟩, ⟨bw_27⟩⟩
  rw [if_neg c630] at H
  have c630b0 : decide (x35_4 < (t615.length : Int)) = false := decide_eq_false c630
  clear c630
  replace H := bez H
  obtain ⟨⟨t624, t625, t626, t627⟩, A644, H⟩ := H
  try dsimp only at H
  replace H := bez H
  obtain ⟨⟨t628, t629, t630, t631, t632⟩, A645, H⟩ := H
  try dsimp only at H
  by_cases c646 : t632 = true
  rotate_left
  ·replace c646 := Bool.eq_false_iff.mpr c646
   subst c646
   rw [if_neg (show ¬ (false = true) by decide)] at H
   exact absurd H (by simp)
  subst c646
  rw [if_pos rfl] at H
  by_cases c647 : (t628 == 1 && (t629 == 0 && (t630 == 0 && (t631 == 1)))) = true
  rotate_left
  ·rw [if_neg c647] at H
   have c647b0 : (t628 == 1 && (t629 == 0 && (t630 == 0 && (t631 == 1)))) = false := by simpa using c647
   (try (have c647b1 : decide (t628 = 1 && (t629 == 0 && (t630 == 0 && (t631 == 1)))) = false := by simpa using c647))
   (try (have c647b2 : (t628 == 1 && (t629 == 0 && (t630 == 0 && (t631 == 1)))) = false := by simpa using c647))
   (try (have c647b3 : ¬ (t628 = 1 && (t629 == 0 && (t630 == 0 && (t631 == 1)))) := by simpa using c647))
   clear c647
   exact absurd H (by simp)
  rw [if_pos c647] at H
  have c647b0 : (t628 == 1 && (t629 == 0 && (t630 == 0 && (t631 == 1)))) = true := c647
  (try (have c647b1 : decide (t628 = 1 && (t629 == 0 && (t630 == 0 && (t631 == 1)))) = true := by simpa using c647))
  (try (have c647b2 : (t628 == 1 && (t629 == 0 && (t630 == 0 && (t631 == 1)))) = true := by simpa using c647))
  clear c647
  replace H := bez H
  obtain ⟨t634, A648, H⟩ := H
  try dsimp only at H
  replace H := bez H
  obtain ⟨t635, A649, H⟩ := H
  try dsimp only at H
  by_cases c650 : t635.toList = ([105, 100, 101, 110, 116, 105, 116, 121] : List UInt8)
  ·rw [if_pos c650] at H
   have c650b0 : (t635.toList == ([105, 100, 101, 110, 116, 105, 116, 121] : List UInt8)) = true := beq_iff_eq.mpr c650
   have c650b1 : (t635.toList != ([105, 100, 101, 110, 116, 105, 116, 121] : List UInt8)) = false := bne_eq_false_iff_eq.mpr c650
   clear c650
   by_cases c651 : ((decide (t634 > 0)) == true) = true
   rotate_left
   ·rw [if_neg c651] at H
    have c651b0 : ((decide (t634 > 0)) == true) = false := by simpa using c651
    (try (have c651b1 : decide ((decide (t634 > 0)) = true) = false := by simpa using c651))
    (try (have c651b2 : ((decide (t634 > 0)) == true) = false := by simpa using c651))
    (try (have c651b3 : ¬ ((decide (t634 > 0)) = true) := by simpa using c651))
    clear c651
    exact absurd H (by simp)
   rw [if_pos c651] at H
   have c651b0 : ((decide (t634 > 0)) == true) = true := c651
   (try (have c651b1 : decide ((decide (t634 > 0)) = true) = true := by simpa using c651))
   (try (have c651b2 : ((decide (t634 > 0)) == true) = true := by simpa using c651))
   clear c651
   replace H := bez H
   obtain ⟨t636, A652, H⟩ := H
   try dsimp only at H
   rename_i Kt at_ Jj Kj aj ah
   have AT := Az.mk at_
   clear at_
   obtain ⟨Ao653, co653, eo653⟩ := Kd.R_slice HO_34.out
   subst eo653
   go_wp2
   exact AT.out _ _ (laws_FnMatrices.p40 A0 c0 l0 r w HT t501 t502 t503 t504 t505 t506 t507 t508 t511 t512 t513 t514 t515 t517 t518 t519 t520 t521 t523 t524 t525 t526 t527 t528 t531 t532 t533 t535 t536 t537 t539 t540 t541 t542 t543 t544 t546 t547 t548 t549 t550 t552 t553 t555 gb509 GE509 gb510 GE510 gb516 GE516 gb522 GE522 gb529 GE529 gb530 GE530 gb534 GE534 gb538 GE538 gb545 GE545 gb551 GE551 gb554 GE554 u22 u23 u24 u25 u26 u27 u28 u29 u30 u31 u32 u33 u40 u41 u42 u43 u44 u45 u46 u47 u48 u49 u50 u51 u52 u53 u54 u55 u56 u57 u58 u59 u60 u61 u62 u63 u64 u65 u66 u67 u68 u69 u70 u71 u72 u73 u74 u75 u76 u77 u78 u79 u80 u81 u82 u83 u84 u85 u86 u87 u88 u89 u90 u91 u92 u93 u94 u95 u96 u97 u98 u99 u100 u101 u102 u103 u104 u105 u106 u107 u108 u109 u110 u111 u112 u113 u114 u115 u116 u117 u118 u119 u120 u121 u122 u123 u124 u125 u126 u127 u128 u129 u130 u131 u132 u133 u134 u135 u136 u137 u138 u139 u140 u141 u142 u143 u144 u145 u146 u147 u148 u149 u150 u151 u152 u153 u154 u155 u156 u157 u158 u159 u160 u161 u162 u163 u164 u165 u166 u167 u168 u169 u170 u171 u172 u173 u174 u175 u176 u177 u178 u179 u180 u181 u182 u183 u184 u185 u186 u187 u188 u189 u190 u191 u192 u193 u194 u195 u196 u197 u198 u199 u200 u201 u202 u203 u204 u205 u206 u207 u208 u209 u210 u211 u212 u213 u214 u215 u216 u217 u218 u219 u220 u221 u222 u223 u224 u225 u226 u227 u228 u229 u230 u231 u232 u233 u234 u235 u236 u237 u238 u239 u240 u241 u242 u243 u244 u248 u249 u250 u251 u252 u253 u254 u255 u283 u284 u285 u286 u287 u288 u289 u290 u291 u292 u293 u294 u295 u296 u297 u298 u299 u300 u301 u302 u303 u304 u305 u306 u307 u308 u309 u310 u311 u312 u313 u314 u315 u316 u317 u318 t615 wr u2 u36 u37 u262 u263 u264 u265 u266 u267 u268 u269 u270 u271 u272 u273 u274 u275 u276 u277 u278 u279 u280 u281 u282 x35_4 BK509 BK510 BK516 BK522 BK529 BK530 BK534 BK538 BK545 BK551 BK554 HB k4 c630b0 t624 t625 t626 t627 A644 t628 t629 t630 t631 A645 c647b0 c647b1 c647b2 t634 A648 t635 A649 c650b0 c650b1 c651b0 c651b1 c651b2 t636 H A652 Ao653 co653 HO_34)
  rw [if_neg c650] at H
  have c650b0 : (t635.toList == ([105, 100, 101, 110, 116, 105, 116, 121] : List UInt8)) = false := beq_eq_false_iff_ne.mpr c650
  have c650b1 : (t635.toList != ([105, 100, 101, 110, 116, 105, 116, 121] : List UInt8)) = true := bne_iff_ne.mpr c650
  replace H := bez H
  obtain ⟨t637, A668, H⟩ := H
  try dsimp only at H
  by_cases c669 : ((decide (t634 > 0)) == (t637.toList == ([112, 101, 114, 105, 111, 100, 105, 99] : List UInt8))) = true
  rotate_left
  ·rw [if_neg c669] at H
   have c669b0 : ((decide (t634 > 0)) == (t637.toList == ([112, 101, 114, 105, 111, 100, 105, 99] : List UInt8))) = false := by simpa using c669
   (try (have c669b1 : decide ((decide (t634 > 0)) = (t637.toList == ([112, 101, 114, 105, 111, 100, 105, 99] : List UInt8))) = false := by simpa using c669))
   (try (have c669b2 : ((decide (t634 > 0)) == (t637.toList == ([112, 101, 114, 105, 111, 100, 105, 99] : List UInt8))) = false := by simpa using c669))
   (try (have c669b3 : ¬ ((decide (t634 > 0)) = (t637.toList == ([112, 101, 114, 105, 111, 100, 105, 99] : List UInt8))) := by simpa using c669))
   clear c669
   exact absurd H (by simp)
  rw [if_pos c669] at H
  have c669b0 : ((decide (t634 > 0)) == (t637.toList == ([112, 101, 114, 105, 111, 100, 105, 99] : List UInt8))) = true := c669
  (try (have c669b1 : decide ((decide (t634 > 0)) = (t637.toList == ([112, 101, 114, 105, 111, 100, 105, 99] : List UInt8))) = true := by simpa using c669))
  (try (have c669b2 : ((decide (t634 > 0)) == (t637.toList == ([112, 101, 114, 105, 111, 100, 105, 99] : List UInt8))) = true := by simpa using c669))
  clear c669
  replace H := bez H
  obtain ⟨t638, A670, H⟩ := H
  try dsimp only at H
  obtain rfl := Option.some.inj H
  obtain ⟨Ao671, co671, eo671⟩ := Kd.R_slice HO_34.out
  subst eo671
  try go_wp2
  replace HO_34 := Az.mk (Kd.R_drew HO_34.out); replace BK509 := Az.mk (bkD BK509.out); replace BK510 := Az.mk (bkD BK510.out); replace BK516 := Az.mk (bkD BK516.out); replace BK522 := Az.mk (bkD BK522.out); replace BK529 := Az.mk (bkD BK529.out); replace BK530 := Az.mk (bkD BK530.out); replace BK534 := Az.mk (bkD BK534.out); replace BK538 := Az.mk (bkD BK538.out); replace BK545 := Az.mk (bkD BK545.out); replace BK551 := Az.mk (bkD BK551.out); replace BK554 := Az.mk (bkD BK554.out); replace HB := Az.mk (bwD HB.out)
  refine start_ (n := 10) (S := fun w' => w'.cell? ⟨gb509, 0, none⟩ = some (.int .i64 t501) ∧ w'.cell? ⟨gb509, 1, none⟩ = some (.int .i64 t502) ∧ w'.cell? ⟨gb509, 2, none⟩ = some (.int .i64 t503) ∧ w'.cell? ⟨gb509, 3, none⟩ = some (.int .i64 t504)) (ds := []) #[F,F,F,F,F,F,F,F,F,F] z27_2 rfl rfl cs_ (fun hHeld => ?_); refine with_tabW laws_FnMatrices.tab40 laws_FnMatrices.bits40 (fun HT_ HW_ => ?_)
  generalize wr.drew = w672 at HO_34 BK509 BK510 BK516 BK522 BK529 BK530 BK534 BK538 BK545 BK551 BK554 HB hHeld ⊢
  refine take_ (i := 0) (N := some 284) (v := ?_) (a' := ?_) #[T,F,F,F,F,F,F,F,F,F] rfl rfl (take_ofW HT_.out HW_.out z27_2) (fun _ _ _ h => h) (Or.inl ⟨by rfl, ?_⟩) hHeld ?_ ?_
  rotate_left
  ·rintro w' ⟨s0, s1, s2, s3⟩
   go_simp
   with_reducible rfl
  rotate_left
  ·exact acq
  refine take_ (i := 1) (N := some 285) (v := ?_) (a' := ?_) #[T,T,F,F,F,F,F,F,F,F] rfl rfl (take_ofW HT_.out HW_.out z27_2) (fun _ _ _ h => h) (Or.inl ⟨by rfl, ?_⟩) hHeld ?_ ?_
  rotate_left
  ·rintro w' ⟨s0, s1, s2, s3⟩
   go_simp
   with_reducible rfl
  rotate_left
  ·exact acq
  refine join_ (σ := Nat) 2 #[T,T,T,T,T,T,T,T,F,F] (fun s_ => [(286, .agg #[.int .i64 t624, .int .i64 t625, .int .i64 t626, .int .i64 t627]), (287, .tuple #[.agg #[.int .i64 t628, .int .i64 t629, .int .i64 t630, .int .i64 t631], .bool true]), (38, .pointer (some ⟨s_, 0, none⟩)), (283, .tuple #[.agg #[.int .i64 t628, .int .i64 t629, .int .i64 t630, .int .i64 t631], .bool true]), (288, .agg #[.int .i64 t628, .int .i64 t629, .int .i64 t630, .int .i64 t631]), (289, .bool true)]) (fun s_ w' => (w'.cell? ⟨gb509, 0, none⟩ = some (.int .i64 t501) ∧ w'.cell? ⟨gb509, 1, none⟩ = some (.int .i64 t502) ∧ w'.cell? ⟨gb509, 2, none⟩ = some (.int .i64 t503) ∧ w'.cell? ⟨gb509, 3, none⟩ = some (.int .i64 t504)) ∧ (Kd.R k35 35 w' w.heap.size (fun k_ => k_ ≠ gb530 ∧ k_ ≠ gb534 ∧ k_ ≠ gb538 ∧ k_ ≠ gb554) (.slice Ao671 t615.length co671) t615) ∧ (w'.heap[gb509]? = some (.cells #[.int .i64 t501, .int .i64 t502, .int .i64 t503, .int .i64 t504] 25 (0, 0))) ∧ (w'.heap[gb510]? = some (.cells #[.int .i64 t505, .int .i64 t506, .int .i64 t507, .int .i64 t508] 25 (0, 0))) ∧ (w'.heap[gb516]? = some (.cells #[.int .i64 t511, .int .i64 t512, .int .i64 t513, .int .i64 t514] 25 (0, 0))) ∧ (w'.heap[gb522]? = some (.cells #[.int .i64 t517, .int .i64 t518, .int .i64 t519, .int .i64 t520] 25 (0, 0))) ∧ (w'.heap[gb529]? = some (.cells #[.int .i64 t523, .int .i64 t524, .int .i64 t525, .int .i64 t526] 25 (0, 0))) ∧ (w'.heap[gb530]? = some (.cells #[.int .i64 t527, .int .i64 t528] 35 (0, 0))) ∧ (w'.heap[gb534]? = some (.cells #[.int .i64 t531, .int .i64 t532] 35 (0, 0))) ∧ (w'.heap[gb538]? = some (.cells #[.int .i64 t535, .int .i64 t536] 35 (0, 0))) ∧ (w'.heap[gb545]? = some (.cells #[.int .i64 t540, .int .i64 t541, .int .i64 t542, .int .i64 t543] 25 (0, 0))) ∧ (w'.heap[gb551]? = some (.cells #[.int .i64 t546, .int .i64 t547, .int .i64 t548, .int .i64 t549] 25 (0, 0))) ∧ (w'.heap[gb554]? = some (.cells #[.int .i64 t552, .int .i64 t553] 35 (0, 0))) ∧ (w'.heap[s_]? = some (.cells #[.int .i64 0, .int .i64 0, .int .i64 0, .int .i64 0] 25 (0, 0))) ∧ (w.heap.size ≤ s_) ∧ (w.heap.size ≤ s_) ∧ (gb509 ≠ s_) ∧ (s_ ≠ gb509) ∧ (gb510 ≠ s_) ∧ (s_ ≠ gb510) ∧ (gb516 ≠ s_) ∧ (s_ ≠ gb516) ∧ (gb522 ≠ s_) ∧ (s_ ≠ gb522) ∧ (gb529 ≠ s_) ∧ (s_ ≠ gb529) ∧ (gb530 ≠ s_) ∧ (s_ ≠ gb530) ∧ (gb534 ≠ s_) ∧ (s_ ≠ gb534) ∧ (gb538 ≠ s_) ∧ (s_ ≠ gb538) ∧ (gb545 ≠ s_) ∧ (s_ ≠ gb545) ∧ (gb551 ≠ s_) ∧ (s_ ≠ gb551) ∧ (gb554 ≠ s_) ∧ (s_ ≠ gb554) ∧ (Below w.heap.size w w')) ?_ ?_
  rotate_left
  ·intro hCont
   refine two_ (i := 2) (j := 7) (Ni := some 286) (Nj := some 38) #[T,T,T,F,F,F,F,F,F,F] #[T,T,F,F,F,F,F,T,F,F] rfl rfl rfl rfl (two_of HT_.out z27_2) (by decide) (by decide) (fun K hK => ?_) (fun K hK => ?_)
   ·skip
    refine goes_ Tryd.func23 z27_2 rfl #[.agg #[.int .i64 t501, .int .i64 t502, .int .i64 t503, .int .i64 t504]] (by rfl) rfl rfl ln_27 ?_
    with_reducible refine (impl_InverseMatrix.calls k4 t501 t502 t503 t504 t624 t625 t626 t627 _ A644.out).mono ?_
    rintro e w673 ⟨rfl, hb⟩
    refine ⟨_, rfl, ?_⟩
    replace HO_34 := Az.mk (Kd.R_below z27_0 hb); replace BK509 := bkz BK509 hb; replace BK510 := bkz BK510 hb; replace BK516 := bkz BK516 hb; replace BK522 := bkz BK522 hb; replace BK529 := bkz BK529 hb; replace BK530 := bkz BK530 hb; replace BK534 := bkz BK534 hb; replace BK538 := bkz BK538 hb; replace BK545 := bkz BK545 hb; replace BK551 := bkz BK551 hb; replace BK554 := bkz BK554 hb; replace HB := Az.mk (bwT bw_27 hb)
    (try clear hb)
    (try clear hb2)
    (try clear hk)
    (try clear hi)
    refine hK.out _ _ cs_ (fun hHeld => ?_)
    clear hK K
    refine norm_ (a' := ?_) ?_ ?_
    rotate_left
    ·show Act.put _ (some 286) _ = _
     exact acq
    refine two_ (i := 3) (j := 7) (Ni := some 287) (Nj := some 38) #[T,T,T,T,F,F,F,F,F,F] #[T,T,T,F,F,F,F,T,F,F] rfl rfl rfl rfl (two_of HT_.out z27_2) (by decide) (by decide) (fun K hK => ?_) (fun K hK => ?_)
    ·skip
     refine goes_ Tryd.func10 z27_2 rfl #[.agg #[.int .i64 t501, .int .i64 t502, .int .i64 t503, .int .i64 t504], .agg #[.int .i64 t624, .int .i64 t625, .int .i64 t626, .int .i64 t627]] (by rfl) rfl rfl ln_27 ?_
     with_reducible refine (impl_TimesMatrix.calls k4 t501 t502 t503 t504 t624 t625 t626 t627 t628 t629 t630 t631 true _ A645.out).mono ?_
     rintro e w674 ⟨rfl, hb⟩
     refine ⟨_, rfl, ?_⟩
     replace HO_34 := Az.mk (Kd.R_below z27_0 hb); replace BK509 := bkz BK509 hb; replace BK510 := bkz BK510 hb; replace BK516 := bkz BK516 hb; replace BK522 := bkz BK522 hb; replace BK529 := bkz BK529 hb; replace BK530 := bkz BK530 hb; replace BK534 := bkz BK534 hb; replace BK538 := bkz BK538 hb; replace BK545 := bkz BK545 hb; replace BK551 := bkz BK551 hb; replace BK554 := bkz BK554 hb; replace HB := Az.mk (bwT bw_27 hb)
     (try clear hb)
     (try clear hb2)
     (try clear hk)
     (try clear hi)
     refine hK.out _ _ cs_ (fun hHeld => ?_)
     clear hK K
     refine norm_ (a' := ?_) ?_ ?_
     rotate_left
     ·show Act.put _ (some 287) _ = _
      exact acq
     refine pu (i := 4) (N := some 283) #[T,T,T,T,T,F,F,F,F,F] (any_of HT_.out z27_2) ?_
     refine pu (i := 5) (N := some 288) #[T,T,T,T,T,T,F,F,F,F] (any_of HT_.out z27_2) ?_
     refine pu (i := 6) (N := some 289) #[T,T,T,T,T,T,T,F,F,F] (any_of HT_.out z27_2) ?_
     refine one_ (i := 7) (N := some 38) #[T,T,T,T,T,T,T,T,F,F] rfl rfl (one_of HT_.out z27_2) (by decide) (fun K hK => ?_)
     refine box_step ?hg (N := 38) ?hd (cs := #[.int .i64 0, .int .i64 0, .int .i64 0, .int .i64 0]) (t := 25) ?hr ?_; (case hd => rfl); (case hg => rfl); (case hr => first | (go_simp; done) | (go_simp; rfl))
     intro gb633 hg w675 hbox hb
     replace HO_34 := Az.mk (Kd.R_below z27_0 hb); have BK633 := Az.mk (hbox); have GW633 := gwz hg bw_27; have GE633 := gwz hg bw_27; replace HB := Az.mk (bwT bw_27 hb); have NB509_633 := nlt BK509 hg; have NB633_509 := ngt BK509 hg; replace BK509 := bkz BK509 hb; have NB510_633 := nlt BK510 hg; have NB633_510 := ngt BK510 hg; replace BK510 := bkz BK510 hb; have NB516_633 := nlt BK516 hg; have NB633_516 := ngt BK516 hg; replace BK516 := bkz BK516 hb; have NB522_633 := nlt BK522 hg; have NB633_522 := ngt BK522 hg; replace BK522 := bkz BK522 hb; have NB529_633 := nlt BK529 hg; have NB633_529 := ngt BK529 hg; replace BK529 := bkz BK529 hb; have NB530_633 := nlt BK530 hg; have NB633_530 := ngt BK530 hg; replace BK530 := bkz BK530 hb; have NB534_633 := nlt BK534 hg; have NB633_534 := ngt BK534 hg; replace BK534 := bkz BK534 hb; have NB538_633 := nlt BK538 hg; have NB633_538 := ngt BK538 hg; replace BK538 := bkz BK538 hb; have NB545_633 := nlt BK545 hg; have NB633_545 := ngt BK545 hg; replace BK545 := bkz BK545 hb; have NB551_633 := nlt BK551 hg; have NB633_551 := ngt BK551 hg; replace BK551 := bkz BK551 hb; have NB554_633 := nlt BK554 hg; have NB633_554 := ngt BK554 hg; replace BK554 := bkz BK554 hb
     clear hb hbox hg
     refine hK.out _ _ cs_ (fun hHeld => ?_)
     clear hK K
     refine norm_ (a' := ?_) ?_ ?_
     rotate_left
     ·show Act.put _ (some 38) _ = _
      exact acq
     exact norm_ z27_3 (hCont (gb633) _ ⟨hHeld, z27_0, (bk1 BK509), (bk1 BK510), (bk1 BK516), (bk1 BK522), (bk1 BK529), (bk1 BK530), (bk1 BK534), (bk1 BK538), (bk1 BK545), (bk1 BK551), (bk1 BK554), (bk1 BK633), GW633.out, GE633.out, NB509_633.out, NB633_509.out, NB510_633.out, NB633_510.out, NB516_633.out, NB633_516.out, NB522_633.out, NB633_522.out, NB529_633.out, NB633_529.out, NB530_633.out, NB633_530.out, NB534_633.out, NB633_534.out, NB538_633.out, NB633_538.out, NB545_633.out, NB633_545.out, NB551_633.out, NB633_551.out, NB554_633.out, NB633_554.out, bw_27⟩)
    skip
    refine box_step ?hg (N := 38) ?hd (cs := #[.int .i64 0, .int .i64 0, .int .i64 0, .int .i64 0]) (t := 25) ?hr ?_; (case hd => rfl); (case hg => rfl); (case hr => first | (go_simp; done) | (go_simp; rfl))
    intro gb633 hg w674 hbox hb
    replace HO_34 := Az.mk (Kd.R_below z27_0 hb); have BK633 := Az.mk (hbox); have GW633 := gwz hg bw_27; have GE633 := gwz hg bw_27; replace HB := Az.mk (bwT bw_27 hb); have NB509_633 := nlt BK509 hg; have NB633_509 := ngt BK509 hg; replace BK509 := bkz BK509 hb; have NB510_633 := nlt BK510 hg; have NB633_510 := ngt BK510 hg; replace BK510 := bkz BK510 hb; have NB516_633 := nlt BK516 hg; have NB633_516 := ngt BK516 hg; replace BK516 := bkz BK516 hb; have NB522_633 := nlt BK522 hg; have NB633_522 := ngt BK522 hg; replace BK522 := bkz BK522 hb; have NB529_633 := nlt BK529 hg; have NB633_529 := ngt BK529 hg; replace BK529 := bkz BK529 hb; have NB530_633 := nlt BK530 hg; have NB633_530 := ngt BK530 hg; replace BK530 := bkz BK530 hb; have NB534_633 := nlt BK534 hg; have NB633_534 := ngt BK534 hg; replace BK534 := bkz BK534 hb; have NB538_633 := nlt BK538 hg; have NB633_538 := ngt BK538 hg; replace BK538 := bkz BK538 hb; have NB545_633 := nlt BK545 hg; have NB633_545 := ngt BK545 hg; replace BK545 := bkz BK545 hb; have NB551_633 := nlt BK551 hg; have NB633_551 := ngt BK551 hg; replace BK551 := bkz BK551 hb; have NB554_633 := nlt BK554 hg; have NB633_554 := ngt BK554 hg; replace BK554 := bkz BK554 hb
    clear hb hbox hg
    refine hK.out _ _ cs_ (fun hHeld => ?_)
    clear hK K
    refine norm_ (a' := ?_) ?_ ?_
    rotate_left
    ·show Act.put _ (some 38) _ = _
     exact acq
    refine one_ (i := 3) (N := some 287) #[T,T,T,T,F,F,F,T,F,F] rfl rfl (one_of HT_.out z27_2) (by decide) (fun K hK => ?_)
    refine goes_ Tryd.func10 z27_2 rfl #[.agg #[.int .i64 t501, .int .i64 t502, .int .i64 t503, .int .i64 t504], .agg #[.int .i64 t624, .int .i64 t625, .int .i64 t626, .int .i64 t627]] (by rfl) rfl rfl ln_27 ?_
    with_reducible refine (impl_TimesMatrix.calls k4 t501 t502 t503 t504 t624 t625 t626 t627 t628 t629 t630 t631 true _ A645.out).mono ?_
    rintro e w675 ⟨rfl, hb⟩
    refine ⟨_, rfl, ?_⟩
    replace HO_34 := Az.mk (Kd.R_below z27_0 hb); replace BK509 := bkz BK509 hb; replace BK510 := bkz BK510 hb; replace BK516 := bkz BK516 hb; replace BK522 := bkz BK522 hb; replace BK529 := bkz BK529 hb; replace BK530 := bkz BK530 hb; replace BK534 := bkz BK534 hb; replace BK538 := bkz BK538 hb; replace BK545 := bkz BK545 hb; replace BK551 := bkz BK551 hb; replace BK554 := bkz BK554 hb; replace BK633 := bkz BK633 hb; replace HB := Az.mk (bwT bw_27 hb)
    (try clear hb)
    (try clear hb2)
    (try clear hk)
    (try clear hi)
    refine hK.out _ _ cs_ (fun hHeld => ?_)
    clear hK K
    refine norm_ (a' := ?_) ?_ ?_
    rotate_left
    ·show Act.put _ (some 287) _ = _
     exact acq
    refine pu (i := 4) (N := some 283) #[T,T,T,T,T,F,F,T,F,F] (any_of HT_.out z27_2) ?_
    refine pu (i := 5) (N := some 288) #[T,T,T,T,T,T,F,T,F,F] (any_of HT_.out z27_2) ?_
    refine pu (i := 6) (N := some 289) #[T,T,T,T,T,T,T,T,F,F] (any_of HT_.out z27_2) ?_
    exact norm_ z27_3 (hCont (gb633) _ ⟨hHeld, z27_0, (bk1 BK509), (bk1 BK510), (bk1 BK516), (bk1 BK522), (bk1 BK529), (bk1 BK530), (bk1 BK534), (bk1 BK538), (bk1 BK545), (bk1 BK551), (bk1 BK554), (bk1 BK633), GW633.out, GE633.out, NB509_633.out, NB633_509.out, NB510_633.out, NB633_510.out, NB516_633.out, NB633_516.out, NB522_633.out, NB633_522.out, NB529_633.out, NB633_529.out, NB530_633.out, NB633_530.out, NB534_633.out, NB633_534.out, NB538_633.out, NB633_538.out, NB545_633.out, NB633_545.out, NB551_633.out, NB633_551.out, NB554_633.out, NB633_554.out, bw_27⟩)
   skip
   refine box_step ?hg (N := 38) ?hd (cs := #[.int .i64 0, .int .i64 0, .int .i64 0, .int .i64 0]) (t := 25) ?hr ?_; (case hd => rfl); (case hg => rfl); (case hr => first | (go_simp; done) | (go_simp; rfl))
   intro gb633 hg w673 hbox hb
   replace HO_34 := Az.mk (Kd.R_below z27_0 hb); have BK633 := Az.mk (hbox); have GW633 := gwz hg bw_27; have GE633 := gwz hg bw_27; replace HB := Az.mk (bwT bw_27 hb); have NB509_633 := nlt BK509 hg; have NB633_509 := ngt BK509 hg; replace BK509 := bkz BK509 hb; have NB510_633 := nlt BK510 hg; have NB633_510 := ngt BK510 hg; replace BK510 := bkz BK510 hb; have NB516_633 := nlt BK516 hg; have NB633_516 := ngt BK516 hg; replace BK516 := bkz BK516 hb; have NB522_633 := nlt BK522 hg; have NB633_522 := ngt BK522 hg; replace BK522 := bkz BK522 hb; have NB529_633 := nlt BK529 hg; have NB633_529 := ngt BK529 hg; replace BK529 := bkz BK529 hb; have NB530_633 := nlt BK530 hg; have NB633_530 := ngt BK530 hg; replace BK530 := bkz BK530 hb; have NB534_633 := nlt BK534 hg; have NB633_534 := ngt BK534 hg; replace BK534 := bkz BK534 hb; have NB538_633 := nlt BK538 hg; have NB633_538 := ngt BK538 hg; replace BK538 := bkz BK538 hb; have NB545_633 := nlt BK545 hg; have NB633_545 := ngt BK545 hg; replace BK545 := bkz BK545 hb; have NB551_633 := nlt BK551 hg; have NB633_551 := ngt BK551 hg; replace BK551 := bkz BK551 hb; have NB554_633 := nlt BK554 hg; have NB633_554 := ngt BK554 hg; replace BK554 := bkz BK554 hb
   clear hb hbox hg
   refine hK.out _ _ cs_ (fun hHeld => ?_)
   clear hK K
   refine norm_ (a' := ?_) ?_ ?_
   rotate_left
   ·show Act.put _ (some 38) _ = _
    exact acq
   refine one_ (i := 2) (N := some 286) #[T,T,T,F,F,F,F,T,F,F] rfl rfl (one_of HT_.out z27_2) (by decide) (fun K hK => ?_)
   refine goes_ Tryd.func23 z27_2 rfl #[.agg #[.int .i64 t501, .int .i64 t502, .int .i64 t503, .int .i64 t504]] (by rfl) rfl rfl ln_27 ?_
   with_reducible refine (impl_InverseMatrix.calls k4 t501 t502 t503 t504 t624 t625 t626 t627 _ A644.out).mono ?_
   rintro e w674 ⟨rfl, hb⟩
   refine ⟨_, rfl, ?_⟩
   replace HO_34 := Az.mk (Kd.R_below z27_0 hb); replace BK509 := bkz BK509 hb; replace BK510 := bkz BK510 hb; replace BK516 := bkz BK516 hb; replace BK522 := bkz BK522 hb; replace BK529 := bkz BK529 hb; replace BK530 := bkz BK530 hb; replace BK534 := bkz BK534 hb; replace BK538 := bkz BK538 hb; replace BK545 := bkz BK545 hb; replace BK551 := bkz BK551 hb; replace BK554 := bkz BK554 hb; replace BK633 := bkz BK633 hb; replace HB := Az.mk (bwT bw_27 hb)
   (try clear hb)
   (try clear hb2)
   (try clear hk)
   (try clear hi)
   refine hK.out _ _ cs_ (fun hHeld => ?_)
   clear hK K
   refine norm_ (a' := ?_) ?_ ?_
   rotate_left
   ·show Act.put _ (some 286) _ = _
    exact acq
   refine one_ (i := 3) (N := some 287) #[T,T,T,T,F,F,F,T,F,F] rfl rfl (one_of HT_.out z27_2) (by decide) (fun K hK => ?_)
   refine goes_ Tryd.func10 z27_2 rfl #[.agg #[.int .i64 t501, .int .i64 t502, .int .i64 t503, .int .i64 t504], .agg #[.int .i64 t624, .int .i64 t625, .int .i64 t626, .int .i64 t627]] (by rfl) rfl rfl ln_27 ?_
   with_reducible refine (impl_TimesMatrix.calls k4 t501 t502 t503 t504 t624 t625 t626 t627 t628 t629 t630 t631 true _ A645.out).mono ?_
   rintro e w675 ⟨rfl, hb⟩
   refine ⟨_, rfl, ?_⟩
   replace HO_34 := Az.mk (Kd.R_below z27_0 hb); replace BK509 := bkz BK509 hb; replace BK510 := bkz BK510 hb; replace BK516 := bkz BK516 hb; replace BK522 := bkz BK522 hb; replace BK529 := bkz BK529 hb; replace BK530 := bkz BK530 hb; replace BK534 := bkz BK534 hb; replace BK538 := bkz BK538 hb; replace BK545 := bkz BK545 hb; replace BK551 := bkz BK551 hb; replace BK554 := bkz BK554 hb; replace BK633 := bkz BK633 hb; replace HB := Az.mk (bwT bw_27 hb)
   (try clear hb)
   (try clear hb2)
   (try clear hk)
   (try clear hi)
   refine hK.out _ _ cs_ (fun hHeld => ?_)
   clear hK K
   refine norm_ (a' := ?_) ?_ ?_
   rotate_left
   ·show Act.put _ (some 287) _ = _
    exact acq
   refine pu (i := 4) (N := some 283) #[T,T,T,T,T,F,F,T,F,F] (any_of HT_.out z27_2) ?_
   refine pu (i := 5) (N := some 288) #[T,T,T,T,T,T,F,T,F,F] (any_of HT_.out z27_2) ?_
   refine pu (i := 6) (N := some 289) #[T,T,T,T,T,T,T,T,F,F] (any_of HT_.out z27_2) ?_
   exact norm_ z27_3 (hCont (gb633) _ ⟨hHeld, z27_0, (bk1 BK509), (bk1 BK510), (bk1 BK516), (bk1 BK522), (bk1 BK529), (bk1 BK530), (bk1 BK534), (bk1 BK538), (bk1 BK545), (bk1 BK551), (bk1 BK554), (bk1 BK633), GW633.out, GE633.out, NB509_633.out, NB633_509.out, NB510_633.out, NB633_510.out, NB516_633.out, NB633_516.out, NB522_633.out, NB633_522.out, NB529_633.out, NB633_529.out, NB530_633.out, NB633_530.out, NB534_633.out, NB633_534.out, NB538_633.out, NB633_538.out, NB545_633.out, NB633_545.out, NB551_633.out, NB633_551.out, NB554_633.out, NB633_554.out, bw_27⟩)
  rintro gb633 w676 ⟨hS_, h0_, h1_, h2_, h3_, h4_, h5_, h6_, h7_, h8_, h9_, h10_, h11_, h12_, h13_, h14_, h15_, h16_, h17_, h18_, h19_, h20_, h21_, h22_, h23_, h24_, h25_, h26_, h27_, h28_, h29_, h30_, h31_, h32_, h33_, h34_, h35_, h36_, h37_⟩
  have n0_ : Az (Kd.R k35 35 w676 w.heap.size (fun k_ => k_ ≠ gb530 ∧ k_ ≠ gb534 ∧ k_ ≠ gb538 ∧ k_ ≠ gb554) (.slice Ao671 t615.length co671) t615) := ⟨h0_⟩
  have n1_ : Az (w676.heap[gb509]? = some (.cells #[.int .i64 t501, .int .i64 t502, .int .i64 t503, .int .i64 t504] 25 (0, 0))) := ⟨h1_⟩
  have n2_ : Az (w676.heap[gb510]? = some (.cells #[.int .i64 t505, .int .i64 t506, .int .i64 t507, .int .i64 t508] 25 (0, 0))) := ⟨h2_⟩
  have n3_ : Az (w676.heap[gb516]? = some (.cells #[.int .i64 t511, .int .i64 t512, .int .i64 t513, .int .i64 t514] 25 (0, 0))) := ⟨h3_⟩
  have n4_ : Az (w676.heap[gb522]? = some (.cells #[.int .i64 t517, .int .i64 t518, .int .i64 t519, .int .i64 t520] 25 (0, 0))) := ⟨h4_⟩
  have n5_ : Az (w676.heap[gb529]? = some (.cells #[.int .i64 t523, .int .i64 t524, .int .i64 t525, .int .i64 t526] 25 (0, 0))) := ⟨h5_⟩
  have n6_ : Az (w676.heap[gb530]? = some (.cells #[.int .i64 t527, .int .i64 t528] 35 (0, 0))) := ⟨h6_⟩
  have n7_ : Az (w676.heap[gb534]? = some (.cells #[.int .i64 t531, .int .i64 t532] 35 (0, 0))) := ⟨h7_⟩
  have n8_ : Az (w676.heap[gb538]? = some (.cells #[.int .i64 t535, .int .i64 t536] 35 (0, 0))) := ⟨h8_⟩
  have n9_ : Az (w676.heap[gb545]? = some (.cells #[.int .i64 t540, .int .i64 t541, .int .i64 t542, .int .i64 t543] 25 (0, 0))) := ⟨h9_⟩
  have n10_ : Az (w676.heap[gb551]? = some (.cells #[.int .i64 t546, .int .i64 t547, .int .i64 t548, .int .i64 t549] 25 (0, 0))) := ⟨h10_⟩
  have n11_ : Az (w676.heap[gb554]? = some (.cells #[.int .i64 t552, .int .i64 t553] 35 (0, 0))) := ⟨h11_⟩
  have n12_ : Az (w676.heap[gb633]? = some (.cells #[.int .i64 0, .int .i64 0, .int .i64 0, .int .i64 0] 25 (0, 0))) := ⟨h12_⟩
  have n13_ : Az (w.heap.size ≤ gb633) := ⟨h13_⟩
  have n14_ : Az (w.heap.size ≤ gb633) := ⟨h14_⟩
  have n15_ : Az (gb509 ≠ gb633) := ⟨h15_⟩
  have n16_ : Az (gb633 ≠ gb509) := ⟨h16_⟩
  have n17_ : Az (gb510 ≠ gb633) := ⟨h17_⟩
  have n18_ : Az (gb633 ≠ gb510) := ⟨h18_⟩
  have n19_ : Az (gb516 ≠ gb633) := ⟨h19_⟩
  have n20_ : Az (gb633 ≠ gb516) := ⟨h20_⟩
  have n21_ : Az (gb522 ≠ gb633) := ⟨h21_⟩
  have n22_ : Az (gb633 ≠ gb522) := ⟨h22_⟩
  have n23_ : Az (gb529 ≠ gb633) := ⟨h23_⟩
  have n24_ : Az (gb633 ≠ gb529) := ⟨h24_⟩
  have n25_ : Az (gb530 ≠ gb633) := ⟨h25_⟩
  have n26_ : Az (gb633 ≠ gb530) := ⟨h26_⟩
  have n27_ : Az (gb534 ≠ gb633) := ⟨h27_⟩
  have n28_ : Az (gb633 ≠ gb534) := ⟨h28_⟩
  have n29_ : Az (gb538 ≠ gb633) := ⟨h29_⟩
  have n30_ : Az (gb633 ≠ gb538) := ⟨h30_⟩
  have n31_ : Az (gb545 ≠ gb633) := ⟨h31_⟩
  have n32_ : Az (gb633 ≠ gb545) := ⟨h32_⟩
  have n33_ : Az (gb551 ≠ gb633) := ⟨h33_⟩
  have n34_ : Az (gb633 ≠ gb551) := ⟨h34_⟩
  have n35_ : Az (gb554 ≠ gb633) := ⟨h35_⟩
  have n36_ : Az (gb633 ≠ gb554) := ⟨h36_⟩
  have n37_ : Az (Below w.heap.size w w676) := ⟨h37_⟩
  clear HO_34
  clear BK509
  clear BK510
  clear BK516
  clear BK522
  clear BK529
  clear BK530
  clear BK534
  clear BK538
  clear BK545
  clear BK551
  clear BK554
  clear HB
  clear h0_ h1_ h2_ h3_ h4_ h5_ h6_ h7_ h8_ h9_ h10_ h11_ h12_ h13_ h14_ h15_ h16_ h17_ h18_ h19_ h20_ h21_ h22_ h23_ h24_ h25_ h26_ h27_ h28_ h29_ h30_ h31_ h32_ h33_ h34_ h35_ h36_ h37_
  have HO_34 := n0_
  have BK509 := n1_
  have BK510 := n2_
  have BK516 := n3_
  have BK522 := n4_
  have BK529 := n5_
  have BK530 := n6_
  have BK534 := n7_
  have BK538 := n8_
  have BK545 := n9_
  have BK551 := n10_
  have BK554 := n11_
  have BK633 := n12_
  have GW633 := n13_
  have GE633 := n14_
  have NB509_633 := n15_
  have NB633_509 := n16_
  have NB510_633 := n17_
  have NB633_510 := n18_
  have NB516_633 := n19_
  have NB633_516 := n20_
  have NB522_633 := n21_
  have NB633_522 := n22_
  have NB529_633 := n23_
  have NB633_529 := n24_
  have NB530_633 := n25_
  have NB633_530 := n26_
  have NB534_633 := n27_
  have NB633_534 := n28_
  have NB538_633 := n29_
  have NB633_538 := n30_
  have NB545_633 := n31_
  have NB633_545 := n32_
  have NB551_633 := n33_
  have NB633_551 := n34_
  have NB554_633 := n35_
  have NB633_554 := n36_
  have HB := n37_
  clear n0_ n1_ n2_ n3_ n4_ n5_ n6_ n7_ n8_ n9_ n10_ n11_ n12_ n13_ n14_ n15_ n16_ n17_ n18_ n19_ n20_ n21_ n22_ n23_ n24_ n25_ n26_ n27_ n28_ n29_ n30_ n31_ n32_ n33_ n34_ n35_ n36_ n37_
  have hHeld : w676.cell? ⟨gb509, 0, none⟩ = some (.int .i64 t501) ∧ w676.cell? ⟨gb509, 1, none⟩ = some (.int .i64 t502) ∧ w676.cell? ⟨gb509, 2, none⟩ = some (.int .i64 t503) ∧ w676.cell? ⟨gb509, 3, none⟩ = some (.int .i64 t504) := hS_
  refine norm_ (a' := ?_) ?_ ?_
  rotate_left
  ·simp only [putAll, Act.put, List.setIfInBounds_toArray, List.set_cons_zero, List.set_cons_succ]
   rfl
  refine one_ (i := 8) (N := none) #[T,T,T,T,T,T,T,T,T,F] rfl rfl (one_of HT_.out z27_2) (by decide) (fun K hK => ?_)
  have hs677 := bkc0 BK633
  have hfs677 := bkF BK633.out 0
  have hns677_0 := NB509_633.out
  have hns677_1 := NB510_633.out
  have hns677_2 := NB516_633.out
  have hns677_3 := NB522_633.out
  have hns677_4 := NB529_633.out
  have hns677_5 := NB530_633.out
  have hns677_6 := NB534_633.out
  have hns677_7 := NB538_633.out
  have hns677_8 := NB545_633.out
  have hns677_9 := NB551_633.out
  have hns677_10 := NB554_633.out
  have hms677_0 := NB633_509.out
  have hms677_1 := NB633_510.out
  have hms677_2 := NB633_516.out
  have hms677_3 := NB633_522.out
  have hms677_4 := NB633_529.out
  have hms677_5 := NB633_530.out
  have hms677_6 := NB633_534.out
  have hms677_7 := NB633_538.out
  have hms677_8 := NB633_545.out
  have hms677_9 := NB633_551.out
  have hms677_10 := NB633_554.out
  have hs678 := bkc1 BK633
  have hfs678 := bkF BK633.out 1
  have hns678_0 := NB509_633.out
  have hns678_1 := NB510_633.out
  have hns678_2 := NB516_633.out
  have hns678_3 := NB522_633.out
  have hns678_4 := NB529_633.out
  have hns678_5 := NB530_633.out
  have hns678_6 := NB534_633.out
  have hns678_7 := NB538_633.out
  have hns678_8 := NB545_633.out
  have hns678_9 := NB551_633.out
  have hns678_10 := NB554_633.out
  have hms678_0 := NB633_509.out
  have hms678_1 := NB633_510.out
  have hms678_2 := NB633_516.out
  have hms678_3 := NB633_522.out
  have hms678_4 := NB633_529.out
  have hms678_5 := NB633_530.out
  have hms678_6 := NB633_534.out
  have hms678_7 := NB633_538.out
  have hms678_8 := NB633_545.out
  have hms678_9 := NB633_551.out
  have hms678_10 := NB633_554.out
  have hs679 := bkc2 BK633
  have hfs679 := bkF BK633.out 2
  have hns679_0 := NB509_633.out
  have hns679_1 := NB510_633.out
  have hns679_2 := NB516_633.out
  have hns679_3 := NB522_633.out
  have hns679_4 := NB529_633.out
  have hns679_5 := NB530_633.out
  have hns679_6 := NB534_633.out
  have hns679_7 := NB538_633.out
  have hns679_8 := NB545_633.out
  have hns679_9 := NB551_633.out
  have hns679_10 := NB554_633.out
  have hms679_0 := NB633_509.out
  have hms679_1 := NB633_510.out
  have hms679_2 := NB633_516.out
  have hms679_3 := NB633_522.out
  have hms679_4 := NB633_529.out
  have hms679_5 := NB633_530.out
  have hms679_6 := NB633_534.out
  have hms679_7 := NB633_538.out
  have hms679_8 := NB633_545.out
  have hms679_9 := NB633_551.out
  have hms679_10 := NB633_554.out
  have hs680 := bkc3 BK633
  have hfs680 := bkF BK633.out 3
  have hns680_0 := NB509_633.out
  have hns680_1 := NB510_633.out
  have hns680_2 := NB516_633.out
  have hns680_3 := NB522_633.out
  have hns680_4 := NB529_633.out
  have hns680_5 := NB530_633.out
  have hns680_6 := NB534_633.out
  have hns680_7 := NB538_633.out
  have hns680_8 := NB545_633.out
  have hns680_9 := NB551_633.out
  have hns680_10 := NB554_633.out
  have hms680_0 := NB633_509.out
  have hms680_1 := NB633_510.out
  have hms680_2 := NB633_516.out
  have hms680_3 := NB633_522.out
  have hms680_4 := NB633_529.out
  have hms680_5 := NB633_530.out
  have hms680_6 := NB633_534.out
  have hms680_7 := NB633_538.out
  have hms680_8 := NB633_545.out
  have hms680_9 := NB633_551.out
  have hms680_10 := NB633_554.out
  refine skip_ (w1 := ?_) (by rfl) rfl ?_ ?_
  rotate_left
  ·go_simp
   rfl
  refine hK.out _ _ ⟨((cell_far (p := ⟨gb633, _, none⟩) NB509_633.out _).trans (((cell_far (p := ⟨gb633, _, none⟩) NB509_633.out _).trans (((cell_far (p := ⟨gb633, _, none⟩) NB509_633.out _).trans (((cell_far (p := ⟨gb633, _, none⟩) NB509_633.out _).trans (hHeld.1)))))))), ((cell_far (p := ⟨gb633, _, none⟩) NB509_633.out _).trans (((cell_far (p := ⟨gb633, _, none⟩) NB509_633.out _).trans (((cell_far (p := ⟨gb633, _, none⟩) NB509_633.out _).trans (((cell_far (p := ⟨gb633, _, none⟩) NB509_633.out _).trans (hHeld.2.1)))))))), ((cell_far (p := ⟨gb633, _, none⟩) NB509_633.out _).trans (((cell_far (p := ⟨gb633, _, none⟩) NB509_633.out _).trans (((cell_far (p := ⟨gb633, _, none⟩) NB509_633.out _).trans (((cell_far (p := ⟨gb633, _, none⟩) NB509_633.out _).trans (hHeld.2.2.1)))))))), ((cell_far (p := ⟨gb633, _, none⟩) NB509_633.out _).trans (((cell_far (p := ⟨gb633, _, none⟩) NB509_633.out _).trans (((cell_far (p := ⟨gb633, _, none⟩) NB509_633.out _).trans (((cell_far (p := ⟨gb633, _, none⟩) NB509_633.out _).trans (hHeld.2.2.2))))))))⟩ (fun hHeld => ?_)
  clear hK K
  refine pu (i := 9) (N := some 39) #[T,T,T,T,T,T,T,T,T,T] (any_of HT_.out z27_2) ?_
  refine done_ (done_of HT_.out z27_2) ?_
  try go_wp2
  have n0_ : Az (Kd.R k35 35 ((((w676.setCell ⟨gb633, 0, none⟩ (.int .i64 t628)).setCell ⟨gb633, 1, none⟩ (.int .i64 t629)).setCell ⟨gb633, 2, none⟩ (.int .i64 t630)).setCell ⟨gb633, 3, none⟩ (.int .i64 t631)) w.heap.size (fun k_ => k_ ≠ gb530 ∧ k_ ≠ gb534 ∧ k_ ≠ gb538 ∧ k_ ≠ gb554) (.slice Ao671 t615.length co671) t615) := ⟨by (with_reducible repeat (first | apply Kd.R_alloc | apply Kd.R_drewN | apply Kd.R_drew)); exact Kd.R_mono (Kd.R_far (p := ⟨gb633, 3, none⟩) (Kd.R_far (p := ⟨gb633, 2, none⟩) (Kd.R_far (p := ⟨gb633, 1, none⟩) (Kd.R_far (p := ⟨gb633, 0, none⟩) (Kd.R_types HO_34.out BK633.out (by decide)) (fun _ hk => hk.2) (.int .i64 t628)) (fun _ hk => hk.2) (.int .i64 t629)) (fun _ hk => hk.2) (.int .i64 t630)) (fun _ hk => hk.2) (.int .i64 t631)) (fun _ hk => ⟨hk.1.1, ⟨hk.1.2.1, ⟨hk.1.2.2.1, hk.1.2.2.2⟩⟩⟩)⟩
  have n1_ : Az (((((w676.setCell ⟨gb633, 0, none⟩ (.int .i64 t628)).setCell ⟨gb633, 1, none⟩ (.int .i64 t629)).setCell ⟨gb633, 2, none⟩ (.int .i64 t630)).setCell ⟨gb633, 3, none⟩ (.int .i64 t631)).heap[gb509]? = some (.cells #[.int .i64 t501, .int .i64 t502, .int .i64 t503, .int .i64 t504] 25 (0, 0))) := ⟨bkv⟩
  have n2_ : Az (((((w676.setCell ⟨gb633, 0, none⟩ (.int .i64 t628)).setCell ⟨gb633, 1, none⟩ (.int .i64 t629)).setCell ⟨gb633, 2, none⟩ (.int .i64 t630)).setCell ⟨gb633, 3, none⟩ (.int .i64 t631)).heap[gb510]? = some (.cells #[.int .i64 t505, .int .i64 t506, .int .i64 t507, .int .i64 t508] 25 (0, 0))) := ⟨bkv⟩
  have n3_ : Az (((((w676.setCell ⟨gb633, 0, none⟩ (.int .i64 t628)).setCell ⟨gb633, 1, none⟩ (.int .i64 t629)).setCell ⟨gb633, 2, none⟩ (.int .i64 t630)).setCell ⟨gb633, 3, none⟩ (.int .i64 t631)).heap[gb516]? = some (.cells #[.int .i64 t511, .int .i64 t512, .int .i64 t513, .int .i64 t514] 25 (0, 0))) := ⟨bkv⟩
  have n4_ : Az (((((w676.setCell ⟨gb633, 0, none⟩ (.int .i64 t628)).setCell ⟨gb633, 1, none⟩ (.int .i64 t629)).setCell ⟨gb633, 2, none⟩ (.int .i64 t630)).setCell ⟨gb633, 3, none⟩ (.int .i64 t631)).heap[gb522]? = some (.cells #[.int .i64 t517, .int .i64 t518, .int .i64 t519, .int .i64 t520] 25 (0, 0))) := ⟨bkv⟩
  have n5_ : Az (((((w676.setCell ⟨gb633, 0, none⟩ (.int .i64 t628)).setCell ⟨gb633, 1, none⟩ (.int .i64 t629)).setCell ⟨gb633, 2, none⟩ (.int .i64 t630)).setCell ⟨gb633, 3, none⟩ (.int .i64 t631)).heap[gb529]? = some (.cells #[.int .i64 t523, .int .i64 t524, .int .i64 t525, .int .i64 t526] 25 (0, 0))) := ⟨bkv⟩
  have n6_ : Az (((((w676.setCell ⟨gb633, 0, none⟩ (.int .i64 t628)).setCell ⟨gb633, 1, none⟩ (.int .i64 t629)).setCell ⟨gb633, 2, none⟩ (.int .i64 t630)).setCell ⟨gb633, 3, none⟩ (.int .i64 t631)).heap[gb530]? = some (.cells #[.int .i64 t527, .int .i64 t528] 35 (0, 0))) := ⟨bkv⟩
  have n7_ : Az (((((w676.setCell ⟨gb633, 0, none⟩ (.int .i64 t628)).setCell ⟨gb633, 1, none⟩ (.int .i64 t629)).setCell ⟨gb633, 2, none⟩ (.int .i64 t630)).setCell ⟨gb633, 3, none⟩ (.int .i64 t631)).heap[gb534]? = some (.cells #[.int .i64 t531, .int .i64 t532] 35 (0, 0))) := ⟨bkv⟩
  have n8_ : Az (((((w676.setCell ⟨gb633, 0, none⟩ (.int .i64 t628)).setCell ⟨gb633, 1, none⟩ (.int .i64 t629)).setCell ⟨gb633, 2, none⟩ (.int .i64 t630)).setCell ⟨gb633, 3, none⟩ (.int .i64 t631)).heap[gb538]? = some (.cells #[.int .i64 t535, .int .i64 t536] 35 (0, 0))) := ⟨bkv⟩
  have n9_ : Az (((((w676.setCell ⟨gb633, 0, none⟩ (.int .i64 t628)).setCell ⟨gb633, 1, none⟩ (.int .i64 t629)).setCell ⟨gb633, 2, none⟩ (.int .i64 t630)).setCell ⟨gb633, 3, none⟩ (.int .i64 t631)).heap[gb545]? = some (.cells #[.int .i64 t540, .int .i64 t541, .int .i64 t542, .int .i64 t543] 25 (0, 0))) := ⟨bkv⟩
  have n10_ : Az (((((w676.setCell ⟨gb633, 0, none⟩ (.int .i64 t628)).setCell ⟨gb633, 1, none⟩ (.int .i64 t629)).setCell ⟨gb633, 2, none⟩ (.int .i64 t630)).setCell ⟨gb633, 3, none⟩ (.int .i64 t631)).heap[gb551]? = some (.cells #[.int .i64 t546, .int .i64 t547, .int .i64 t548, .int .i64 t549] 25 (0, 0))) := ⟨bkv⟩
  have n11_ : Az (((((w676.setCell ⟨gb633, 0, none⟩ (.int .i64 t628)).setCell ⟨gb633, 1, none⟩ (.int .i64 t629)).setCell ⟨gb633, 2, none⟩ (.int .i64 t630)).setCell ⟨gb633, 3, none⟩ (.int .i64 t631)).heap[gb554]? = some (.cells #[.int .i64 t552, .int .i64 t553] 35 (0, 0))) := ⟨bkv⟩
  have n12_ : Az (((((w676.setCell ⟨gb633, 0, none⟩ (.int .i64 t628)).setCell ⟨gb633, 1, none⟩ (.int .i64 t629)).setCell ⟨gb633, 2, none⟩ (.int .i64 t630)).setCell ⟨gb633, 3, none⟩ (.int .i64 t631)).heap[gb633]? = some (.cells #[.int .i64 t628, .int .i64 t629, .int .i64 t630, .int .i64 t631] 25 (0, 0))) := ⟨bkv⟩
  have n13_ : Az (Below w.heap.size w ((((w676.setCell ⟨gb633, 0, none⟩ (.int .i64 t628)).setCell ⟨gb633, 1, none⟩ (.int .i64 t629)).setCell ⟨gb633, 2, none⟩ (.int .i64 t630)).setCell ⟨gb633, 3, none⟩ (.int .i64 t631))) := ⟨bw_27⟩
  (try clear HO_34)
  (try clear BK509)
  (try clear BK510)
  (try clear BK516)
  (try clear BK522)
  (try clear BK529)
  (try clear BK530)
  (try clear BK534)
  (try clear BK538)
  (try clear BK545)
  (try clear BK551)
  (try clear BK554)
  (try clear BK633)
  (try clear HB)
  generalize ((((w676.setCell ⟨gb633, 0, none⟩ (.int .i64 t628)).setCell ⟨gb633, 1, none⟩ (.int .i64 t629)).setCell ⟨gb633, 2, none⟩ (.int .i64 t630)).setCell ⟨gb633, 3, none⟩ (.int .i64 t631)) = w681 at n0_ n1_ n2_ n3_ n4_ n5_ n6_ n7_ n8_ n9_ n10_ n11_ n12_ n13_ ⊢
  have HO_34 := n0_
  have BK509 := n1_
  have BK510 := n2_
  have BK516 := n3_
  have BK522 := n4_
  have BK529 := n5_
  have BK530 := n6_
  have BK534 := n7_
  have BK538 := n8_
  have BK545 := n9_
  have BK551 := n10_
  have BK554 := n11_
  have BK633 := n12_
  have HB := n13_
  clear n0_ n1_ n2_ n3_ n4_ n5_ n6_ n7_ n8_ n9_ n10_ n11_ n12_ n13_
  replace HO_34 := Az.mk (Kd.R_drew HO_34.out); replace BK509 := Az.mk (bkD BK509.out); replace BK510 := Az.mk (bkD BK510.out); replace BK516 := Az.mk (bkD BK516.out); replace BK522 := Az.mk (bkD BK522.out); replace BK529 := Az.mk (bkD BK529.out); replace BK530 := Az.mk (bkD BK530.out); replace BK534 := Az.mk (bkD BK534.out); replace BK538 := Az.mk (bkD BK538.out); replace BK545 := Az.mk (bkD BK545.out); replace BK551 := Az.mk (bkD BK551.out); replace BK554 := Az.mk (bkD BK554.out); replace BK633 := Az.mk (bkD BK633.out); replace HB := Az.mk (bwD HB.out)
  refine start_ (n := 30) (S := fun w' => w'.cell? ⟨gb633, 0, none⟩ = some (.int .i64 t628) ∧ w'.cell? ⟨gb633, 1, none⟩ = some (.int .i64 t629) ∧ w'.cell? ⟨gb633, 2, none⟩ = some (.int .i64 t630) ∧ w'.cell? ⟨gb633, 3, none⟩ = some (.int .i64 t631) ∧ w'.cell? ⟨gb509, 0, none⟩ = some (.int .i64 t501) ∧ w'.cell? ⟨gb509, 1, none⟩ = some (.int .i64 t502) ∧ w'.cell? ⟨gb509, 2, none⟩ = some (.int .i64 t503) ∧ w'.cell? ⟨gb509, 3, none⟩ = some (.int .i64 t504)) (ds := []) #[F,F,F,F,F,F,F,F,F,F,F,F,F,F,F,F,F,F,F,F,F,F,F,F,F,F,F,F,F,F] z27_2 rfl rfl cs_ (fun hHeld => ?_); refine with_tabW laws_FnMatrices.tab41 laws_FnMatrices.bits41 (fun HT_ HW_ => ?_)
  generalize w681.drew = w682 at HO_34 BK509 BK510 BK516 BK522 BK529 BK530 BK534 BK538 BK545 BK551 BK554 BK633 HB hHeld ⊢
  refine pu (i := 0) (N := some 290) #[T,F,F,F,F,F,F,F,F,F,F,F,F,F,F,F,F,F,F,F,F,F,F,F,F,F,F,F,F,F] (any_of HT_.out z27_2) ?_
  refine pu (i := 1) (N := some 291) #[T,T,F,F,F,F,F,F,F,F,F,F,F,F,F,F,F,F,F,F,F,F,F,F,F,F,F,F,F,F] (any_of HT_.out z27_2) ?_
  refine pu (i := 3) (N := some 293) #[T,T,F,T,F,F,F,F,F,F,F,F,F,F,F,F,F,F,F,F,F,F,F,F,F,F,F,F,F,F] (any_of HT_.out z27_2) ?_
  refine take_ (i := 2) (N := some 292) (v := ?_) (a' := ?_) #[T,T,T,T,F,F,F,F,F,F,F,F,F,F,F,F,F,F,F,F,F,F,F,F,F,F,F,F,F,F] rfl rfl (take_ofW HT_.out HW_.out z27_2) (fun _ _ _ h => h) (Or.inl ⟨by rfl, ?_⟩) hHeld ?_ ?_
  rotate_left
  ·rintro w' ⟨s0, s1, s2, s3, s4, s5, s6, s7⟩
   go_simp
   with_reducible rfl
  rotate_left
  ·exact acq
  refine pu (i := 4) (N := some 294) #[T,T,T,T,T,F,F,F,F,F,F,F,F,F,F,F,F,F,F,F,F,F,F,F,F,F,F,F,F,F] (any_of HT_.out z27_2) ?_
  refine pu (i := 5) (N := some 295) #[T,T,T,T,T,T,F,F,F,F,F,F,F,F,F,F,F,F,F,F,F,F,F,F,F,F,F,F,F,F] (any_of HT_.out z27_2) ?_
  refine pu (i := 6) (N := some 296) #[T,T,T,T,T,T,T,F,F,F,F,F,F,F,F,F,F,F,F,F,F,F,F,F,F,F,F,F,F,F] (any_of HT_.out z27_2) ?_
  refine take_ (i := 7) (N := some 297) (v := ?_) (a' := ?_) #[T,T,T,T,T,T,T,T,F,F,F,F,F,F,F,F,F,F,F,F,F,F,F,F,F,F,F,F,F,F] rfl rfl (take_ofW HT_.out HW_.out z27_2) (fun _ _ _ h => h) (Or.inl ⟨by rfl, ?_⟩) hHeld ?_ ?_
  rotate_left
  ·rintro w' ⟨s0, s1, s2, s3, s4, s5, s6, s7⟩
   go_simp
   with_reducible rfl
  rotate_left
  ·exact acq
  refine take_ (i := 10) (N := some 300) (v := ?_) (a' := ?_) #[T,T,T,T,T,T,T,T,F,F,T,F,F,F,F,F,F,F,F,F,F,F,F,F,F,F,F,F,F,F] rfl rfl (take_ofW HT_.out HW_.out z27_2) (fun _ _ _ h => h) (Or.inl ⟨by rfl, ?_⟩) hHeld ?_ ?_
  rotate_left
  ·rintro w' ⟨s0, s1, s2, s3, s4, s5, s6, s7⟩
   go_simp
   with_reducible rfl
  rotate_left
  ·exact acq
  refine one_ (i := 8) (N := some 298) #[T,T,T,T,T,T,T,T,T,F,T,F,F,F,F,F,F,F,F,F,F,F,F,F,F,F,F,F,F,F] rfl rfl (one_of HT_.out z27_2) (by decide) (fun K hK => ?_)
  refine goes_ Tryd.func29 z27_2 rfl #[.agg #[.int .i64 t501, .int .i64 t502, .int .i64 t503, .int .i64 t504]] (by rfl) rfl rfl ln_27 ?_
  with_reducible refine (impl_OrderOf.calls k4 t501 t502 t503 t504 t634 _ A648.out).mono ?_
  rintro e w683 ⟨rfl, hb⟩
  refine ⟨_, rfl, ?_⟩
  replace HO_34 := Az.mk (Kd.R_below z27_0 hb); replace BK509 := bkz BK509 hb; replace BK510 := bkz BK510 hb; replace BK516 := bkz BK516 hb; replace BK522 := bkz BK522 hb; replace BK529 := bkz BK529 hb; replace BK530 := bkz BK530 hb; replace BK534 := bkz BK534 hb; replace BK538 := bkz BK538 hb; replace BK545 := bkz BK545 hb; replace BK551 := bkz BK551 hb; replace BK554 := bkz BK554 hb; replace BK633 := bkz BK633 hb; replace HB := Az.mk (bwT bw_27 hb)
  (try clear hb)
  (try clear hb2)
  (try clear hk)
  (try clear hi)
  refine hK.out _ _ cs_ (fun hHeld => ?_)
  clear hK K
  refine norm_ (a' := ?_) ?_ ?_
  rotate_left
  ·show Act.put _ (some 298) _ = _
   exact acq
  refine pu (i := 9) (N := some 299) #[T,T,T,T,T,T,T,T,T,T,T,F,F,F,F,F,F,F,F,F,F,F,F,F,F,F,F,F,F,F] (any_of HT_.out z27_2) ?_
  refine one_ (i := 11) (N := some 301) #[T,T,T,T,T,T,T,T,T,T,T,T,F,F,F,F,F,F,F,F,F,F,F,F,F,F,F,F,F,F] rfl rfl (one_of HT_.out z27_2) (by decide) (fun K hK => ?_)
  refine goes_ Tryd.func27 z27_2 rfl #[.agg #[.int .i64 t501, .int .i64 t502, .int .i64 t503, .int .i64 t504]] (by rfl) rfl rfl ln_27 ?_
  with_reducible refine (impl_KindOf.calls k4 t501 t502 t503 t504 t635 _ A649.out).mono ?_
  rintro e w684 ⟨rfl, hb⟩
  refine ⟨_, rfl, ?_⟩
  replace HO_34 := Az.mk (Kd.R_below z27_0 hb); replace BK509 := bkz BK509 hb; replace BK510 := bkz BK510 hb; replace BK516 := bkz BK516 hb; replace BK522 := bkz BK522 hb; replace BK529 := bkz BK529 hb; replace BK530 := bkz BK530 hb; replace BK534 := bkz BK534 hb; replace BK538 := bkz BK538 hb; replace BK545 := bkz BK545 hb; replace BK551 := bkz BK551 hb; replace BK554 := bkz BK554 hb; replace BK633 := bkz BK633 hb; replace HB := Az.mk (bwT bw_27 hb)
  (try clear hb)
  (try clear hb2)
  (try clear hk)
  (try clear hi)
  refine hK.out _ _ cs_ (fun hHeld => ?_)
  clear hK K
  refine norm_ (a' := ?_) ?_ ?_
  rotate_left
  ·show Act.put _ (some 301) _ = _
   exact acq
  refine pu (i := 12) (N := some 302) #[T,T,T,T,T,T,T,T,T,T,T,T,T,F,F,F,F,F,F,F,F,F,F,F,F,F,F,F,F,F] (any_of HT_.out z27_2) ?_
  refine pu (i := 13) (N := some 303) #[T,T,T,T,T,T,T,T,T,T,T,T,T,T,F,F,F,F,F,F,F,F,F,F,F,F,F,F,F,F] (any_of HT_.out z27_2) ?_
  refine take_ (i := 14) (N := some 304) (v := ?_) (a' := ?_) #[T,T,T,T,T,T,T,T,T,T,T,T,T,T,T,F,F,F,F,F,F,F,F,F,F,F,F,F,F,F] rfl rfl (take_ofW HT_.out HW_.out z27_2) (fun _ _ _ h => h) (Or.inl ⟨by rfl, ?_⟩) hHeld ?_ ?_
  rotate_left
  ·rintro w' ⟨s0, s1, s2, s3, s4, s5, s6, s7⟩
   go_simp
   with_reducible rfl
  rotate_left
  ·exact acq
  refine one_ (i := 15) (N := some 305) #[T,T,T,T,T,T,T,T,T,T,T,T,T,T,T,T,F,F,F,F,F,F,F,F,F,F,F,F,F,F] rfl rfl (one_of HT_.out z27_2) (by decide) (fun K hK => ?_)
  refine goes_ Tryd.func27 z27_2 rfl #[.agg #[.int .i64 t501, .int .i64 t502, .int .i64 t503, .int .i64 t504]] (by rfl) rfl rfl ln_27 ?_
  with_reducible refine (impl_KindOf.calls k4 t501 t502 t503 t504 t637 _ A668.out).mono ?_
  rintro e w685 ⟨rfl, hb⟩
  refine ⟨_, rfl, ?_⟩
  replace HO_34 := Az.mk (Kd.R_below z27_0 hb); replace BK509 := bkz BK509 hb; replace BK510 := bkz BK510 hb; replace BK516 := bkz BK516 hb; replace BK522 := bkz BK522 hb; replace BK529 := bkz BK529 hb; replace BK530 := bkz BK530 hb; replace BK534 := bkz BK534 hb; replace BK538 := bkz BK538 hb; replace BK545 := bkz BK545 hb; replace BK551 := bkz BK551 hb; replace BK554 := bkz BK554 hb; replace BK633 := bkz BK633 hb; replace HB := Az.mk (bwT bw_27 hb)
  (try clear hb)
  (try clear hb2)
  (try clear hk)
  (try clear hi)
  refine hK.out _ _ cs_ (fun hHeld => ?_)
  clear hK K
  refine norm_ (a' := ?_) ?_ ?_
  rotate_left
  ·show Act.put _ (some 305) _ = _
   exact acq
  refine pu (i := 16) (N := some 306) #[T,T,T,T,T,T,T,T,T,T,T,T,T,T,T,T,T,F,F,F,F,F,F,F,F,F,F,F,F,F] (any_of HT_.out z27_2) ?_
  refine pu (i := 17) (N := some 307) #[T,T,T,T,T,T,T,T,T,T,T,T,T,T,T,T,T,T,F,F,F,F,F,F,F,F,F,F,F,F] (any_of HT_.out z27_2) ?_
  refine pu (i := 18) (N := some 308) #[T,T,T,T,T,T,T,T,T,T,T,T,T,T,T,T,T,T,T,F,F,F,F,F,F,F,F,F,F,F] (any_of HT_.out z27_2) ?_
  refine pu (i := 19) (N := some 309) #[T,T,T,T,T,T,T,T,T,T,T,T,T,T,T,T,T,T,T,T,F,F,F,F,F,F,F,F,F,F] (any_of HT_.out z27_2) ?_
  refine pu (i := 20) (N := some 310) #[T,T,T,T,T,T,T,T,T,T,T,T,T,T,T,T,T,T,T,T,T,F,F,F,F,F,F,F,F,F] (any_of HT_.out z27_2) ?_
  refine pu (i := 21) (N := some 311) #[T,T,T,T,T,T,T,T,T,T,T,T,T,T,T,T,T,T,T,T,T,T,F,F,F,F,F,F,F,F] (any_of HT_.out z27_2) ?_
  refine pu (i := 22) (N := some 312) #[T,T,T,T,T,T,T,T,T,T,T,T,T,T,T,T,T,T,T,T,T,T,T,F,F,F,F,F,F,F] (any_of HT_.out z27_2) ?_
  refine pu (i := 23) (N := some 313) #[T,T,T,T,T,T,T,T,T,T,T,T,T,T,T,T,T,T,T,T,T,T,T,T,F,F,F,F,F,F] (any_of HT_.out z27_2) ?_
  refine take_ (i := 24) (N := some 314) (v := ?_) (a' := ?_) #[T,T,T,T,T,T,T,T,T,T,T,T,T,T,T,T,T,T,T,T,T,T,T,T,T,F,F,F,F,F] rfl rfl (take_ofW HT_.out HW_.out z27_2) (fun _ _ _ h => h) (Or.inl ⟨by rfl, ?_⟩) hHeld ?_ ?_
  rotate_left
  ·rintro w' ⟨s0, s1, s2, s3, s4, s5, s6, s7⟩
   go_simp
   with_reducible rfl
  rotate_left
  ·exact acq
  refine one_ (i := 25) (N := some 315) #[T,T,T,T,T,T,T,T,T,T,T,T,T,T,T,T,T,T,T,T,T,T,T,T,T,T,F,F,F,F] rfl rfl (one_of HT_.out z27_2) (by decide) (fun K hK => ?_)
  refine goes_ Tryd.func27 z27_2 rfl #[.agg #[.int .i64 t501, .int .i64 t502, .int .i64 t503, .int .i64 t504]] (by rfl) rfl rfl ln_27 ?_
  with_reducible refine (impl_KindOf.calls k4 t501 t502 t503 t504 t638 _ A670.out).mono ?_
  rintro e w686 ⟨rfl, hb⟩
  refine ⟨_, rfl, ?_⟩
  replace HO_34 := Az.mk (Kd.R_below z27_0 hb); replace BK509 := bkz BK509 hb; replace BK510 := bkz BK510 hb; replace BK516 := bkz BK516 hb; replace BK522 := bkz BK522 hb; replace BK529 := bkz BK529 hb; replace BK530 := bkz BK530 hb; replace BK534 := bkz BK534 hb; replace BK538 := bkz BK538 hb; replace BK545 := bkz BK545 hb; replace BK551 := bkz BK551 hb; replace BK554 := bkz BK554 hb; replace BK633 := bkz BK633 hb; replace HB := Az.mk (bwT bw_27 hb)
  (try clear hb)
  (try clear hb2)
  (try clear hk)
  (try clear hi)
  refine hK.out _ _ cs_ (fun hHeld => ?_)
  clear hK K
  refine norm_ (a' := ?_) ?_ ?_
  rotate_left
  ·show Act.put _ (some 315) _ = _
   exact acq
  refine pu (i := 26) (N := some 316) #[T,T,T,T,T,T,T,T,T,T,T,T,T,T,T,T,T,T,T,T,T,T,T,T,T,T,T,F,F,F] (any_of HT_.out z27_2) ?_
  refine pu (i := 27) (N := some 317) #[T,T,T,T,T,T,T,T,T,T,T,T,T,T,T,T,T,T,T,T,T,T,T,T,T,T,T,T,F,F] (any_of HT_.out z27_2) ?_
  refine pu (i := 28) (N := some 318) #[T,T,T,T,T,T,T,T,T,T,T,T,T,T,T,T,T,T,T,T,T,T,T,T,T,T,T,T,T,F] (any_of HT_.out z27_2) ?_
  refine pu (i := 29) (N := some 2) #[T,T,T,T,T,T,T,T,T,T,T,T,T,T,T,T,T,T,T,T,T,T,T,T,T,T,T,T,T,T] (any_of HT_.out z27_2) ?_
  refine done_ (done_of HT_.out z27_2) ?_
  try go_wp2
  go_ret
  exact ⟨rq1, bw_27⟩
end Go.Proofs.YtnoiijdffdpabaaDoor.P
