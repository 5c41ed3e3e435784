-- By this session's driver (wip/tools/mk.py) of the kit's print program, over several statements at once. Not trusted: Lean checks it.
import Derived.Test.YtigcjehokbgclaaQWZip
import Derived.Test.YtigcjehokbgclaaQPx0
import Derived.Test.YtigcjehokbgclaaQPx2
import Derived.Test.YtigcjehokbgclaaQPx5
import Derived.Test.YtigcjehokbgclaaQPx7
import Derived.Test.YtigcjehokbgclaaQPx8
import Derived.Test.YtigcjehokbgclaaQPx9
import Derived.Test.YtigcjehokbgclaaQPx10
import Derived.Test.YtigcjehokbgclaaQPx11
import Derived.Test.YtigcjehokbgclaaQPx12
import Derived.Test.YtigcjehokbgclaaQPx13
import Derived.Test.YtigcjehokbgclaaQPx15
import Derived.Test.YtigcjehokbgclaaQPx16
import Derived.Test.YtigcjehokbgclaaQPx19
import Derived.Test.YtigcjehokbgclaaQPx20
import Derived.Test.YtigcjehokbgclaaQPx22
import Derived.Test.YtigcjehokbgclaaQPx23
import Derived.Test.YtigcjehokbgclaaQPx24
namespace Go.Proofs.Ytigcjehokbgclaa.P
open Go.RowKit Go.Proofs.YtigcjehokbgclaaW.PrintWords Go.Proofs.YtigcjehokbgclaaW.PrintLast Go.Proofs.YtigcjehokbgclaaW.PrintMore
attribute [local go_sem] max2_int min2_int max_two min_two max_three min_three max_four min_four   -- for this text's walks alone
set_option linter.unusedVariables false
set_option linter.unusedSimpArgs false
theorem bw_27 {n : Nat} {v v' : World} (h : Below n v v' := by repeat (first | (with_reducible first | exact HB.out | apply bwA | apply pbN | apply bwD | refine bwS ?_ GE573.out | refine bwS ?_ GE574.out | refine bwS ?_ GE579.out | refine bwS ?_ GE587.out | refine bwS ?_ GE588.out | refine bwS ?_ GE594.out | refine bwS ?_ GE641.out | refine bwS ?_ GE642.out | refine bwS ?_ GE646.out | refine bwS ?_ GE650.out) | exact HB.out)) : Below n v v' := h
theorem ln_27 {P : Prop} (h : P := by (try simp only [List.map_toArray, List.map_cons, List.map_nil]); first | done | rfl | (simp only [List.length_drop, List.length_take]; rfl)) : P := h
open Option renaming bind_eq_some_iff → be

attribute [local go_sem high] eqA25
set_option maxHeartbeats 8000000 in
set_option maxRecDepth 100000 in
theorem laws_FnFarey.p36 (k : Nat) (A0 : Option Addr) (c0 : Nat) (l0 : List Int) (r : Bool) (w : World) (t569 t570 t571 t572 t575 t576 t577 t578 : Int) (t580 : List S25) (t583 t584 t585 t586 : Int) (t589 : List S25) (t592 t593 : Int) (t595 : List S25) (t598 : Bool) (t599 : List S25) (t602 : Bool) (gb573 : Nat) (GE573 : Az (w.heap.size ≤ gb573)) (gb574 : Nat) (GE574 : Az (w.heap.size ≤ gb574)) (NB573_574 : Az (gb573 ≠ gb574)) (NB574_573 : Az (gb574 ≠ gb573)) (gb579 : Nat) (GE579 : Az (w.heap.size ≤ gb579)) (NB573_579 : Az (gb573 ≠ gb579)) (NB579_573 : Az (gb579 ≠ gb573)) (NB574_579 : Az (gb574 ≠ gb579)) (NB579_574 : Az (gb579 ≠ gb574)) (gb587 : Nat) (GE587 : Az (w.heap.size ≤ gb587)) (NB573_587 : Az (gb573 ≠ gb587)) (NB587_573 : Az (gb587 ≠ gb573)) (NB574_587 : Az (gb574 ≠ gb587)) (NB587_574 : Az (gb587 ≠ gb574)) (gb588 : Nat) (GE588 : Az (w.heap.size ≤ gb588)) (NB573_588 : Az (gb573 ≠ gb588)) (NB588_573 : Az (gb588 ≠ gb573)) (NB574_588 : Az (gb574 ≠ gb588)) (NB588_574 : Az (gb588 ≠ gb574)) (gb594 : Nat) (GE594 : Az (w.heap.size ≤ gb594)) (NB573_594 : Az (gb573 ≠ gb594)) (NB594_573 : Az (gb594 ≠ gb573)) (NB574_594 : Az (gb574 ≠ gb594)) (NB594_574 : Az (gb594 ≠ gb574)) (Ao67 : Option Addr) (co67 : Nat) (Ao72 : Option Addr) (co72 : Nat) (Ao74 : Option Addr) (co74 : Nat) (Ao75 : Option Addr) (co75 nd kj23 : Nat) (HJ23 : Az (kj23 + 1 ≤ k)) (wr : World) (u18 u19 : Value) (x17_2 : Int) (k2 : Nat) (HK2 : Az (k2 + 1 ≤ kj23)) (kj149 : Nat) (HJ149 : Az (kj149 + 1 ≤ k2)) (u2 u20 u21 : Value) (kj164 : Nat) (HJ164 : Az (kj164 + 1 ≤ kj149)) (t635 t636 t637 t638 t639 t640 t643 t644 : Int) (t645 : Bool) (t647 t648 : Int) (t649 : Bool) (gb641 : Nat) (GE641 : Az (w.heap.size ≤ gb641)) (NB573_641 : Az (gb573 ≠ gb641)) (NB641_573 : Az (gb641 ≠ gb573)) (NB574_641 : Az (gb574 ≠ gb641)) (NB641_574 : Az (gb641 ≠ gb574)) (gb642 : Nat) (GE642 : Az (w.heap.size ≤ gb642)) (NB573_642 : Az (gb573 ≠ gb642)) (NB642_573 : Az (gb642 ≠ gb573)) (NB574_642 : Az (gb574 ≠ gb642)) (NB642_574 : Az (gb642 ≠ gb574)) (NB579_642 : Az (gb579 ≠ gb642)) (NB642_579 : Az (gb642 ≠ gb579)) (NB587_642 : Az (gb587 ≠ gb642)) (NB642_587 : Az (gb642 ≠ gb587)) (NB588_642 : Az (gb588 ≠ gb642)) (NB642_588 : Az (gb642 ≠ gb588)) (NB594_642 : Az (gb594 ≠ gb642)) (NB642_594 : Az (gb642 ≠ gb594)) (NB641_642 : Az (gb641 ≠ gb642)) (NB642_641 : Az (gb642 ≠ gb641)) (gb646 : Nat) (GE646 : Az (w.heap.size ≤ gb646)) (NB573_646 : Az (gb573 ≠ gb646)) (NB646_573 : Az (gb646 ≠ gb573)) (NB574_646 : Az (gb574 ≠ gb646)) (NB646_574 : Az (gb646 ≠ gb574)) (NB642_646 : Az (gb642 ≠ gb646)) (NB646_642 : Az (gb646 ≠ gb642)) (gb650 : Nat) (GE650 : Az (w.heap.size ≤ gb650)) (NB573_650 : Az (gb573 ≠ gb650)) (NB650_573 : Az (gb650 ≠ gb573)) (NB574_650 : Az (gb574 ≠ gb650)) (NB650_574 : Az (gb650 ≠ gb574)) (NB642_650 : Az (gb642 ≠ gb650)) (NB650_642 : Az (gb650 ≠ gb642)) (wc : World) (u30 u31 u32 u33 u34 u35 u36 u37 u38 u39 u40 u41 u42 u43 u44 u45 u46 u47 u48 u49 u50 u51 u52 u53 u54 u55 u56 u57 u58 u59 u60 u61 u62 u63 u64 u65 u66 u67 u68 u69 u70 u71 u72 u73 u74 u75 u76 u77 u78 u79 u80 u81 u82 u83 u84 u85 u86 u87 u88 u89 u90 u91 u92 u93 u94 u95 u96 u97 u98 u99 u100 u101 u102 u103 u104 u105 u106 u107 u108 u109 u110 u111 u112 u113 u114 u115 u116 u117 u118 u119 u120 u121 u122 u123 u124 u125 u126 u127 u128 u129 u130 u131 u132 u133 u134 u135 u136 u137 u138 u139 u140 u141 u142 u143 u144 u145 u146 u147 u148 u149 u150 u151 u152 u153 u154 u155 u156 u157 u158 u159 u160 u161 u162 u163 u164 u165 u166 u167 u168 u169 u170 u171 u172 u173 u174 u175 u176 u177 u178 u179 u180 u181 u182 u183 u184 u185 u186 u187 u188 u189 u190 u191 u192 u193 u194 u195 u196 u197 u198 u199 u200 u201 u202 u203 u204 u205 u206 u207 u208 u209 u210 u211 u212 u213 u214 u215 u216 u217 u218 u219 u220 u221 u222 u223 u224 u225 u226 u227 u228 u229 u230 u231 u232 u233 u234 u235 u236 u237 u238 u239 u240 u241 u242 u243 u244 u245 u246 u247 u248 u249 u251 u252 u253 u254 u255 u256 u257 u258 u259 u260 u261 u262 u263 u264 u265 u266 u267 u268 u269 u270 u271 u272 u273 u274 u275 u276 u277 u278 u279 u280 u281 u282 u283 u284 u285 u286 u287 u288 u289 u290 u291 u292 u293 u294 u295 u296 u297 u298 u299 u300 u301 u302 u303 u304 u305 u306 u307 u308 u309 u310 u311 u312 u313 u314 u315 u316 u317 u318 u319 u320 u321 u322 u323 u324 u325 u326 u327 u328 u329 u330 : Value) (BK573 : Az ((World.heap wc)[gb573]? = some (Obj.cells #[Value.int IntKind.i64 t569, Value.int IntKind.i64 t570] 25))) (BK574 : Az ((World.heap wc)[gb574]? = some (Obj.cells #[Value.int IntKind.i64 t571, Value.int IntKind.i64 t572] 25))) (BK579 : Az ((World.heap wc)[gb579]? = some (Obj.cells #[Value.int IntKind.i64 t576, Value.int IntKind.i64 t577] 25))) (BK587 : Az ((World.heap wc)[gb587]? = some (Obj.cells #[Value.int IntKind.i64 t583, Value.int IntKind.i64 t584] 25))) (BK588 : Az ((World.heap wc)[gb588]? = some (Obj.cells #[Value.int IntKind.i64 t585, Value.int IntKind.i64 t586] 25))) (BK594 : Az ((World.heap wc)[gb594]? = some (Obj.cells #[Value.int IntKind.i64 t592, Value.int IntKind.i64 t593] 25))) (BK641 : Az ((World.heap wc)[gb641]? = some (Obj.cells #[Value.int IntKind.i64 t635, Value.int IntKind.i64 t636, Value.int IntKind.i64 t637, Value.int IntKind.i64 t638] 41))) (BK642 : Az ((World.heap wc)[gb642]? = some (Obj.cells #[Value.int IntKind.i64 t639, Value.int IntKind.i64 t640] 25))) (BK646 : Az ((World.heap wc)[gb646]? = some (Obj.cells #[Value.int IntKind.i64 t643, Value.int IntKind.i64 t644] 25))) (BK650 : Az ((World.heap wc)[gb650]? = some (Obj.cells #[Value.int IntKind.i64 t647, Value.int IntKind.i64 t648] 25))) (HB : Az (Below (w.heap.size) w wc)) (kj183 : Nat) (HJ183 : Az (kj183 + 1 ≤ kj164)) (HC262 : Az ((Option.bind (spec_IsSlope.f kj183 t639 t640) fun (t652 : Bool) => if t652 = true then if t645 = true then Option.bind (laws_magnitude.f t569) fun (t653 : Int) => if t653 > 9 then laws_FnFarey.j5 kj183 t575 true t569 t570 t571 t572 else if t570 > 9 then laws_FnFarey.j5 kj183 t575 true t569 t570 t571 t572 else Option.bind (laws_magnitude.f t571) fun (t654 : Int) => if t654 > 9 then laws_FnFarey.j5 kj183 t575 true t569 t570 t571 t572 else laws_FnFarey.j5 kj183 t575 (Decidable.decide (t572 > 9)) t569 t570 t571 t572 else laws_FnFarey.j5 kj183 t575 true t569 t570 t571 t572 else laws_FnFarey.j5 kj183 t575 true t569 t570 t571 t572) = some r)) :
  Code.wp Try.prog (tailOf (Try.f3.body.getD .skip) 20) (bodyPost Try.prog Try.f3 (fun e w' => e = .returned (.bool r) ∧ Below w.heap.size w w')) ⟨#[Value.slice A0 (List.length l0) c0, undef, u2, Value.pointer (some ⟨gb573, 0, none⟩), Value.pointer (some ⟨gb574, 0, none⟩), Value.int IntKind.i64 t575, Value.pointer (some ⟨gb579, 0, none⟩), Value.int IntKind.i64 t578, Value.slice Ao67 (List.length t580) co67, Value.pointer (some ⟨gb587, 0, none⟩), Value.pointer (some ⟨gb588, 0, none⟩), Value.slice Ao72 (List.length t589) co72, Value.pointer (some ⟨gb594, 0, none⟩), Value.slice Ao74 (List.length t595) co74, Value.bool t598, Value.slice Ao75 (List.length t599) co75, Value.bool t602, Value.int IntKind.i64 x17_2, u18, u19, u20, u21, Value.pointer (some ⟨gb641, 0, none⟩), Value.pointer (some ⟨gb642, 0, none⟩), Value.pointer (some ⟨gb646, 0, none⟩), Value.bool t645, Value.pointer (some ⟨gb650, 0, none⟩), Value.bool t649, undef, undef, u30, u31, u32, u33, u34, u35, u36, u37, u38, u39, u40, u41, u42, u43, u44, u45, u46, u47, u48, u49, u50, u51, u52, u53, u54, u55, u56, u57, u58, u59, u60, u61, u62, u63, u64, u65, u66, u67, u68, u69, u70, u71, u72, u73, u74, u75, u76, u77, u78, u79, u80, u81, u82, u83, u84, u85, u86, u87, u88, u89, u90, u91, u92, u93, u94, u95, u96, u97, u98, u99, u100, u101, u102, u103, u104, u105, u106, u107, u108, u109, u110, u111, u112, u113, u114, u115, u116, u117, u118, u119, u120, u121, u122, u123, u124, u125, u126, u127, u128, u129, u130, u131, u132, u133, u134, u135, u136, u137, u138, u139, u140, u141, u142, u143, u144, u145, u146, u147, u148, u149, u150, u151, u152, u153, u154, u155, u156, u157, u158, u159, u160, u161, u162, u163, u164, u165, u166, u167, u168, u169, u170, u171, u172, u173, u174, u175, u176, u177, u178, u179, u180, u181, u182, u183, u184, u185, u186, u187, u188, u189, u190, u191, u192, u193, u194, u195, u196, u197, u198, u199, u200, u201, u202, u203, u204, u205, u206, u207, u208, u209, u210, u211, u212, u213, u214, u215, u216, u217, u218, u219, u220, u221, u222, u223, u224, u225, u226, u227, u228, u229, u230, u231, u232, u233, u234, u235, u236, u237, u238, u239, u240, u241, u242, u243, u244, u245, u246, u247, u248, u249, Value.bool false, u251, u252, u253, u254, u255, u256, u257, u258, u259, u260, u261, u262, u263, u264, u265, u266, u267, u268, u269, u270, u271, u272, u273, u274, u275, u276, u277, u278, u279, u280, u281, u282, u283, u284, u285, u286, u287, u288, u289, u290, u291, u292, u293, u294, u295, u296, u297, u298, u299, u300, u301, u302, u303, u304, u305, u306, u307, u308, u309, u310, u311, u312, u313, u314, u315, u316, u317, u318, u319, u320, u321, u322, u323, u324, u325, u326, u327, u328, u329, u330], []⟩ wc := by
 (try dsimp only)
 conv => arg 2; whnf
 go_upto_region 36 with (fail)
 go_cut [279] (fun v279 wc => ∃ (kq : Nat) (x279_261 : Bool), v279 = .bool x279_261 ∧ Az (laws_FnFarey.j5 kq t575 x279_261 t569 t570 t571 t572 = some r) ∧ Az (kq ≤ kj183) ∧ Az (wc.heap[gb573]? = some (.cells #[.int .i64 t569, .int .i64 t570] 25 (0, 0))) ∧ Az (wc.heap[gb574]? = some (.cells #[.int .i64 t571, .int .i64 t572] 25 (0, 0))) ∧ Az (wc.heap[gb579]? = some (.cells #[.int .i64 t576, .int .i64 t577] 25 (0, 0))) ∧ Az (wc.heap[gb587]? = some (.cells #[.int .i64 t583, .int .i64 t584] 25 (0, 0))) ∧ Az (wc.heap[gb588]? = some (.cells #[.int .i64 t585, .int .i64 t586] 25 (0, 0))) ∧ Az (wc.heap[gb594]? = some (.cells #[.int .i64 t592, .int .i64 t593] 25 (0, 0))) ∧ Az (wc.heap[gb641]? = some (.cells #[.int .i64 t635, .int .i64 t636, .int .i64 t637, .int .i64 t638] 41 (0, 0))) ∧ Az (wc.heap[gb642]? = some (.cells #[.int .i64 t639, .int .i64 t640] 25 (0, 0))) ∧ Az (wc.heap[gb646]? = some (.cells #[.int .i64 t643, .int .i64 t644] 25 (0, 0))) ∧ Az (wc.heap[gb650]? = some (.cells #[.int .i64 t647, .int .i64 t648] 25 (0, 0))) ∧ Az (Below w.heap.size w wc))
 case first =>
  have H := HC262.out
  clear HC262
  replace H := bez H
  obtain ⟨t652, A263, H⟩ := H
  try dsimp only at H
  by_cases c264 : t652 = true
  rotate_left
  ·replace c264 := Bool.eq_false_iff.mpr c264
   subst c264
   rw [if_neg (show ¬ (false = true) by decide)] at H
   have H' := Az.mk H
   clear H
   have hnb378 := NB642_573.out
   have hnc378 := NB573_642.out
   have hnb379 := NB642_574.out
   have hnc379 := NB574_642.out
   have hnb380 := NB642_579.out
   have hnc380 := NB579_642.out
   have hnb381 := NB642_587.out
   have hnc381 := NB587_642.out
   have hnb382 := NB642_588.out
   have hnc382 := NB588_642.out
   have hnb383 := NB642_594.out
   have hnc383 := NB594_642.out
   have hnb384 := NB642_641.out
   have hnc384 := NB641_642.out
   have hnb385 := NB642_646.out
   have hnc385 := NB646_642.out
   have hnb386 := NB642_650.out
   have hnc386 := NB650_642.out
   have hcz387_0 := bkc0 BK642
   have hcz387_1 := bkc1 BK642
   have hfz387_0 := bkF BK642.out 0
   have hfz387_1 := bkF BK642.out 1
   go_wp2_with (first | ((with_reducible refine gtC (f := 22) rfl ?_); refine clz Try.func22 (some 252) #[.agg #[.int .i64 t639, .int .i64 t640]] ?_; (with_reducible refine (spec_IsSlope.calls kj183 t639 t640 false _ A263.out).mono ?_); rintro e w388 ⟨rfl, hb⟩; refine ⟨_, rfl, ?_⟩; replace BK573 := bkz BK573 hb; replace BK574 := bkz BK574 hb; replace BK579 := bkz BK579 hb; replace BK587 := bkz BK587 hb; replace BK588 := bkz BK588 hb; replace BK594 := bkz BK594 hb; replace BK641 := bkz BK641 hb; replace BK642 := bkz BK642 hb; replace BK646 := bkz BK646 hb; replace BK650 := bkz BK650 hb; replace HB := Az.mk (bwT bw_27 hb); (try clear hb)))
   go_meet
   case rel => exact ⟨_, (true), rq2, H', ⟨by have := HJ23.out; have := HK2.out; have := HJ149.out; have := HJ164.out; have := HJ183.out; first | omega | exact Nat.le_refl _⟩, ⟨bk1 BK573⟩, ⟨bk1 BK574⟩, ⟨bk1 BK579⟩, ⟨bk1 BK587⟩, ⟨bk1 BK588⟩, ⟨bk1 BK594⟩, ⟨bk1 BK641⟩, ⟨bk1 BK642⟩, ⟨bk1 BK646⟩, ⟨bk1 BK650⟩, ⟨bw_27⟩⟩
  subst c264
  rw [if_pos rfl] at H
  by_cases c265 : t645 = true
  rotate_left
  ·replace c265 := Bool.eq_false_iff.mpr c265
   subst c265
   rw [if_neg (show ¬ (false = true) by decide)] at H
   have H' := Az.mk H
   clear H
   have hnb367 := NB642_573.out
   have hnc367 := NB573_642.out
   have hnb368 := NB642_574.out
   have hnc368 := NB574_642.out
   have hnb369 := NB642_579.out
   have hnc369 := NB579_642.out
   have hnb370 := NB642_587.out
   have hnc370 := NB587_642.out
   have hnb371 := NB642_588.out
   have hnc371 := NB588_642.out
   have hnb372 := NB642_594.out
   have hnc372 := NB594_642.out
   have hnb373 := NB642_641.out
   have hnc373 := NB641_642.out
   have hnb374 := NB642_646.out
   have hnc374 := NB646_642.out
   have hnb375 := NB642_650.out
   have hnc375 := NB650_642.out
   have hcz376_0 := bkc0 BK642
   have hcz376_1 := bkc1 BK642
   have hfz376_0 := bkF BK642.out 0
   have hfz376_1 := bkF BK642.out 1
   go_wp2_with (first | ((with_reducible refine gtC (f := 22) rfl ?_); refine clz Try.func22 (some 252) #[.agg #[.int .i64 t639, .int .i64 t640]] ?_; (with_reducible refine (spec_IsSlope.calls kj183 t639 t640 true _ A263.out).mono ?_); rintro e w377 ⟨rfl, hb⟩; refine ⟨_, rfl, ?_⟩; replace BK573 := bkz BK573 hb; replace BK574 := bkz BK574 hb; replace BK579 := bkz BK579 hb; replace BK587 := bkz BK587 hb; replace BK588 := bkz BK588 hb; replace BK594 := bkz BK594 hb; replace BK641 := bkz BK641 hb; replace BK642 := bkz BK642 hb; replace BK646 := bkz BK646 hb; replace BK650 := bkz BK650 hb; replace HB := Az.mk (bwT bw_27 hb); (try clear hb)))
   go_meet
   case rel => exact ⟨_, (true), rq2, H', ⟨by have := HJ23.out; have := HK2.out; have := HJ149.out; have := HJ164.out; have := HJ183.out; first | omega | exact Nat.le_refl _⟩, ⟨bk1 BK573⟩, ⟨bk1 BK574⟩, ⟨bk1 BK579⟩, ⟨bk1 BK587⟩, ⟨bk1 BK588⟩, ⟨bk1 BK594⟩, ⟨bk1 BK641⟩, ⟨bk1 BK642⟩, ⟨bk1 BK646⟩, ⟨bk1 BK650⟩, ⟨bw_27⟩⟩
  subst c265
  rw [if_pos rfl] at H
  replace H := bez H
  obtain ⟨t653, A266, H⟩ := H
  try dsimp only at H
  by_cases c267 : t653 > 9
  ·rw [if_pos c267] at H
   have c267b0 : decide (9 < t653) = true := decide_eq_true c267
   clear c267
   (first | rw [c267b0] | (simp only [i64_w, i32_w]; rw [c267b0]) | skip)
   have H' := Az.mk H
   clear H
   have hnb268 := NB642_573.out
   have hnc268 := NB573_642.out
   have hnb269 := NB642_574.out
   have hnc269 := NB574_642.out
   have hnb270 := NB642_579.out
   have hnc270 := NB579_642.out
   have hnb271 := NB642_587.out
   have hnc271 := NB587_642.out
   have hnb272 := NB642_588.out
   have hnc272 := NB588_642.out
   have hnb273 := NB642_594.out
   have hnc273 := NB594_642.out
   have hnb274 := NB642_641.out
   have hnc274 := NB641_642.out
   have hnb275 := NB642_646.out
   have hnc275 := NB646_642.out
   have hnb276 := NB642_650.out
   have hnc276 := NB650_642.out
   have hcz277_0 := bkc0 BK642
   have hcz277_1 := bkc1 BK642
   have hfz277_0 := bkF BK642.out 0
   have hfz277_1 := bkF BK642.out 1
   go_wp2_with (first | ((with_reducible refine gtC (f := 22) rfl ?_); refine clz Try.func22 (some 252) #[.agg #[.int .i64 t639, .int .i64 t640]] ?_; (with_reducible refine (spec_IsSlope.calls kj183 t639 t640 true _ A263.out).mono ?_); rintro e w278 ⟨rfl, hb⟩; refine ⟨_, rfl, ?_⟩; replace BK573 := bkz BK573 hb; replace BK574 := bkz BK574 hb; replace BK579 := bkz BK579 hb; replace BK587 := bkz BK587 hb; replace BK588 := bkz BK588 hb; replace BK594 := bkz BK594 hb; replace BK641 := bkz BK641 hb; replace BK642 := bkz BK642 hb; replace BK646 := bkz BK646 hb; replace BK650 := bkz BK650 hb; replace HB := Az.mk (bwT bw_27 hb); (try clear hb); have hnb279 := NB573_574.out; have hnc279 := NB574_573.out; have hnb280 := NB573_579.out; have hnc280 := NB579_573.out; have hnb281 := NB573_587.out; have hnc281 := NB587_573.out; have hnb282 := NB573_588.out; have hnc282 := NB588_573.out; have hnb283 := NB573_594.out; have hnc283 := NB594_573.out; have hnb284 := NB573_641.out; have hnc284 := NB641_573.out; have hnb285 := NB573_646.out; have hnc285 := NB646_573.out; have hnb286 := NB573_650.out; have hnc286 := NB650_573.out; obtain ⟨hcz287_0, hcz287_1, hfz287_0, hfz287_1⟩ := bq2 BK573) | (go_at_call 23; (with_reducible refine (laws_magnitude.calls t569 t653 _ A266.out).mono ?_); rintro e w' ⟨rfl, ⟨nd, rfl⟩⟩))
   go_meet
   case rel => exact ⟨_, (true), rq2, H', ⟨by have := HJ23.out; have := HK2.out; have := HJ149.out; have := HJ164.out; have := HJ183.out; first | omega | exact Nat.le_refl _⟩, ⟨bk1 BK573⟩, ⟨bk1 BK574⟩, ⟨bk1 BK579⟩, ⟨bk1 BK587⟩, ⟨bk1 BK588⟩, ⟨bk1 BK594⟩, ⟨bk1 BK641⟩, ⟨bk1 BK642⟩, ⟨bk1 BK646⟩, ⟨bk1 BK650⟩, ⟨bw_27⟩⟩
  rw [if_neg c267] at H
  have c267b0 : decide (9 < t653) = false := decide_eq_false c267
  clear c267
  (first | rw [c267b0] | (simp only [i64_w, i32_w]; rw [c267b0]) | skip)
  by_cases c288 : t570 > 9
  ·rw [if_pos c288] at H
   have c288b0 : decide (9 < t570) = true := decide_eq_true c288
   clear c288
   have H' := Az.mk H
   clear H
   have hnb289 := NB642_573.out
   have hnc289 := NB573_642.out
   have hnb290 := NB642_574.out
   have hnc290 := NB574_642.out
   have hnb291 := NB642_579.out
   have hnc291 := NB579_642.out
   have hnb292 := NB642_587.out
   have hnc292 := NB587_642.out
   have hnb293 := NB642_588.out
   have hnc293 := NB588_642.out
   have hnb294 := NB642_594.out
   have hnc294 := NB594_642.out
   have hnb295 := NB642_641.out
   have hnc295 := NB641_642.out
   have hnb296 := NB642_646.out
   have hnc296 := NB646_642.out
   have hnb297 := NB642_650.out
   have hnc297 := NB650_642.out
   have hcz298_0 := bkc0 BK642
   have hcz298_1 := bkc1 BK642
   have hfz298_0 := bkF BK642.out 0
   have hfz298_1 := bkF BK642.out 1
   go_wp2_with (first | ((with_reducible refine gtC (f := 22) rfl ?_); refine clz Try.func22 (some 252) #[.agg #[.int .i64 t639, .int .i64 t640]] ?_; (with_reducible refine (spec_IsSlope.calls kj183 t639 t640 true _ A263.out).mono ?_); rintro e w299 ⟨rfl, hb⟩; refine ⟨_, rfl, ?_⟩; replace BK573 := bkz BK573 hb; replace BK574 := bkz BK574 hb; replace BK579 := bkz BK579 hb; replace BK587 := bkz BK587 hb; replace BK588 := bkz BK588 hb; replace BK594 := bkz BK594 hb; replace BK641 := bkz BK641 hb; replace BK642 := bkz BK642 hb; replace BK646 := bkz BK646 hb; replace BK650 := bkz BK650 hb; replace HB := Az.mk (bwT bw_27 hb); (try clear hb); have hnb300 := NB573_574.out; have hnc300 := NB574_573.out; have hnb301 := NB573_579.out; have hnc301 := NB579_573.out; have hnb302 := NB573_587.out; have hnc302 := NB587_573.out; have hnb303 := NB573_588.out; have hnc303 := NB588_573.out; have hnb304 := NB573_594.out; have hnc304 := NB594_573.out; have hnb305 := NB573_641.out; have hnc305 := NB641_573.out; have hnb306 := NB573_646.out; have hnc306 := NB646_573.out; have hnb307 := NB573_650.out; have hnc307 := NB650_573.out; obtain ⟨hcz308_0, hcz308_1, hfz308_0, hfz308_1⟩ := bq2 BK573) | (go_at_call 23; (with_reducible refine (laws_magnitude.calls t569 t653 _ A266.out).mono ?_); rintro e w' ⟨rfl, ⟨nd, rfl⟩⟩))
   go_meet
   case rel => exact ⟨_, (true), rq2, H', ⟨by have := HJ23.out; have := HK2.out; have := HJ149.out; have := HJ164.out; have := HJ183.out; first | omega | exact Nat.le_refl _⟩, ⟨bk1 BK573⟩, ⟨bk1 BK574⟩, ⟨bk1 BK579⟩, ⟨bk1 BK587⟩, ⟨bk1 BK588⟩, ⟨bk1 BK594⟩, ⟨bk1 BK641⟩, ⟨bk1 BK642⟩, ⟨bk1 BK646⟩, ⟨bk1 BK650⟩, ⟨bw_27⟩⟩
  rw [if_neg c288] at H
  have c288b0 : decide (9 < t570) = false := decide_eq_false c288
  clear c288
  replace H := bez H
  obtain ⟨t654, A309, H⟩ := H
  try dsimp only at H
  by_cases c310 : t654 > 9
  ·rw [if_pos c310] at H
   have c310b0 : decide (9 < t654) = true := decide_eq_true c310
   clear c310
   have H' := Az.mk H
   clear H
   have hnb311 := NB642_573.out
   have hnc311 := NB573_642.out
   have hnb312 := NB642_574.out
   have hnc312 := NB574_642.out
   have hnb313 := NB642_579.out
   have hnc313 := NB579_642.out
   have hnb314 := NB642_587.out
   have hnc314 := NB587_642.out
   have hnb315 := NB642_588.out
   have hnc315 := NB588_642.out
   have hnb316 := NB642_594.out
   have hnc316 := NB594_642.out
   have hnb317 := NB642_641.out
   have hnc317 := NB641_642.out
   have hnb318 := NB642_646.out
   have hnc318 := NB646_642.out
   have hnb319 := NB642_650.out
   have hnc319 := NB650_642.out
   have hcz320_0 := bkc0 BK642
   have hcz320_1 := bkc1 BK642
   have hfz320_0 := bkF BK642.out 0
   have hfz320_1 := bkF BK642.out 1
   go_wp2_with (first | ((with_reducible refine gtC (f := 22) rfl ?_); refine clz Try.func22 (some 252) #[.agg #[.int .i64 t639, .int .i64 t640]] ?_; (with_reducible refine (spec_IsSlope.calls kj183 t639 t640 true _ A263.out).mono ?_); rintro e w321 ⟨rfl, hb⟩; refine ⟨_, rfl, ?_⟩; replace BK573 := bkz BK573 hb; replace BK574 := bkz BK574 hb; replace BK579 := bkz BK579 hb; replace BK587 := bkz BK587 hb; replace BK588 := bkz BK588 hb; replace BK594 := bkz BK594 hb; replace BK641 := bkz BK641 hb; replace BK642 := bkz BK642 hb; replace BK646 := bkz BK646 hb; replace BK650 := bkz BK650 hb; replace HB := Az.mk (bwT bw_27 hb); (try clear hb); have hnb322 := NB573_574.out; have hnc322 := NB574_573.out; have hnb323 := NB573_579.out; have hnc323 := NB579_573.out; have hnb324 := NB573_587.out; have hnc324 := NB587_573.out; have hnb325 := NB573_588.out; have hnc325 := NB588_573.out; have hnb326 := NB573_594.out; have hnc326 := NB594_573.out; have hnb327 := NB573_641.out; have hnc327 := NB641_573.out; have hnb328 := NB573_646.out; have hnc328 := NB646_573.out; have hnb329 := NB573_650.out; have hnc329 := NB650_573.out; obtain ⟨hcz330_0, hcz330_1, hfz330_0, hfz330_1⟩ := bq2 BK573) | (go_at_call 23; (with_reducible refine (laws_magnitude.calls t569 t653 _ A266.out).mono ?_); rintro e w' ⟨rfl, ⟨nd, rfl⟩⟩; have hnb331 := NB574_579.out; have hnc331 := NB579_574.out; have hnb332 := NB574_587.out; have hnc332 := NB587_574.out; have hnb333 := NB574_588.out; have hnc333 := NB588_574.out; have hnb334 := NB574_594.out; have hnc334 := NB594_574.out; have hnb335 := NB574_641.out; have hnc335 := NB641_574.out; have hnb336 := NB574_646.out; have hnc336 := NB646_574.out; have hnb337 := NB574_650.out; have hnc337 := NB650_574.out; obtain ⟨hcz338_0, hcz338_1, hfz338_0, hfz338_1⟩ := bq2 BK574) | (go_at_call 23; (with_reducible refine (laws_magnitude.calls t571 t654 _ A309.out).mono ?_); rintro e w' ⟨rfl, ⟨nd, rfl⟩⟩))
   go_meet
   case rel => exact ⟨_, (true), rq2, H', ⟨by have := HJ23.out; have := HK2.out; have := HJ149.out; have := HJ164.out; have := HJ183.out; first | omega | exact Nat.le_refl _⟩, ⟨bk1 BK573⟩, ⟨bk1 BK574⟩, ⟨bk1 BK579⟩, ⟨bk1 BK587⟩, ⟨bk1 BK588⟩, ⟨bk1 BK594⟩, ⟨bk1 BK641⟩, ⟨bk1 BK642⟩, ⟨bk1 BK646⟩, ⟨bk1 BK650⟩, ⟨bw_27⟩⟩
  rw [if_neg c310] at H
  have c310b0 : decide (9 < t654) = false := decide_eq_false c310
  clear c310
  have H' := Az.mk H
  clear H
  have hnb339 := NB642_573.out
  have hnc339 := NB573_642.out
  have hnb340 := NB642_574.out
  have hnc340 := NB574_642.out
  have hnb341 := NB642_579.out
  have hnc341 := NB579_642.out
  have hnb342 := NB642_587.out
  have hnc342 := NB587_642.out
  have hnb343 := NB642_588.out
  have hnc343 := NB588_642.out
  have hnb344 := NB642_594.out
  have hnc344 := NB594_642.out
  have hnb345 := NB642_641.out
  have hnc345 := NB641_642.out
  have hnb346 := NB642_646.out
  have hnc346 := NB646_642.out
  have hnb347 := NB642_650.out
  have hnc347 := NB650_642.out
  have hcz348_0 := bkc0 BK642
  have hcz348_1 := bkc1 BK642
  have hfz348_0 := bkF BK642.out 0
  have hfz348_1 := bkF BK642.out 1
  go_wp2_with (first | ((with_reducible refine gtC (f := 22) rfl ?_); refine clz Try.func22 (some 252) #[.agg #[.int .i64 t639, .int .i64 t640]] ?_; (with_reducible refine (spec_IsSlope.calls kj183 t639 t640 true _ A263.out).mono ?_); rintro e w349 ⟨rfl, hb⟩; refine ⟨_, rfl, ?_⟩; replace BK573 := bkz BK573 hb; replace BK574 := bkz BK574 hb; replace BK579 := bkz BK579 hb; replace BK587 := bkz BK587 hb; replace BK588 := bkz BK588 hb; replace BK594 := bkz BK594 hb; replace BK641 := bkz BK641 hb; replace BK642 := bkz BK642 hb; replace BK646 := bkz BK646 hb; replace BK650 := bkz BK650 hb; replace HB := Az.mk (bwT bw_27 hb); (try clear hb); have hnb350 := NB573_574.out; have hnc350 := NB574_573.out; have hnb351 := NB573_579.out; have hnc351 := NB579_573.out; have hnb352 := NB573_587.out; have hnc352 := NB587_573.out; have hnb353 := NB573_588.out; have hnc353 := NB588_573.out; have hnb354 := NB573_594.out; have hnc354 := NB594_573.out; have hnb355 := NB573_641.out; have hnc355 := NB641_573.out; have hnb356 := NB573_646.out; have hnc356 := NB646_573.out; have hnb357 := NB573_650.out; have hnc357 := NB650_573.out; obtain ⟨hcz358_0, hcz358_1, hfz358_0, hfz358_1⟩ := bq2 BK573) | (go_at_call 23; (with_reducible refine (laws_magnitude.calls t569 t653 _ A266.out).mono ?_); rintro e w' ⟨rfl, ⟨nd, rfl⟩⟩; have hnb359 := NB574_579.out; have hnc359 := NB579_574.out; have hnb360 := NB574_587.out; have hnc360 := NB587_574.out; have hnb361 := NB574_588.out; have hnc361 := NB588_574.out; have hnb362 := NB574_594.out; have hnc362 := NB594_574.out; have hnb363 := NB574_641.out; have hnc363 := NB641_574.out; have hnb364 := NB574_646.out; have hnc364 := NB646_574.out; have hnb365 := NB574_650.out; have hnc365 := NB650_574.out; obtain ⟨hcz366_0, hcz366_1, hfz366_0, hfz366_1⟩ := bq2 BK574) | (go_at_call 23; (with_reducible refine (laws_magnitude.calls t571 t654 _ A309.out).mono ?_); rintro e w' ⟨rfl, ⟨nd, rfl⟩⟩))
  go_meet
  case rel => exact ⟨_, (decide (t572 > 9)), rq2, H', ⟨by have := HJ23.out; have := HK2.out; have := HJ149.out; have := HJ164.out; have := HJ183.out; first | omega | exact Nat.le_refl _⟩, ⟨bk1 BK573⟩, ⟨bk1 BK574⟩, ⟨bk1 BK579⟩, ⟨bk1 BK587⟩, ⟨bk1 BK588⟩, ⟨bk1 BK594⟩, ⟨bk1 BK641⟩, ⟨bk1 BK642⟩, ⟨bk1 BK646⟩, ⟨bk1 BK650⟩, ⟨bw_27⟩⟩
 clear HC262
 try clear c264
 try clear c265
 try clear c267
 try clear c267b0
 try clear c288
 try clear c288b0
 try clear c310
 try clear c310b0
 try clear hcz277_0
 try clear hcz277_1
 try clear hcz287_0
 try clear hcz287_1
 try clear hcz298_0
 try clear hcz298_1
 try clear hcz308_0
 try clear hcz308_1
 try clear hcz320_0
 try clear hcz320_1
 try clear hcz330_0
 try clear hcz330_1
 try clear hcz338_0
 try clear hcz338_1
 try clear hcz348_0
 try clear hcz348_1
 try clear hcz358_0
 try clear hcz358_1
 try clear hcz366_0
 try clear hcz366_1
 try clear hcz376_0
 try clear hcz376_1
 try clear hcz387_0
 try clear hcz387_1
 try clear hfz277_0
 try clear hfz277_1
 try clear hfz287_0
 try clear hfz287_1
 try clear hfz298_0
 try clear hfz298_1
 try clear hfz308_0
 try clear hfz308_1
 try clear hfz320_0
 try clear hfz320_1
 try clear hfz330_0
 try clear hfz330_1
 try clear hfz338_0
 try clear hfz338_1
 try clear hfz348_0
 try clear hfz348_1
 try clear hfz358_0
 try clear hfz358_1
 try clear hfz366_0
 try clear hfz366_1
 try clear hfz376_0
 try clear hfz376_1
 try clear hfz387_0
 try clear hfz387_1
 obtain ⟨kq, x279_261, rfl, HA, HJ261, BK573, BK574, BK579, BK587, BK588, BK594, BK641, BK642, BK646, BK650, HB⟩ := hcut
 cases kq with
 | zero => exact absurd HA.out (by simp [laws_FnFarey.j5])
 | succ kj261 =>
  have H := HA.out
  clear HA
  simp only [laws_FnFarey.j5] at H
  by_cases c389 : x279_261 = true
  ·subst c389
   rw [if_pos rfl] at H
   obtain rfl := Option.some.inj H
   go_wp2
   go_ret
   exact ⟨rq1, bw_27⟩
  replace c389 := Bool.eq_false_iff.mpr c389
  subst c389
  rw [if_neg (show ¬ (false = true) by decide)] at H
  replace H := bez H
  obtain ⟨t655, A390, H⟩ := H
  try dsimp only at H
  replace H := bez H
  obtain ⟨t658, A391, H⟩ := H
  try dsimp only at H
  replace H := bez H
  obtain ⟨t661, A392, H⟩ := H
  try dsimp only at H
  by_cases c393 : t661 = true
  rotate_left
  ·replace c393 := Bool.eq_false_iff.mpr c393
   subst c393
   rw [if_neg (show ¬ (false = true) by decide)] at H
   exact absurd H (by simp)
  subst c393
  rw [if_pos rfl] at H
  have H' := Az.mk H
  clear H
  have hnb394 := NB573_574.out
  have hnc394 := NB574_573.out
  have hnb395 := NB573_579.out
  have hnc395 := NB579_573.out
  have hnb396 := NB573_587.out
  have hnc396 := NB587_573.out
  have hnb397 := NB573_588.out
  have hnc397 := NB588_573.out
  have hnb398 := NB573_594.out
  have hnc398 := NB594_573.out
  have hnb399 := NB573_641.out
  have hnc399 := NB641_573.out
  have hnb400 := NB573_642.out
  have hnc400 := NB642_573.out
  have hnb401 := NB573_646.out
  have hnc401 := NB646_573.out
  have hnb402 := NB573_650.out
  have hnc402 := NB650_573.out
  have hcz403_0 := bkc0 BK573
  have hcz403_1 := bkc1 BK573
  have hfz403_0 := bkF BK573.out 0
  have hfz403_1 := bkF BK573.out 1
  have hnb404 := NB574_579.out
  have hnc404 := NB579_574.out
  have hnb405 := NB574_587.out
  have hnc405 := NB587_574.out
  have hnb406 := NB574_588.out
  have hnc406 := NB588_574.out
  have hnb407 := NB574_594.out
  have hnc407 := NB594_574.out
  have hnb408 := NB574_641.out
  have hnc408 := NB641_574.out
  have hnb409 := NB574_642.out
  have hnc409 := NB642_574.out
  have hnb410 := NB574_646.out
  have hnc410 := NB646_574.out
  have hnb411 := NB574_650.out
  have hnc411 := NB650_574.out
  have hcz412_0 := bkc0 BK574
  have hcz412_1 := bkc1 BK574
  have hfz412_0 := bkF BK574.out 0
  have hfz412_1 := bkF BK574.out 1
  rename_i Kt at_ K0 a0
  have AT := Az.mk at_
  clear at_
  go_wp2
  exact AT.out _ _ (laws_FnFarey.p38 k A0 c0 l0 r w t569 t570 t571 t572 t575 t576 t577 t578 t580 t583 t584 t585 t586 t589 t592 t593 t595 t598 t599 t602 gb573 GE573 gb574 GE574 gb579 GE579 gb587 GE587 gb588 GE588 gb594 GE594 Ao67 co67 Ao72 co72 Ao74 co74 Ao75 co75 nd kj23 HJ23 wr u18 u19 x17_2 k2 HK2 kj149 HJ149 u2 u20 u21 kj164 HJ164 t635 t636 t637 t638 t639 t640 t643 t644 t645 t647 t648 t649 gb641 GE641 gb642 GE642 gb646 GE646 gb650 GE650 kj183 HJ183 wc u30 u31 u32 u33 u34 u35 u36 u37 u38 u39 u40 u41 u42 u43 u44 u45 u46 u47 u48 u49 u50 u51 u52 u53 u54 u55 u56 u57 u58 u59 u60 u61 u62 u63 u64 u65 u66 u67 u68 u69 u70 u71 u72 u73 u74 u75 u76 u77 u78 u79 u80 u81 u82 u83 u84 u85 u86 u87 u88 u89 u90 u91 u92 u93 u94 u95 u96 u97 u98 u99 u100 u101 u102 u103 u104 u105 u106 u107 u108 u109 u110 u111 u112 u113 u114 u115 u116 u117 u118 u119 u120 u121 u122 u123 u124 u125 u126 u127 u128 u129 u130 u131 u132 u133 u134 u135 u136 u137 u138 u139 u140 u141 u142 u143 u144 u145 u146 u147 u148 u149 u150 u151 u152 u153 u154 u155 u156 u157 u158 u159 u160 u161 u162 u163 u164 u165 u166 u167 u168 u169 u170 u171 u172 u173 u174 u175 u176 u177 u178 u179 u180 u181 u182 u183 u184 u185 u186 u187 u188 u189 u190 u191 u192 u193 u194 u195 u196 u197 u198 u199 u200 u201 u202 u203 u204 u205 u206 u207 u208 u209 u210 u211 u212 u213 u214 u215 u216 u217 u218 u219 u220 u221 u222 u223 u224 u225 u226 u227 u228 u229 u230 u231 u232 u233 u234 u235 u236 u237 u238 u239 u240 u241 u242 u243 u244 u245 u246 u247 u248 u249 u250 u251 u252 u253 u254 u255 u256 u257 u258 u259 u260 u261 u262 u263 u264 u265 u266 u267 u268 u269 u270 u271 u272 u273 u274 u275 u276 u277 u278 u280 u281 u282 u283 u284 u285 u286 u287 u288 u289 u290 u291 u292 u293 u294 u295 u296 u297 u298 u299 u300 u301 u302 u303 u304 u305 u306 u307 u308 u309 u310 u311 u312 u313 u314 u315 u316 u317 u318 u319 u320 u321 u322 u323 u324 u325 u326 u327 u328 u329 u330 BK573 BK574 BK579 BK587 BK588 BK594 BK641 BK642 BK646 BK650 HB kj261 HJ261 t655 A390 t658 A391 A392 H' hcz403_0 hcz403_1 hfz403_0 hfz403_1 hcz412_0 hcz412_1 hfz412_0 hfz412_1)
end Go.Proofs.Ytigcjehokbgclaa.P
