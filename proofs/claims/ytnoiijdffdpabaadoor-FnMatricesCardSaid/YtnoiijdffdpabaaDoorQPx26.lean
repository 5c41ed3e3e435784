-- By this session's driver (wip/tools/mk.py) of the kit's print program, over several statements at once. Not trusted: Lean checks it.
import Derived.Test.YtnoiijdffdpabaaDoorQWZip
import Derived.Test.YtnoiijdffdpabaaDoorQPx0
import Derived.Test.YtnoiijdffdpabaaDoorQPx2
import Derived.Test.YtnoiijdffdpabaaDoorQPx5
import Derived.Test.YtnoiijdffdpabaaDoorQPx6
import Derived.Test.YtnoiijdffdpabaaDoorQPx9
import Derived.Test.YtnoiijdffdpabaaDoorQPx10
import Derived.Test.YtnoiijdffdpabaaDoorQPx11
import Derived.Test.YtnoiijdffdpabaaDoorQPx12
import Derived.Test.YtnoiijdffdpabaaDoorQPx14
import Derived.Test.YtnoiijdffdpabaaDoorQPx15
import Derived.Test.YtnoiijdffdpabaaDoorQPx16
import Derived.Test.YtnoiijdffdpabaaDoorQPx17
import Derived.Test.YtnoiijdffdpabaaDoorQPx18
import Derived.Test.YtnoiijdffdpabaaDoorQPx19
import Derived.Test.YtnoiijdffdpabaaDoorQPx20
import Derived.Test.YtnoiijdffdpabaaDoorQPx21
import Derived.Test.YtnoiijdffdpabaaDoorQPx22
import Derived.Test.YtnoiijdffdpabaaDoorQPx23
import Derived.Test.YtnoiijdffdpabaaDoorQPx24
import Derived.Test.YtnoiijdffdpabaaDoorQPx25
namespace Go.Proofs.YtnoiijdffdpabaaDoor.P
open Go.RowKit Go.Proofs.YtnoiijdffdpabaaDoorW.PrintWords Go.Proofs.YtnoiijdffdpabaaDoorW.PrintLast Go.Proofs.YtnoiijdffdpabaaDoorW.PrintMore
attribute [local go_sem] max2_int min2_int max_two min_two max_three min_three max_four min_four   -- for this text's walks alone
set_option linter.unusedVariables false
set_option linter.unusedSimpArgs false
open Bool renaming true → T, false → F
theorem bw_26 {n : Nat} {v v' : World} (h : Below n v v' := by repeat (first | (with_reducible first | exact HB.out | apply bwA | apply pbN | apply bwD | refine bwS ?_ GE509.out | refine bwS ?_ GE510.out | refine bwS ?_ GE516.out | refine bwS ?_ GE522.out | refine bwS ?_ GE529.out | refine bwS ?_ GE530.out | refine bwS ?_ GE534.out | refine bwS ?_ GE538.out | refine bwS ?_ GE545.out | refine bwS ?_ GE551.out | refine bwS ?_ GE554.out | refine bwS ?_ GE633.out) | exact HB.out)) : Below n v v' := h
theorem ln_26 {P : Prop} (h : P := by (try simp only [List.map_toArray, List.map_cons, List.map_nil]); first | done | rfl | (simp only [List.length_drop, List.length_take]; rfl)) : P := h
theorem z26_1 {p : Prop} (h : p := by kernel_rfl) : p := h
theorem z26_0 {p : Prop} (h : p := by (with_reducible repeat (first | apply Kd.R_alloc | apply Kd.R_drewN | apply Kd.R_drew)); exact HO_34.out) : p := h

attribute [local go_sem high] eqA25 eqA35
set_option maxHeartbeats 8000000 in
set_option maxRecDepth 100000 in
theorem laws_FnMatrices.p40 (A0 : Option Addr) (c0 : Nat) (l0 : List Int) (r : Bool) (w : World) (HT : Az (Tabs w)) (t501 t502 t503 t504 t505 t506 t507 t508 t511 t512 t513 t514 : Int) (t515 : Bool) (t517 t518 t519 t520 : Int) (t521 : Bool) (t523 t524 t525 t526 t527 t528 t531 t532 : Int) (t533 : Bool) (t535 t536 : Int) (t537 : Bool) (t539 : ByteArray) (t540 t541 t542 t543 : Int) (t544 : Bool) (t546 t547 t548 t549 : Int) (t550 : Bool) (t552 t553 : Int) (t555 : ByteArray) (gb509 : Nat) (GE509 : Az (w.heap.size ≤ gb509)) (gb510 : Nat) (GE510 : Az (w.heap.size ≤ gb510)) (gb516 : Nat) (GE516 : Az (w.heap.size ≤ gb516)) (gb522 : Nat) (GE522 : Az (w.heap.size ≤ gb522)) (gb529 : Nat) (GE529 : Az (w.heap.size ≤ gb529)) (gb530 : Nat) (GE530 : Az (w.heap.size ≤ gb530)) (gb534 : Nat) (GE534 : Az (w.heap.size ≤ gb534)) (gb538 : Nat) (GE538 : Az (w.heap.size ≤ gb538)) (gb545 : Nat) (GE545 : Az (w.heap.size ≤ gb545)) (gb551 : Nat) (GE551 : Az (w.heap.size ≤ gb551)) (gb554 : Nat) (GE554 : Az (w.heap.size ≤ gb554)) (u22 u23 u24 u25 u26 u27 u28 u29 u30 u31 u32 u33 u40 u41 u42 u43 u44 u45 u46 u47 u48 u49 u50 u51 u52 u53 u54 u55 u56 u57 u58 u59 u60 u61 u62 u63 u64 u65 u66 u67 u68 u69 u70 u71 u72 u73 u74 u75 u76 u77 u78 u79 u80 u81 u82 u83 u84 u85 u86 u87 u88 u89 u90 u91 u92 u93 u94 u95 u96 u97 u98 u99 u100 u101 u102 u103 u104 u105 u106 u107 u108 u109 u110 u111 u112 u113 u114 u115 u116 u117 u118 u119 u120 u121 u122 u123 u124 u125 u126 u127 u128 u129 u130 u131 u132 u133 u134 u135 u136 u137 u138 u139 u140 u141 u142 u143 u144 u145 u146 u147 u148 u149 u150 u151 u152 u153 u154 u155 u156 u157 u158 u159 u160 u161 u162 u163 u164 u165 u166 u167 u168 u169 u170 u171 u172 u173 u174 u175 u176 u177 u178 u179 u180 u181 u182 u183 u184 u185 u186 u187 u188 u189 u190 u191 u192 u193 u194 u195 u196 u197 u198 u199 u200 u201 u202 u203 u204 u205 u206 u207 u208 u209 u210 u211 u212 u213 u214 u215 u216 u217 u218 u219 u220 u221 u222 u223 u224 u225 u226 u227 u228 u229 u230 u231 u232 u233 u234 u235 u236 u237 u238 u239 u240 u241 u242 u243 u244 u248 u249 u250 u251 u252 u253 u254 u255 u283 u284 u285 u286 u287 u288 u289 u290 u291 u292 u293 u294 u295 u296 u297 u298 u299 u300 u301 u302 u303 u304 u305 u306 u307 u308 u309 u310 u311 u312 u313 u314 u315 u316 u317 u318 : Value) (t615 : List S35) (wr : World) (u2 u36 u37 u262 u263 u264 u265 u266 u267 u268 u269 u270 u271 u272 u273 u274 u275 u276 u277 u278 u279 u280 u281 u282 : Value) (x35_4 : Int) (BK509 : Az ((World.heap wr)[gb509]? = some (Obj.cells #[Value.int IntKind.i64 t501, Value.int IntKind.i64 t502, Value.int IntKind.i64 t503, Value.int IntKind.i64 t504] 25))) (BK510 : Az ((World.heap wr)[gb510]? = some (Obj.cells #[Value.int IntKind.i64 t505, Value.int IntKind.i64 t506, Value.int IntKind.i64 t507, Value.int IntKind.i64 t508] 25))) (BK516 : Az ((World.heap wr)[gb516]? = some (Obj.cells #[Value.int IntKind.i64 t511, Value.int IntKind.i64 t512, Value.int IntKind.i64 t513, Value.int IntKind.i64 t514] 25))) (BK522 : Az ((World.heap wr)[gb522]? = some (Obj.cells #[Value.int IntKind.i64 t517, Value.int IntKind.i64 t518, Value.int IntKind.i64 t519, Value.int IntKind.i64 t520] 25))) (BK529 : Az ((World.heap wr)[gb529]? = some (Obj.cells #[Value.int IntKind.i64 t523, Value.int IntKind.i64 t524, Value.int IntKind.i64 t525, Value.int IntKind.i64 t526] 25))) (BK530 : Az ((World.heap wr)[gb530]? = some (Obj.cells #[Value.int IntKind.i64 t527, Value.int IntKind.i64 t528] 35))) (BK534 : Az ((World.heap wr)[gb534]? = some (Obj.cells #[Value.int IntKind.i64 t531, Value.int IntKind.i64 t532] 35))) (BK538 : Az ((World.heap wr)[gb538]? = some (Obj.cells #[Value.int IntKind.i64 t535, Value.int IntKind.i64 t536] 35))) (BK545 : Az ((World.heap wr)[gb545]? = some (Obj.cells #[Value.int IntKind.i64 t540, Value.int IntKind.i64 t541, Value.int IntKind.i64 t542, Value.int IntKind.i64 t543] 25))) (BK551 : Az ((World.heap wr)[gb551]? = some (Obj.cells #[Value.int IntKind.i64 t546, Value.int IntKind.i64 t547, Value.int IntKind.i64 t548, Value.int IntKind.i64 t549] 25))) (BK554 : Az ((World.heap wr)[gb554]? = some (Obj.cells #[Value.int IntKind.i64 t552, Value.int IntKind.i64 t553] 35))) (HB : Az (Below (w.heap.size) w wr)) (k4 : Nat) (c630b0 : Decidable.decide (x35_4 < (↑(List.length t615) : Int)) = false) (t624 t625 t626 t627 : Int) (A644 : Az (impl_InverseMatrix.f k4 t501 t502 t503 t504 = some (t624, t625, t626, t627))) (t628 t629 t630 t631 : Int) (A645 : Az (impl_TimesMatrix.f k4 t501 t502 t503 t504 t624 t625 t626 t627 = some (t628, t629, t630, t631, true))) (c647b0 : (t628 == 1 && (t629 == 0 && (t630 == 0 && t631 == 1))) = true) (c647b1 : Decidable.decide ((Decidable.decide (t628 = 1) && (t629 == 0 && (t630 == 0 && t631 == 1))) = true) = true) (c647b2 : (t628 == 1 && (t629 == 0 && (t630 == 0 && t631 == 1))) = true) (t634 : Int) (A648 : Az (impl_OrderOf.f k4 t501 t502 t503 t504 = some t634)) (t635 : ByteArray) (A649 : Az (impl_KindOf.f k4 t501 t502 t503 t504 = some t635)) (c650b0 : (ByteArray.toList t635 == [105, 100, 101, 110, 116, 105, 116, 121]) = true) (c650b1 : (ByteArray.toList t635 != [105, 100, 101, 110, 116, 105, 116, 121]) = false) (c651b0 : (Decidable.decide (t634 > 0) == true) = true) (c651b1 : Decidable.decide (Decidable.decide (t634 > 0) = true) = true) (c651b2 : (Decidable.decide (t634 > 0) == true) = true) (t636 : ByteArray) (H : some (((↑(List.length t615) : Int) == 1) == (ByteArray.toList t636 == [116, 119, 105, 115, 116])) = some r) (A652 : Az (impl_KindOf.f k4 t501 t502 t503 t504 = some t636)) (Ao653 : Option Addr) (co653 : Nat) (HO_34 : Az (Kd.R k35 35 wr (w.heap.size) (fun (k_ : Nat) => k_ ≠ gb530 ∧ k_ ≠ gb534 ∧ k_ ≠ gb538 ∧ k_ ≠ gb554) (Value.slice Ao653 (List.length t615) co653) t615)) :
  Code.wp Tryd.prog (tailOf (Tryd.f4.body.getD .skip) 20) (bodyPost Tryd.prog Tryd.f4 (fun e w' => e = .returned (.bool r) ∧ Below w.heap.size w w')) ⟨#[Value.slice A0 (List.length l0) c0, undef, u2, Value.pointer (some ⟨gb509, 0, none⟩), Value.pointer (some ⟨gb510, 0, none⟩), Value.pointer (some ⟨gb516, 0, none⟩), Value.bool t515, Value.pointer (some ⟨gb522, 0, none⟩), Value.bool t521, Value.pointer (some ⟨gb529, 0, none⟩), Value.pointer (some ⟨gb530, 0, none⟩), Value.pointer (some ⟨gb534, 0, none⟩), Value.bool t533, Value.pointer (some ⟨gb538, 0, none⟩), Value.bool t537, Value.string t539, Value.pointer (some ⟨gb545, 0, none⟩), Value.bool t544, Value.pointer (some ⟨gb551, 0, none⟩), Value.bool t550, Value.pointer (some ⟨gb554, 0, none⟩), Value.string t555, u22, u23, u24, u25, u26, u27, u28, u29, u30, u31, u32, u33, Value.slice Ao653 (List.length t615) co653, Value.int IntKind.i64 x35_4, u36, u37, undef, undef, u40, u41, u42, u43, u44, u45, u46, u47, u48, u49, u50, u51, u52, u53, u54, u55, u56, u57, u58, u59, u60, u61, u62, u63, u64, u65, u66, u67, u68, u69, u70, u71, u72, u73, u74, u75, u76, u77, u78, u79, u80, u81, u82, u83, u84, u85, u86, u87, u88, u89, u90, u91, u92, u93, u94, u95, u96, u97, u98, u99, u100, u101, u102, u103, u104, u105, u106, u107, u108, u109, u110, u111, u112, u113, u114, u115, u116, u117, u118, u119, u120, u121, u122, u123, u124, u125, u126, u127, u128, u129, u130, u131, u132, u133, u134, u135, u136, u137, u138, u139, u140, u141, u142, u143, u144, u145, u146, u147, u148, u149, u150, u151, u152, u153, u154, u155, u156, u157, u158, u159, u160, u161, u162, u163, u164, u165, u166, u167, u168, u169, u170, u171, u172, u173, u174, u175, u176, u177, u178, u179, u180, u181, u182, u183, u184, u185, u186, u187, u188, u189, u190, u191, u192, u193, u194, u195, u196, u197, u198, u199, u200, u201, u202, u203, u204, u205, u206, u207, u208, u209, u210, u211, u212, u213, u214, u215, u216, u217, u218, u219, u220, u221, u222, u223, u224, u225, u226, u227, u228, u229, u230, u231, u232, u233, u234, u235, u236, u237, u238, u239, u240, u241, u242, u243, u244, Value.agg #[Value.int IntKind.i64 t501, Value.int IntKind.i64 t502, Value.int IntKind.i64 t503, Value.int IntKind.i64 t504], Value.bool true, Value.bool false, u248, u249, u250, u251, u252, u253, u254, u255, Value.agg #[Value.int IntKind.i64 t501, Value.int IntKind.i64 t502, Value.int IntKind.i64 t503, Value.int IntKind.i64 t504], Value.slice Ao653 (List.length t615) co653, Value.int IntKind.i64 x35_4, Value.slice Ao653 (List.length t615) co653, Value.int IntKind.i64 (↑(List.length t615) : Int), Value.bool false, u262, u263, u264, u265, u266, u267, u268, u269, u270, u271, u272, u273, u274, u275, u276, u277, u278, u279, u280, u281, u282, u283, u284, u285, u286, u287, u288, u289, u290, u291, u292, u293, u294, u295, u296, u297, u298, u299, u300, u301, u302, u303, u304, u305, u306, u307, u308, u309, u310, u311, u312, u313, u314, u315, u316, u317, u318], []⟩ wr := by
 (try dsimp only)
 conv => arg 2; whnf
 obtain rfl := Option.some.inj H
 try go_wp2
 replace HO_34 := Az.mk (Kd.R_drew HO_34.out); replace BK509 := Az.mk (bkD BK509.out); replace BK510 := Az.mk (bkD BK510.out); replace BK516 := Az.mk (bkD BK516.out); replace BK522 := Az.mk (bkD BK522.out); replace BK529 := Az.mk (bkD BK529.out); replace BK530 := Az.mk (bkD BK530.out); replace BK534 := Az.mk (bkD BK534.out); replace BK538 := Az.mk (bkD BK538.out); replace BK545 := Az.mk (bkD BK545.out); replace BK551 := Az.mk (bkD BK551.out); replace BK554 := Az.mk (bkD BK554.out); replace HB := Az.mk (bwD HB.out)
 refine start_ (n := 10) (S := fun w' => w'.cell? ⟨gb509, 0, none⟩ = some (.int .i64 t501) ∧ w'.cell? ⟨gb509, 1, none⟩ = some (.int .i64 t502) ∧ w'.cell? ⟨gb509, 2, none⟩ = some (.int .i64 t503) ∧ w'.cell? ⟨gb509, 3, none⟩ = some (.int .i64 t504)) (ds := []) #[F,F,F,F,F,F,F,F,F,F] z26_1 rfl rfl cs_ (fun hHeld => ?_); refine with_tabW laws_FnMatrices.tab40 laws_FnMatrices.bits40 (fun HT_ HW_ => ?_)
 generalize wr.drew = w654 at HO_34 BK509 BK510 BK516 BK522 BK529 BK530 BK534 BK538 BK545 BK551 BK554 HB hHeld ⊢
 refine take_ (i := 0) (N := some 284) (v := ?_) (a' := ?_) #[T,F,F,F,F,F,F,F,F,F] rfl rfl (take_ofW HT_.out HW_.out z26_1) (fun _ _ _ h => h) (Or.inl ⟨by rfl, ?_⟩) hHeld ?_ ?_
 rotate_left
 ·rintro w' ⟨s0, s1, s2, s3⟩
  go_simp
  with_reducible rfl
 rotate_left
 ·exact acq
 refine take_ (i := 1) (N := some 285) (v := ?_) (a' := ?_) #[T,T,F,F,F,F,F,F,F,F] rfl rfl (take_ofW HT_.out HW_.out z26_1) (fun _ _ _ h => h) (Or.inl ⟨by rfl, ?_⟩) hHeld ?_ ?_
 rotate_left
 ·rintro w' ⟨s0, s1, s2, s3⟩
  go_simp
  with_reducible rfl
 rotate_left
 ·exact acq
 refine join_ (σ := Nat) 2 #[T,T,T,T,T,T,T,T,F,F] (fun s_ => [(286, .agg #[.int .i64 t624, .int .i64 t625, .int .i64 t626, .int .i64 t627]), (287, .tuple #[.agg #[.int .i64 t628, .int .i64 t629, .int .i64 t630, .int .i64 t631], .bool true]), (38, .pointer (some ⟨s_, 0, none⟩)), (283, .tuple #[.agg #[.int .i64 t628, .int .i64 t629, .int .i64 t630, .int .i64 t631], .bool true]), (288, .agg #[.int .i64 t628, .int .i64 t629, .int .i64 t630, .int .i64 t631]), (289, .bool true)]) (fun s_ w' => (w'.cell? ⟨gb509, 0, none⟩ = some (.int .i64 t501) ∧ w'.cell? ⟨gb509, 1, none⟩ = some (.int .i64 t502) ∧ w'.cell? ⟨gb509, 2, none⟩ = some (.int .i64 t503) ∧ w'.cell? ⟨gb509, 3, none⟩ = some (.int .i64 t504)) ∧ (Kd.R k35 35 w' w.heap.size (fun k_ => k_ ≠ gb530 ∧ k_ ≠ gb534 ∧ k_ ≠ gb538 ∧ k_ ≠ gb554) (.slice Ao653 t615.length co653) t615) ∧ (w'.heap[gb509]? = some (.cells #[.int .i64 t501, .int .i64 t502, .int .i64 t503, .int .i64 t504] 25 (0, 0))) ∧ (w'.heap[gb510]? = some (.cells #[.int .i64 t505, .int .i64 t506, .int .i64 t507, .int .i64 t508] 25 (0, 0))) ∧ (w'.heap[gb516]? = some (.cells #[.int .i64 t511, .int .i64 t512, .int .i64 t513, .int .i64 t514] 25 (0, 0))) ∧ (w'.heap[gb522]? = some (.cells #[.int .i64 t517, .int .i64 t518, .int .i64 t519, .int .i64 t520] 25 (0, 0))) ∧ (w'.heap[gb529]? = some (.cells #[.int .i64 t523, .int .i64 t524, .int .i64 t525, .int .i64 t526] 25 (0, 0))) ∧ (w'.heap[gb530]? = some (.cells #[.int .i64 t527, .int .i64 t528] 35 (0, 0))) ∧ (w'.heap[gb534]? = some (.cells #[.int .i64 t531, .int .i64 t532] 35 (0, 0))) ∧ (w'.heap[gb538]? = some (.cells #[.int .i64 t535, .int .i64 t536] 35 (0, 0))) ∧ (w'.heap[gb545]? = some (.cells #[.int .i64 t540, .int .i64 t541, .int .i64 t542, .int .i64 t543] 25 (0, 0))) ∧ (w'.heap[gb551]? = some (.cells #[.int .i64 t546, .int .i64 t547, .int .i64 t548, .int .i64 t549] 25 (0, 0))) ∧ (w'.heap[gb554]? = some (.cells #[.int .i64 t552, .int .i64 t553] 35 (0, 0))) ∧ (w'.heap[s_]? = some (.cells #[.int .i64 0, .int .i64 0, .int .i64 0, .int .i64 0] 25 (0, 0))) ∧ (w.heap.size ≤ s_) ∧ (w.heap.size ≤ s_) ∧ (gb509 ≠ s_) ∧ (s_ ≠ gb509) ∧ (gb510 ≠ s_) ∧ (s_ ≠ gb510) ∧ (gb516 ≠ s_) ∧ (s_ ≠ gb516) ∧ (gb522 ≠ s_) ∧ (s_ ≠ gb522) ∧ (gb529 ≠ s_) ∧ (s_ ≠ gb529) ∧ (gb530 ≠ s_) ∧ (s_ ≠ gb530) ∧ (gb534 ≠ s_) ∧ (s_ ≠ gb534) ∧ (gb538 ≠ s_) ∧ (s_ ≠ gb538) ∧ (gb545 ≠ s_) ∧ (s_ ≠ gb545) ∧ (gb551 ≠ s_) ∧ (s_ ≠ gb551) ∧ (gb554 ≠ s_) ∧ (s_ ≠ gb554) ∧ (Below w.heap.size w w')) ?_ ?_
 rotate_left
 ·intro hCont
  refine two_ (i := 2) (j := 7) (Ni := some 286) (Nj := some 38) #[T,T,T,F,F,F,F,F,F,F] #[T,T,F,F,F,F,F,T,F,F] rfl rfl rfl rfl (two_of HT_.out z26_1) (by decide) (by decide) (fun K hK => ?_) (fun K hK => ?_)
  ·skip
   refine goes_ Tryd.func23 z26_1 rfl #[.agg #[.int .i64 t501, .int .i64 t502, .int .i64 t503, .int .i64 t504]] (by rfl) rfl rfl ln_26 ?_
   with_reducible refine (impl_InverseMatrix.calls k4 t501 t502 t503 t504 t624 t625 t626 t627 _ A644.out).mono ?_
   rintro e w655 ⟨rfl, hb⟩
   refine ⟨_, rfl, ?_⟩
   replace HO_34 := Az.mk (Kd.R_below z26_0 hb); replace BK509 := bkz BK509 hb; replace BK510 := bkz BK510 hb; replace BK516 := bkz BK516 hb; replace BK522 := bkz BK522 hb; replace BK529 := bkz BK529 hb; replace BK530 := bkz BK530 hb; replace BK534 := bkz BK534 hb; replace BK538 := bkz BK538 hb; replace BK545 := bkz BK545 hb; replace BK551 := bkz BK551 hb; replace BK554 := bkz BK554 hb; replace HB := Az.mk (bwT bw_26 hb)
   (try clear hb)
   (try clear hb2)
   (try clear hk)
   (try clear hi)
   refine hK.out _ _ cs_ (fun hHeld => ?_)
   clear hK K
   refine norm_ (a' := ?_) ?_ ?_
   rotate_left
   ·show Act.put _ (some 286) _ = _
    exact acq
   refine two_ (i := 3) (j := 7) (Ni := some 287) (Nj := some 38) #[T,T,T,T,F,F,F,F,F,F] #[T,T,T,F,F,F,F,T,F,F] rfl rfl rfl rfl (two_of HT_.out z26_1) (by decide) (by decide) (fun K hK => ?_) (fun K hK => ?_)
   ·skip
    refine goes_ Tryd.func10 z26_1 rfl #[.agg #[.int .i64 t501, .int .i64 t502, .int .i64 t503, .int .i64 t504], .agg #[.int .i64 t624, .int .i64 t625, .int .i64 t626, .int .i64 t627]] (by rfl) rfl rfl ln_26 ?_
    with_reducible refine (impl_TimesMatrix.calls k4 t501 t502 t503 t504 t624 t625 t626 t627 t628 t629 t630 t631 true _ A645.out).mono ?_
    rintro e w656 ⟨rfl, hb⟩
    refine ⟨_, rfl, ?_⟩
    replace HO_34 := Az.mk (Kd.R_below z26_0 hb); replace BK509 := bkz BK509 hb; replace BK510 := bkz BK510 hb; replace BK516 := bkz BK516 hb; replace BK522 := bkz BK522 hb; replace BK529 := bkz BK529 hb; replace BK530 := bkz BK530 hb; replace BK534 := bkz BK534 hb; replace BK538 := bkz BK538 hb; replace BK545 := bkz BK545 hb; replace BK551 := bkz BK551 hb; replace BK554 := bkz BK554 hb; replace HB := Az.mk (bwT bw_26 hb)
    (try clear hb)
    (try clear hb2)
    (try clear hk)
    (try clear hi)
    refine hK.out _ _ cs_ (fun hHeld => ?_)
    clear hK K
    refine norm_ (a' := ?_) ?_ ?_
    rotate_left
    ·show Act.put _ (some 287) _ = _
     exact acq
    refine pu (i := 4) (N := some 283) #[T,T,T,T,T,F,F,F,F,F] (any_of HT_.out z26_1) ?_
    refine pu (i := 5) (N := some 288) #[T,T,T,T,T,T,F,F,F,F] (any_of HT_.out z26_1) ?_
    refine pu (i := 6) (N := some 289) #[T,T,T,T,T,T,T,F,F,F] (any_of HT_.out z26_1) ?_
    refine one_ (i := 7) (N := some 38) #[T,T,T,T,T,T,T,T,F,F] rfl rfl (one_of HT_.out z26_1) (by decide) (fun K hK => ?_)
    refine box_step ?hg (N := 38) ?hd (cs := #[.int .i64 0, .int .i64 0, .int .i64 0, .int .i64 0]) (t := 25) ?hr ?_; (case hd => rfl); (case hg => rfl); (case hr => first | (go_simp; done) | (go_simp; rfl))
    intro gb633 hg w657 hbox hb
    replace HO_34 := Az.mk (Kd.R_below z26_0 hb); have BK633 := Az.mk (hbox); have GW633 := gwz hg bw_26; have GE633 := gwz hg bw_26; replace HB := Az.mk (bwT bw_26 hb); have NB509_633 := nlt BK509 hg; have NB633_509 := ngt BK509 hg; replace BK509 := bkz BK509 hb; have NB510_633 := nlt BK510 hg; have NB633_510 := ngt BK510 hg; replace BK510 := bkz BK510 hb; have NB516_633 := nlt BK516 hg; have NB633_516 := ngt BK516 hg; replace BK516 := bkz BK516 hb; have NB522_633 := nlt BK522 hg; have NB633_522 := ngt BK522 hg; replace BK522 := bkz BK522 hb; have NB529_633 := nlt BK529 hg; have NB633_529 := ngt BK529 hg; replace BK529 := bkz BK529 hb; have NB530_633 := nlt BK530 hg; have NB633_530 := ngt BK530 hg; replace BK530 := bkz BK530 hb; have NB534_633 := nlt BK534 hg; have NB633_534 := ngt BK534 hg; replace BK534 := bkz BK534 hb; have NB538_633 := nlt BK538 hg; have NB633_538 := ngt BK538 hg; replace BK538 := bkz BK538 hb; have NB545_633 := nlt BK545 hg; have NB633_545 := ngt BK545 hg; replace BK545 := bkz BK545 hb; have NB551_633 := nlt BK551 hg; have NB633_551 := ngt BK551 hg; replace BK551 := bkz BK551 hb; have NB554_633 := nlt BK554 hg; have NB633_554 := ngt BK554 hg; replace BK554 := bkz BK554 hb
    clear hb hbox hg
    refine hK.out _ _ cs_ (fun hHeld => ?_)
    clear hK K
    refine norm_ (a' := ?_) ?_ ?_
    rotate_left
    ·show Act.put _ (some 38) _ = _
     exact acq
    exact norm_ (by simp only [putAll, Act.put, List.setIfInBounds_toArray, List.set_cons_zero, List.set_cons_succ]) (hCont (gb633) _ ⟨hHeld, z26_0, (bk1 BK509), (bk1 BK510), (bk1 BK516), (bk1 BK522), (bk1 BK529), (bk1 BK530), (bk1 BK534), (bk1 BK538), (bk1 BK545), (bk1 BK551), (bk1 BK554), (bk1 BK633), GW633.out, GE633.out, NB509_633.out, NB633_509.out, NB510_633.out, NB633_510.out, NB516_633.out, NB633_516.out, NB522_633.out, NB633_522.out, NB529_633.out, NB633_529.out, NB530_633.out, NB633_530.out, NB534_633.out, NB633_534.out, NB538_633.out, NB633_538.out, NB545_633.out, NB633_545.out, NB551_633.out, NB633_551.out, NB554_633.out, NB633_554.out, bw_26⟩)
   skip
   refine box_step ?hg (N := 38) ?hd (cs := #[.int .i64 0, .int .i64 0, .int .i64 0, .int .i64 0]) (t := 25) ?hr ?_; (case hd => rfl); (case hg => rfl); (case hr => first | (go_simp; done) | (go_simp; rfl))
   intro gb633 hg w656 hbox hb
   replace HO_34 := Az.mk (Kd.R_below z26_0 hb); have BK633 := Az.mk (hbox); have GW633 := gwz hg bw_26; have GE633 := gwz hg bw_26; replace HB := Az.mk (bwT bw_26 hb); have NB509_633 := nlt BK509 hg; have NB633_509 := ngt BK509 hg; replace BK509 := bkz BK509 hb; have NB510_633 := nlt BK510 hg; have NB633_510 := ngt BK510 hg; replace BK510 := bkz BK510 hb; have NB516_633 := nlt BK516 hg; have NB633_516 := ngt BK516 hg; replace BK516 := bkz BK516 hb; have NB522_633 := nlt BK522 hg; have NB633_522 := ngt BK522 hg; replace BK522 := bkz BK522 hb; have NB529_633 := nlt BK529 hg; have NB633_529 := ngt BK529 hg; replace BK529 := bkz BK529 hb; have NB530_633 := nlt BK530 hg; have NB633_530 := ngt BK530 hg; replace BK530 := bkz BK530 hb; have NB534_633 := nlt BK534 hg; have NB633_534 := ngt BK534 hg; replace BK534 := bkz BK534 hb; have NB538_633 := nlt BK538 hg; have NB633_538 := ngt BK538 hg; replace BK538 := bkz BK538 hb; have NB545_633 := nlt BK545 hg; have NB633_545 := ngt BK545 hg; replace BK545 := bkz BK545 hb; have NB551_633 := nlt BK551 hg; have NB633_551 := ngt BK551 hg; replace BK551 := bkz BK551 hb; have NB554_633 := nlt BK554 hg; have NB633_554 := ngt BK554 hg; replace BK554 := bkz BK554 hb
   clear hb hbox hg
   refine hK.out _ _ cs_ (fun hHeld => ?_)
   clear hK K
   refine norm_ (a' := ?_) ?_ ?_
   rotate_left
   ·show Act.put _ (some 38) _ = _
    exact acq
   refine one_ (i := 3) (N := some 287) #[T,T,T,T,F,F,F,T,F,F] rfl rfl (one_of HT_.out z26_1) (by decide) (fun K hK => ?_)
   refine goes_ Tryd.func10 z26_1 rfl #[.agg #[.int .i64 t501, .int .i64 t502, .int .i64 t503, .int .i64 t504], .agg #[.int .i64 t624, .int .i64 t625, .int .i64 t626, .int .i64 t627]] (by rfl) rfl rfl ln_26 ?_
   with_reducible refine (impl_TimesMatrix.calls k4 t501 t502 t503 t504 t624 t625 t626 t627 t628 t629 t630 t631 true _ A645.out).mono ?_
   rintro e w657 ⟨rfl, hb⟩
   refine ⟨_, rfl, ?_⟩
   replace HO_34 := Az.mk (Kd.R_below z26_0 hb); replace BK509 := bkz BK509 hb; replace BK510 := bkz BK510 hb; replace BK516 := bkz BK516 hb; replace BK522 := bkz BK522 hb; replace BK529 := bkz BK529 hb; replace BK530 := bkz BK530 hb; replace BK534 := bkz BK534 hb; replace BK538 := bkz BK538 hb; replace BK545 := bkz BK545 hb; replace BK551 := bkz BK551 hb; replace BK554 := bkz BK554 hb; replace BK633 := bkz BK633 hb; replace HB := Az.mk (bwT bw_26 hb)
   (try clear hb)
   (try clear hb2)
   (try clear hk)
   (try clear hi)
   refine hK.out _ _ cs_ (fun hHeld => ?_)
   clear hK K
   refine norm_ (a' := ?_) ?_ ?_
   rotate_left
   ·show Act.put _ (some 287) _ = _
    exact acq
   refine pu (i := 4) (N := some 283) #[T,T,T,T,T,F,F,T,F,F] (any_of HT_.out z26_1) ?_
   refine pu (i := 5) (N := some 288) #[T,T,T,T,T,T,F,T,F,F] (any_of HT_.out z26_1) ?_
   refine pu (i := 6) (N := some 289) #[T,T,T,T,T,T,T,T,F,F] (any_of HT_.out z26_1) ?_
   exact norm_ (by simp only [putAll, Act.put, List.setIfInBounds_toArray, List.set_cons_zero, List.set_cons_succ]) (hCont (gb633) _ ⟨hHeld, z26_0, (bk1 BK509), (bk1 BK510), (bk1 BK516), (bk1 BK522), (bk1 BK529), (bk1 BK530), (bk1 BK534), (bk1 BK538), (bk1 BK545), (bk1 BK551), (bk1 BK554), (bk1 BK633), GW633.out, GE633.out, NB509_633.out, NB633_509.out, NB510_633.out, NB633_510.out, NB516_633.out, NB633_516.out, NB522_633.out, NB633_522.out, NB529_633.out, NB633_529.out, NB530_633.out, NB633_530.out, NB534_633.out, NB633_534.out, NB538_633.out, NB633_538.out, NB545_633.out, NB633_545.out, NB551_633.out, NB633_551.out, NB554_633.out, NB633_554.out, bw_26⟩)
  skip
  refine box_step ?hg (N := 38) ?hd (cs := #[.int .i64 0, .int .i64 0, .int .i64 0, .int .i64 0]) (t := 25) ?hr ?_; (case hd => rfl); (case hg => rfl); (case hr => first | (go_simp; done) | (go_simp; rfl))
  intro gb633 hg w655 hbox hb
  replace HO_34 := Az.mk (Kd.R_below z26_0 hb); have BK633 := Az.mk (hbox); have GW633 := gwz hg bw_26; have GE633 := gwz hg bw_26; replace HB := Az.mk (bwT bw_26 hb); have NB509_633 := nlt BK509 hg; have NB633_509 := ngt BK509 hg; replace BK509 := bkz BK509 hb; have NB510_633 := nlt BK510 hg; have NB633_510 := ngt BK510 hg; replace BK510 := bkz BK510 hb; have NB516_633 := nlt BK516 hg; have NB633_516 := ngt BK516 hg; replace BK516 := bkz BK516 hb; have NB522_633 := nlt BK522 hg; have NB633_522 := ngt BK522 hg; replace BK522 := bkz BK522 hb; have NB529_633 := nlt BK529 hg; have NB633_529 := ngt BK529 hg; replace BK529 := bkz BK529 hb; have NB530_633 := nlt BK530 hg; have NB633_530 := ngt BK530 hg; replace BK530 := bkz BK530 hb; have NB534_633 := nlt BK534 hg; have NB633_534 := ngt BK534 hg; replace BK534 := bkz BK534 hb; have NB538_633 := nlt BK538 hg; have NB633_538 := ngt BK538 hg; replace BK538 := bkz BK538 hb; have NB545_633 := nlt BK545 hg; have NB633_545 := ngt BK545 hg; replace BK545 := bkz BK545 hb; have NB551_633 := nlt BK551 hg; have NB633_551 := ngt BK551 hg; replace BK551 := bkz BK551 hb; have NB554_633 := nlt BK554 hg; have NB633_554 := ngt BK554 hg; replace BK554 := bkz BK554 hb
  clear hb hbox hg
  refine hK.out _ _ cs_ (fun hHeld => ?_)
  clear hK K
  refine norm_ (a' := ?_) ?_ ?_
  rotate_left
  ·show Act.put _ (some 38) _ = _
   exact acq
  refine one_ (i := 2) (N := some 286) #[T,T,T,F,F,F,F,T,F,F] rfl rfl (one_of HT_.out z26_1) (by decide) (fun K hK => ?_)
  refine goes_ Tryd.func23 z26_1 rfl #[.agg #[.int .i64 t501, .int .i64 t502, .int .i64 t503, .int .i64 t504]] (by rfl) rfl rfl ln_26 ?_
  with_reducible refine (impl_InverseMatrix.calls k4 t501 t502 t503 t504 t624 t625 t626 t627 _ A644.out).mono ?_
  rintro e w656 ⟨rfl, hb⟩
  refine ⟨_, rfl, ?_⟩
  replace HO_34 := Az.mk (Kd.R_below z26_0 hb); replace BK509 := bkz BK509 hb; replace BK510 := bkz BK510 hb; replace BK516 := bkz BK516 hb; replace BK522 := bkz BK522 hb; replace BK529 := bkz BK529 hb; replace BK530 := bkz BK530 hb; replace BK534 := bkz BK534 hb; replace BK538 := bkz BK538 hb; replace BK545 := bkz BK545 hb; replace BK551 := bkz BK551 hb; replace BK554 := bkz BK554 hb; replace BK633 := bkz BK633 hb; replace HB := Az.mk (bwT bw_26 hb)
  (try clear hb)
  (try clear hb2)
  (try clear hk)
  (try clear hi)
  refine hK.out _ _ cs_ (fun hHeld => ?_)
  clear hK K
  refine norm_ (a' := ?_) ?_ ?_
  rotate_left
  ·show Act.put _ (some 286) _ = _
   exact acq
  refine one_ (i := 3) (N := some 287) #[T,T,T,T,F,F,F,T,F,F] rfl rfl (one_of HT_.out z26_1) (by decide) (fun K hK => ?_)
  refine goes_ Tryd.func10 z26_1 rfl #[.agg #[.int .i64 t501, .int .i64 t502, .int .i64 t503, .int .i64 t504], .agg #[.int .i64 t624, .int .i64 t625, .int .i64 t626, .int .i64 t627]] (by rfl) rfl rfl ln_26 ?_
  with_reducible refine (impl_TimesMatrix.calls k4 t501 t502 t503 t504 t624 t625 t626 t627 t628 t629 t630 t631 true _ A645.out).mono ?_
  rintro e w657 ⟨rfl, hb⟩
  refine ⟨_, rfl, ?_⟩
  replace HO_34 := Az.mk (Kd.R_below z26_0 hb); replace BK509 := bkz BK509 hb; replace BK510 := bkz BK510 hb; replace BK516 := bkz BK516 hb; replace BK522 := bkz BK522 hb; replace BK529 := bkz BK529 hb; replace BK530 := bkz BK530 hb; replace BK534 := bkz BK534 hb; replace BK538 := bkz BK538 hb; replace BK545 := bkz BK545 hb; replace BK551 := bkz BK551 hb; replace BK554 := bkz BK554 hb; replace BK633 := bkz BK633 hb; replace HB := Az.mk (bwT bw_26 hb)
  (try clear hb)
  (try clear hb2)
  (try clear hk)
  (try clear hi)
  refine hK.out _ _ cs_ (fun hHeld => ?_)
  clear hK K
  refine norm_ (a' := ?_) ?_ ?_
  rotate_left
  ·show Act.put _ (some 287) _ = _
   exact acq
  refine pu (i := 4) (N := some 283) #[T,T,T,T,T,F,F,T,F,F] (any_of HT_.out z26_1) ?_
  refine pu (i := 5) (N := some 288) #[T,T,T,T,T,T,F,T,F,F] (any_of HT_.out z26_1) ?_
  refine pu (i := 6) (N := some 289) #[T,T,T,T,T,T,T,T,F,F] (any_of HT_.out z26_1) ?_
  exact norm_ (by simp only [putAll, Act.put, List.setIfInBounds_toArray, List.set_cons_zero, List.set_cons_succ]) (hCont (gb633) _ ⟨hHeld, z26_0, (bk1 BK509), (bk1 BK510), (bk1 BK516), (bk1 BK522), (bk1 BK529), (bk1 BK530), (bk1 BK534), (bk1 BK538), (bk1 BK545), (bk1 BK551), (bk1 BK554), (bk1 BK633), GW633.out, GE633.out, NB509_633.out, NB633_509.out, NB510_633.out, NB633_510.out, NB516_633.out, NB633_516.out, NB522_633.out, NB633_522.out, NB529_633.out, NB633_529.out, NB530_633.out, NB633_530.out, NB534_633.out, NB633_534.out, NB538_633.out, NB633_538.out, NB545_633.out, NB633_545.out, NB551_633.out, NB633_551.out, NB554_633.out, NB633_554.out, bw_26⟩)
 rintro gb633 w658 ⟨hS_, h0_, h1_, h2_, h3_, h4_, h5_, h6_, h7_, h8_, h9_, h10_, h11_, h12_, h13_, h14_, h15_, h16_, h17_, h18_, h19_, h20_, h21_, h22_, h23_, h24_, h25_, h26_, h27_, h28_, h29_, h30_, h31_, h32_, h33_, h34_, h35_, h36_, h37_⟩
 have n0_ : Az (Kd.R k35 35 w658 w.heap.size (fun k_ => k_ ≠ gb530 ∧ k_ ≠ gb534 ∧ k_ ≠ gb538 ∧ k_ ≠ gb554) (.slice Ao653 t615.length co653) t615) := ⟨h0_⟩
 have n1_ : Az (w658.heap[gb509]? = some (.cells #[.int .i64 t501, .int .i64 t502, .int .i64 t503, .int .i64 t504] 25 (0, 0))) := ⟨h1_⟩
 have n2_ : Az (w658.heap[gb510]? = some (.cells #[.int .i64 t505, .int .i64 t506, .int .i64 t507, .int .i64 t508] 25 (0, 0))) := ⟨h2_⟩
 have n3_ : Az (w658.heap[gb516]? = some (.cells #[.int .i64 t511, .int .i64 t512, .int .i64 t513, .int .i64 t514] 25 (0, 0))) := ⟨h3_⟩
 have n4_ : Az (w658.heap[gb522]? = some (.cells #[.int .i64 t517, .int .i64 t518, .int .i64 t519, .int .i64 t520] 25 (0, 0))) := ⟨h4_⟩
 have n5_ : Az (w658.heap[gb529]? = some (.cells #[.int .i64 t523, .int .i64 t524, .int .i64 t525, .int .i64 t526] 25 (0, 0))) := ⟨h5_⟩
 have n6_ : Az (w658.heap[gb530]? = some (.cells #[.int .i64 t527, .int .i64 t528] 35 (0, 0))) := ⟨h6_⟩
 have n7_ : Az (w658.heap[gb534]? = some (.cells #[.int .i64 t531, .int .i64 t532] 35 (0, 0))) := ⟨h7_⟩
 have n8_ : Az (w658.heap[gb538]? = some (.cells #[.int .i64 t535, .int .i64 t536] 35 (0, 0))) := ⟨h8_⟩
 have n9_ : Az (w658.heap[gb545]? = some (.cells #[.int .i64 t540, .int .i64 t541, .int .i64 t542, .int .i64 t543] 25 (0, 0))) := ⟨h9_⟩
 have n10_ : Az (w658.heap[gb551]? = some (.cells #[.int .i64 t546, .int .i64 t547, .int .i64 t548, .int .i64 t549] 25 (0, 0))) := ⟨h10_⟩
 have n11_ : Az (w658.heap[gb554]? = some (.cells #[.int .i64 t552, .int .i64 t553] 35 (0, 0))) := ⟨h11_⟩
 have n12_ : Az (w658.heap[gb633]? = some (.cells #[.int .i64 0, .int .i64 0, .int .i64 0, .int .i64 0] 25 (0, 0))) := ⟨h12_⟩
 have n13_ : Az (w.heap.size ≤ gb633) := ⟨h13_⟩
 have n14_ : Az (w.heap.size ≤ gb633) := ⟨h14_⟩
 have n15_ : Az (gb509 ≠ gb633) := ⟨h15_⟩
 have n16_ : Az (gb633 ≠ gb509) := ⟨h16_⟩
 have n17_ : Az (gb510 ≠ gb633) := ⟨h17_⟩
 have n18_ : Az (gb633 ≠ gb510) := ⟨h18_⟩
 have n19_ : Az (gb516 ≠ gb633) := ⟨h19_⟩
 have n20_ : Az (gb633 ≠ gb516) := ⟨h20_⟩
 have n21_ : Az (gb522 ≠ gb633) := ⟨h21_⟩
 have n22_ : Az (gb633 ≠ gb522) := ⟨h22_⟩
 have n23_ : Az (gb529 ≠ gb633) := ⟨h23_⟩
 have n24_ : Az (gb633 ≠ gb529) := ⟨h24_⟩
 have n25_ : Az (gb530 ≠ gb633) := ⟨h25_⟩
 have n26_ : Az (gb633 ≠ gb530) := ⟨h26_⟩
 have n27_ : Az (gb534 ≠ gb633) := ⟨h27_⟩
 have n28_ : Az (gb633 ≠ gb534) := ⟨h28_⟩
 have n29_ : Az (gb538 ≠ gb633) := ⟨h29_⟩
 have n30_ : Az (gb633 ≠ gb538) := ⟨h30_⟩
 have n31_ : Az (gb545 ≠ gb633) := ⟨h31_⟩
 have n32_ : Az (gb633 ≠ gb545) := ⟨h32_⟩
 have n33_ : Az (gb551 ≠ gb633) := ⟨h33_⟩
 have n34_ : Az (gb633 ≠ gb551) := ⟨h34_⟩
 have n35_ : Az (gb554 ≠ gb633) := ⟨h35_⟩
 have n36_ : Az (gb633 ≠ gb554) := ⟨h36_⟩
 have n37_ : Az (Below w.heap.size w w658) := ⟨h37_⟩
 clear HO_34
 clear BK509
 clear BK510
 clear BK516
 clear BK522
 clear BK529
 clear BK530
 clear BK534
 clear BK538
 clear BK545
 clear BK551
 clear BK554
 clear HB
 clear h0_ h1_ h2_ h3_ h4_ h5_ h6_ h7_ h8_ h9_ h10_ h11_ h12_ h13_ h14_ h15_ h16_ h17_ h18_ h19_ h20_ h21_ h22_ h23_ h24_ h25_ h26_ h27_ h28_ h29_ h30_ h31_ h32_ h33_ h34_ h35_ h36_ h37_
 have HO_34 := n0_
 have BK509 := n1_
 have BK510 := n2_
 have BK516 := n3_
 have BK522 := n4_
 have BK529 := n5_
 have BK530 := n6_
 have BK534 := n7_
 have BK538 := n8_
 have BK545 := n9_
 have BK551 := n10_
 have BK554 := n11_
 have BK633 := n12_
 have GW633 := n13_
 have GE633 := n14_
 have NB509_633 := n15_
 have NB633_509 := n16_
 have NB510_633 := n17_
 have NB633_510 := n18_
 have NB516_633 := n19_
 have NB633_516 := n20_
 have NB522_633 := n21_
 have NB633_522 := n22_
 have NB529_633 := n23_
 have NB633_529 := n24_
 have NB530_633 := n25_
 have NB633_530 := n26_
 have NB534_633 := n27_
 have NB633_534 := n28_
 have NB538_633 := n29_
 have NB633_538 := n30_
 have NB545_633 := n31_
 have NB633_545 := n32_
 have NB551_633 := n33_
 have NB633_551 := n34_
 have NB554_633 := n35_
 have NB633_554 := n36_
 have HB := n37_
 clear n0_ n1_ n2_ n3_ n4_ n5_ n6_ n7_ n8_ n9_ n10_ n11_ n12_ n13_ n14_ n15_ n16_ n17_ n18_ n19_ n20_ n21_ n22_ n23_ n24_ n25_ n26_ n27_ n28_ n29_ n30_ n31_ n32_ n33_ n34_ n35_ n36_ n37_
 have hHeld : w658.cell? ⟨gb509, 0, none⟩ = some (.int .i64 t501) ∧ w658.cell? ⟨gb509, 1, none⟩ = some (.int .i64 t502) ∧ w658.cell? ⟨gb509, 2, none⟩ = some (.int .i64 t503) ∧ w658.cell? ⟨gb509, 3, none⟩ = some (.int .i64 t504) := hS_
 refine norm_ (a' := ?_) ?_ ?_
 rotate_left
 ·simp only [putAll, Act.put, List.setIfInBounds_toArray, List.set_cons_zero, List.set_cons_succ]
  rfl
 refine one_ (i := 8) (N := none) #[T,T,T,T,T,T,T,T,T,F] rfl rfl (one_of HT_.out z26_1) (by decide) (fun K hK => ?_)
 have hs659 := bkc0 BK633
 have hfs659 := bkF BK633.out 0
 have hns659_0 := NB509_633.out
 have hns659_1 := NB510_633.out
 have hns659_2 := NB516_633.out
 have hns659_3 := NB522_633.out
 have hns659_4 := NB529_633.out
 have hns659_5 := NB530_633.out
 have hns659_6 := NB534_633.out
 have hns659_7 := NB538_633.out
 have hns659_8 := NB545_633.out
 have hns659_9 := NB551_633.out
 have hns659_10 := NB554_633.out
 have hms659_0 := NB633_509.out
 have hms659_1 := NB633_510.out
 have hms659_2 := NB633_516.out
 have hms659_3 := NB633_522.out
 have hms659_4 := NB633_529.out
 have hms659_5 := NB633_530.out
 have hms659_6 := NB633_534.out
 have hms659_7 := NB633_538.out
 have hms659_8 := NB633_545.out
 have hms659_9 := NB633_551.out
 have hms659_10 := NB633_554.out
 have hs660 := bkc1 BK633
 have hfs660 := bkF BK633.out 1
 have hns660_0 := NB509_633.out
 have hns660_1 := NB510_633.out
 have hns660_2 := NB516_633.out
 have hns660_3 := NB522_633.out
 have hns660_4 := NB529_633.out
 have hns660_5 := NB530_633.out
 have hns660_6 := NB534_633.out
 have hns660_7 := NB538_633.out
 have hns660_8 := NB545_633.out
 have hns660_9 := NB551_633.out
 have hns660_10 := NB554_633.out
 have hms660_0 := NB633_509.out
 have hms660_1 := NB633_510.out
 have hms660_2 := NB633_516.out
 have hms660_3 := NB633_522.out
 have hms660_4 := NB633_529.out
 have hms660_5 := NB633_530.out
 have hms660_6 := NB633_534.out
 have hms660_7 := NB633_538.out
 have hms660_8 := NB633_545.out
 have hms660_9 := NB633_551.out
 have hms660_10 := NB633_554.out
 have hs661 := bkc2 BK633
 have hfs661 := bkF BK633.out 2
 have hns661_0 := NB509_633.out
 have hns661_1 := NB510_633.out
 have hns661_2 := NB516_633.out
 have hns661_3 := NB522_633.out
 have hns661_4 := NB529_633.out
 have hns661_5 := NB530_633.out
 have hns661_6 := NB534_633.out
 have hns661_7 := NB538_633.out
 have hns661_8 := NB545_633.out
 have hns661_9 := NB551_633.out
 have hns661_10 := NB554_633.out
 have hms661_0 := NB633_509.out
 have hms661_1 := NB633_510.out
 have hms661_2 := NB633_516.out
 have hms661_3 := NB633_522.out
 have hms661_4 := NB633_529.out
 have hms661_5 := NB633_530.out
 have hms661_6 := NB633_534.out
 have hms661_7 := NB633_538.out
 have hms661_8 := NB633_545.out
 have hms661_9 := NB633_551.out
 have hms661_10 := NB633_554.out
 have hs662 := bkc3 BK633
 have hfs662 := bkF BK633.out 3
 have hns662_0 := NB509_633.out
 have hns662_1 := NB510_633.out
 have hns662_2 := NB516_633.out
 have hns662_3 := NB522_633.out
 have hns662_4 := NB529_633.out
 have hns662_5 := NB530_633.out
 have hns662_6 := NB534_633.out
 have hns662_7 := NB538_633.out
 have hns662_8 := NB545_633.out
 have hns662_9 := NB551_633.out
 have hns662_10 := NB554_633.out
 have hms662_0 := NB633_509.out
 have hms662_1 := NB633_510.out
 have hms662_2 := NB633_516.out
 have hms662_3 := NB633_522.out
 have hms662_4 := NB633_529.out
 have hms662_5 := NB633_530.out
 have hms662_6 := NB633_534.out
 have hms662_7 := NB633_538.out
 have hms662_8 := NB633_545.out
 have hms662_9 := NB633_551.out
 have hms662_10 := NB633_554.out
 refine skip_ (w1 := ?_) (by rfl) rfl ?_ ?_
 rotate_left
 ·go_simp
  rfl
 refine hK.out _ _ ⟨((cell_far (p := ⟨gb633, _, none⟩) NB509_633.out _).trans (((cell_far (p := ⟨gb633, _, none⟩) NB509_633.out _).trans (((cell_far (p := ⟨gb633, _, none⟩) NB509_633.out _).trans (((cell_far (p := ⟨gb633, _, none⟩) NB509_633.out _).trans (hHeld.1)))))))), ((cell_far (p := ⟨gb633, _, none⟩) NB509_633.out _).trans (((cell_far (p := ⟨gb633, _, none⟩) NB509_633.out _).trans (((cell_far (p := ⟨gb633, _, none⟩) NB509_633.out _).trans (((cell_far (p := ⟨gb633, _, none⟩) NB509_633.out _).trans (hHeld.2.1)))))))), ((cell_far (p := ⟨gb633, _, none⟩) NB509_633.out _).trans (((cell_far (p := ⟨gb633, _, none⟩) NB509_633.out _).trans (((cell_far (p := ⟨gb633, _, none⟩) NB509_633.out _).trans (((cell_far (p := ⟨gb633, _, none⟩) NB509_633.out _).trans (hHeld.2.2.1)))))))), ((cell_far (p := ⟨gb633, _, none⟩) NB509_633.out _).trans (((cell_far (p := ⟨gb633, _, none⟩) NB509_633.out _).trans (((cell_far (p := ⟨gb633, _, none⟩) NB509_633.out _).trans (((cell_far (p := ⟨gb633, _, none⟩) NB509_633.out _).trans (hHeld.2.2.2))))))))⟩ (fun hHeld => ?_)
 clear hK K
 refine pu (i := 9) (N := some 39) #[T,T,T,T,T,T,T,T,T,T] (any_of HT_.out z26_1) ?_
 refine done_ (done_of HT_.out z26_1) ?_
 try go_wp2
 have n0_ : Az (Kd.R k35 35 ((((w658.setCell ⟨gb633, 0, none⟩ (.int .i64 t628)).setCell ⟨gb633, 1, none⟩ (.int .i64 t629)).setCell ⟨gb633, 2, none⟩ (.int .i64 t630)).setCell ⟨gb633, 3, none⟩ (.int .i64 t631)) w.heap.size (fun k_ => k_ ≠ gb530 ∧ k_ ≠ gb534 ∧ k_ ≠ gb538 ∧ k_ ≠ gb554) (.slice Ao653 t615.length co653) t615) := ⟨by (with_reducible repeat (first | apply Kd.R_alloc | apply Kd.R_drewN | apply Kd.R_drew)); exact Kd.R_mono (Kd.R_far (p := ⟨gb633, 3, none⟩) (Kd.R_far (p := ⟨gb633, 2, none⟩) (Kd.R_far (p := ⟨gb633, 1, none⟩) (Kd.R_far (p := ⟨gb633, 0, none⟩) (Kd.R_types HO_34.out BK633.out (by decide)) (fun _ hk => hk.2) (.int .i64 t628)) (fun _ hk => hk.2) (.int .i64 t629)) (fun _ hk => hk.2) (.int .i64 t630)) (fun _ hk => hk.2) (.int .i64 t631)) (fun _ hk => ⟨hk.1.1, ⟨hk.1.2.1, ⟨hk.1.2.2.1, hk.1.2.2.2⟩⟩⟩)⟩
 have n1_ : Az (((((w658.setCell ⟨gb633, 0, none⟩ (.int .i64 t628)).setCell ⟨gb633, 1, none⟩ (.int .i64 t629)).setCell ⟨gb633, 2, none⟩ (.int .i64 t630)).setCell ⟨gb633, 3, none⟩ (.int .i64 t631)).heap[gb509]? = some (.cells #[.int .i64 t501, .int .i64 t502, .int .i64 t503, .int .i64 t504] 25 (0, 0))) := ⟨bkv⟩
 have n2_ : Az (((((w658.setCell ⟨gb633, 0, none⟩ (.int .i64 t628)).setCell ⟨gb633, 1, none⟩ (.int .i64 t629)).setCell ⟨gb633, 2, none⟩ (.int .i64 t630)).setCell ⟨gb633, 3, none⟩ (.int .i64 t631)).heap[gb510]? = some (.cells #[.int .i64 t505, .int .i64 t506, .int .i64 t507, .int .i64 t508] 25 (0, 0))) := ⟨bkv⟩
 have n3_ : Az (((((w658.setCell ⟨gb633, 0, none⟩ (.int .i64 t628)).setCell ⟨gb633, 1, none⟩ (.int .i64 t629)).setCell ⟨gb633, 2, none⟩ (.int .i64 t630)).setCell ⟨gb633, 3, none⟩ (.int .i64 t631)).heap[gb516]? = some (.cells #[.int .i64 t511, .int .i64 t512, .int .i64 t513, .int .i64 t514] 25 (0, 0))) := ⟨bkv⟩
 have n4_ : Az (((((w658.setCell ⟨gb633, 0, none⟩ (.int .i64 t628)).setCell ⟨gb633, 1, none⟩ (.int .i64 t629)).setCell ⟨gb633, 2, none⟩ (.int .i64 t630)).setCell ⟨gb633, 3, none⟩ (.int .i64 t631)).heap[gb522]? = some (.cells #[.int .i64 t517, .int .i64 t518, .int .i64 t519, .int .i64 t520] 25 (0, 0))) := ⟨bkv⟩
 have n5_ : Az (((((w658.setCell ⟨gb633, 0, none⟩ (.int .i64 t628)).setCell ⟨gb633, 1, none⟩ (.int .i64 t629)).setCell ⟨gb633, 2, none⟩ (.int .i64 t630)).setCell ⟨gb633, 3, none⟩ (.int .i64 t631)).heap[gb529]? = some (.cells #[.int .i64 t523, .int .i64 t524, .int .i64 t525, .int .i64 t526] 25 (0, 0))) := ⟨bkv⟩
 have n6_ : Az (((((w658.setCell ⟨gb633, 0, none⟩ (.int .i64 t628)).setCell ⟨gb633, 1, none⟩ (.int .i64 t629)).setCell ⟨gb633, 2, none⟩ (.int .i64 t630)).setCell ⟨gb633, 3, none⟩ (.int .i64 t631)).heap[gb530]? = some (.cells #[.int .i64 t527, .int .i64 t528] 35 (0, 0))) := ⟨bkv⟩
 have n7_ : Az (((((w658.setCell ⟨gb633, 0, none⟩ (.int .i64 t628)).setCell ⟨gb633, 1, none⟩ (.int .i64 t629)).setCell ⟨gb633, 2, none⟩ (.int .i64 t630)).setCell ⟨gb633, 3, none⟩ (.int .i64 t631)).heap[gb534]? = some (.cells #[.int .i64 t531, .int .i64 t532] 35 (0, 0))) := ⟨bkv⟩
 have n8_ : Az (((((w658.setCell ⟨gb633, 0, none⟩ (.int .i64 t628)).setCell ⟨gb633, 1, none⟩ (.int .i64 t629)).setCell ⟨gb633, 2, none⟩ (.int .i64 t630)).setCell ⟨gb633, 3, none⟩ (.int .i64 t631)).heap[gb538]? = some (.cells #[.int .i64 t535, .int .i64 t536] 35 (0, 0))) := ⟨bkv⟩
 have n9_ : Az (((((w658.setCell ⟨gb633, 0, none⟩ (.int .i64 t628)).setCell ⟨gb633, 1, none⟩ (.int .i64 t629)).setCell ⟨gb633, 2, none⟩ (.int .i64 t630)).setCell ⟨gb633, 3, none⟩ (.int .i64 t631)).heap[gb545]? = some (.cells #[.int .i64 t540, .int .i64 t541, .int .i64 t542, .int .i64 t543] 25 (0, 0))) := ⟨bkv⟩
 have n10_ : Az (((((w658.setCell ⟨gb633, 0, none⟩ (.int .i64 t628)).setCell ⟨gb633, 1, none⟩ (.int .i64 t629)).setCell ⟨gb633, 2, none⟩ (.int .i64 t630)).setCell ⟨gb633, 3, none⟩ (.int .i64 t631)).heap[gb551]? = some (.cells #[.int .i64 t546, .int .i64 t547, .int .i64 t548, .int .i64 t549] 25 (0, 0))) := ⟨bkv⟩
 have n11_ : Az (((((w658.setCell ⟨gb633, 0, none⟩ (.int .i64 t628)).setCell ⟨gb633, 1, none⟩ (.int .i64 t629)).setCell ⟨gb633, 2, none⟩ (.int .i64 t630)).setCell ⟨gb633, 3, none⟩ (.int .i64 t631)).heap[gb554]? = some (.cells #[.int .i64 t552, .int .i64 t553] 35 (0, 0))) := ⟨bkv⟩
 have n12_ : Az (((((w658.setCell ⟨gb633, 0, none⟩ (.int .i64 t628)).setCell ⟨gb633, 1, none⟩ (.int .i64 t629)).setCell ⟨gb633, 2, none⟩ (.int .i64 t630)).setCell ⟨gb633, 3, none⟩ (.int .i64 t631)).heap[gb633]? = some (.cells #[.int .i64 t628, .int .i64 t629, .int .i64 t630, .int .i64 t631] 25 (0, 0))) := ⟨bkv⟩
 have n13_ : Az (Below w.heap.size w ((((w658.setCell ⟨gb633, 0, none⟩ (.int .i64 t628)).setCell ⟨gb633, 1, none⟩ (.int .i64 t629)).setCell ⟨gb633, 2, none⟩ (.int .i64 t630)).setCell ⟨gb633, 3, none⟩ (.int .i64 t631))) := ⟨bw_26⟩
 (try clear HO_34)
 (try clear BK509)
 (try clear BK510)
 (try clear BK516)
 (try clear BK522)
 (try clear BK529)
 (try clear BK530)
 (try clear BK534)
 (try clear BK538)
 (try clear BK545)
 (try clear BK551)
 (try clear BK554)
 (try clear BK633)
 (try clear HB)
 generalize ((((w658.setCell ⟨gb633, 0, none⟩ (.int .i64 t628)).setCell ⟨gb633, 1, none⟩ (.int .i64 t629)).setCell ⟨gb633, 2, none⟩ (.int .i64 t630)).setCell ⟨gb633, 3, none⟩ (.int .i64 t631)) = w663 at n0_ n1_ n2_ n3_ n4_ n5_ n6_ n7_ n8_ n9_ n10_ n11_ n12_ n13_ ⊢
 have HO_34 := n0_
 have BK509 := n1_
 have BK510 := n2_
 have BK516 := n3_
 have BK522 := n4_
 have BK529 := n5_
 have BK530 := n6_
 have BK534 := n7_
 have BK538 := n8_
 have BK545 := n9_
 have BK551 := n10_
 have BK554 := n11_
 have BK633 := n12_
 have HB := n13_
 clear n0_ n1_ n2_ n3_ n4_ n5_ n6_ n7_ n8_ n9_ n10_ n11_ n12_ n13_
 replace HO_34 := Az.mk (Kd.R_drew HO_34.out); replace BK509 := Az.mk (bkD BK509.out); replace BK510 := Az.mk (bkD BK510.out); replace BK516 := Az.mk (bkD BK516.out); replace BK522 := Az.mk (bkD BK522.out); replace BK529 := Az.mk (bkD BK529.out); replace BK530 := Az.mk (bkD BK530.out); replace BK534 := Az.mk (bkD BK534.out); replace BK538 := Az.mk (bkD BK538.out); replace BK545 := Az.mk (bkD BK545.out); replace BK551 := Az.mk (bkD BK551.out); replace BK554 := Az.mk (bkD BK554.out); replace BK633 := Az.mk (bkD BK633.out); replace HB := Az.mk (bwD HB.out)
 refine start_ (n := 30) (S := fun w' => w'.cell? ⟨gb633, 0, none⟩ = some (.int .i64 t628) ∧ w'.cell? ⟨gb633, 1, none⟩ = some (.int .i64 t629) ∧ w'.cell? ⟨gb633, 2, none⟩ = some (.int .i64 t630) ∧ w'.cell? ⟨gb633, 3, none⟩ = some (.int .i64 t631) ∧ w'.cell? ⟨gb509, 0, none⟩ = some (.int .i64 t501) ∧ w'.cell? ⟨gb509, 1, none⟩ = some (.int .i64 t502) ∧ w'.cell? ⟨gb509, 2, none⟩ = some (.int .i64 t503) ∧ w'.cell? ⟨gb509, 3, none⟩ = some (.int .i64 t504)) (ds := []) #[F,F,F,F,F,F,F,F,F,F,F,F,F,F,F,F,F,F,F,F,F,F,F,F,F,F,F,F,F,F] z26_1 rfl rfl cs_ (fun hHeld => ?_); refine with_tabW laws_FnMatrices.tab41 laws_FnMatrices.bits41 (fun HT_ HW_ => ?_)
 generalize w663.drew = w664 at HO_34 BK509 BK510 BK516 BK522 BK529 BK530 BK534 BK538 BK545 BK551 BK554 BK633 HB hHeld ⊢
 refine pu (i := 0) (N := some 290) #[T,F,F,F,F,F,F,F,F,F,F,F,F,F,F,F,F,F,F,F,F,F,F,F,F,F,F,F,F,F] (any_of HT_.out z26_1) ?_
 refine pu (i := 1) (N := some 291) #[T,T,F,F,F,F,F,F,F,F,F,F,F,F,F,F,F,F,F,F,F,F,F,F,F,F,F,F,F,F] (any_of HT_.out z26_1) ?_
 refine pu (i := 3) (N := some 293) #[T,T,F,T,F,F,F,F,F,F,F,F,F,F,F,F,F,F,F,F,F,F,F,F,F,F,F,F,F,F] (any_of HT_.out z26_1) ?_
 refine take_ (i := 2) (N := some 292) (v := ?_) (a' := ?_) #[T,T,T,T,F,F,F,F,F,F,F,F,F,F,F,F,F,F,F,F,F,F,F,F,F,F,F,F,F,F] rfl rfl (take_ofW HT_.out HW_.out z26_1) (fun _ _ _ h => h) (Or.inl ⟨by rfl, ?_⟩) hHeld ?_ ?_
 rotate_left
 ·rintro w' ⟨s0, s1, s2, s3, s4, s5, s6, s7⟩
  go_simp
  with_reducible rfl
 rotate_left
 ·exact acq
 refine pu (i := 4) (N := some 294) #[T,T,T,T,T,F,F,F,F,F,F,F,F,F,F,F,F,F,F,F,F,F,F,F,F,F,F,F,F,F] (any_of HT_.out z26_1) ?_
 refine pu (i := 5) (N := some 295) #[T,T,T,T,T,T,F,F,F,F,F,F,F,F,F,F,F,F,F,F,F,F,F,F,F,F,F,F,F,F] (any_of HT_.out z26_1) ?_
 refine pu (i := 6) (N := some 296) #[T,T,T,T,T,T,T,F,F,F,F,F,F,F,F,F,F,F,F,F,F,F,F,F,F,F,F,F,F,F] (any_of HT_.out z26_1) ?_
 refine take_ (i := 7) (N := some 297) (v := ?_) (a' := ?_) #[T,T,T,T,T,T,T,T,F,F,F,F,F,F,F,F,F,F,F,F,F,F,F,F,F,F,F,F,F,F] rfl rfl (take_ofW HT_.out HW_.out z26_1) (fun _ _ _ h => h) (Or.inl ⟨by rfl, ?_⟩) hHeld ?_ ?_
 rotate_left
 ·rintro w' ⟨s0, s1, s2, s3, s4, s5, s6, s7⟩
  go_simp
  with_reducible rfl
 rotate_left
 ·exact acq
 refine take_ (i := 10) (N := some 300) (v := ?_) (a' := ?_) #[T,T,T,T,T,T,T,T,F,F,T,F,F,F,F,F,F,F,F,F,F,F,F,F,F,F,F,F,F,F] rfl rfl (take_ofW HT_.out HW_.out z26_1) (fun _ _ _ h => h) (Or.inl ⟨by rfl, ?_⟩) hHeld ?_ ?_
 rotate_left
 ·rintro w' ⟨s0, s1, s2, s3, s4, s5, s6, s7⟩
  go_simp
  with_reducible rfl
 rotate_left
 ·exact acq
 refine one_ (i := 8) (N := some 298) #[T,T,T,T,T,T,T,T,T,F,T,F,F,F,F,F,F,F,F,F,F,F,F,F,F,F,F,F,F,F] rfl rfl (one_of HT_.out z26_1) (by decide) (fun K hK => ?_)
 refine goes_ Tryd.func29 z26_1 rfl #[.agg #[.int .i64 t501, .int .i64 t502, .int .i64 t503, .int .i64 t504]] (by rfl) rfl rfl ln_26 ?_
 with_reducible refine (impl_OrderOf.calls k4 t501 t502 t503 t504 t634 _ A648.out).mono ?_
 rintro e w665 ⟨rfl, hb⟩
 refine ⟨_, rfl, ?_⟩
 replace HO_34 := Az.mk (Kd.R_below z26_0 hb); replace BK509 := bkz BK509 hb; replace BK510 := bkz BK510 hb; replace BK516 := bkz BK516 hb; replace BK522 := bkz BK522 hb; replace BK529 := bkz BK529 hb; replace BK530 := bkz BK530 hb; replace BK534 := bkz BK534 hb; replace BK538 := bkz BK538 hb; replace BK545 := bkz BK545 hb; replace BK551 := bkz BK551 hb; replace BK554 := bkz BK554 hb; replace BK633 := bkz BK633 hb; replace HB := Az.mk (bwT bw_26 hb)
 (try clear hb)
 (try clear hb2)
 (try clear hk)
 (try clear hi)
 refine hK.out _ _ cs_ (fun hHeld => ?_)
 clear hK K
 refine norm_ (a' := ?_) ?_ ?_
 rotate_left
 ·show Act.put _ (some 298) _ = _
  exact acq
 refine pu (i := 9) (N := some 299) #[T,T,T,T,T,T,T,T,T,T,T,F,F,F,F,F,F,F,F,F,F,F,F,F,F,F,F,F,F,F] (any_of HT_.out z26_1) ?_
 refine one_ (i := 11) (N := some 301) #[T,T,T,T,T,T,T,T,T,T,T,T,F,F,F,F,F,F,F,F,F,F,F,F,F,F,F,F,F,F] rfl rfl (one_of HT_.out z26_1) (by decide) (fun K hK => ?_)
 refine goes_ Tryd.func27 z26_1 rfl #[.agg #[.int .i64 t501, .int .i64 t502, .int .i64 t503, .int .i64 t504]] (by rfl) rfl rfl ln_26 ?_
 with_reducible refine (impl_KindOf.calls k4 t501 t502 t503 t504 t635 _ A649.out).mono ?_
 rintro e w666 ⟨rfl, hb⟩
 refine ⟨_, rfl, ?_⟩
 replace HO_34 := Az.mk (Kd.R_below z26_0 hb); replace BK509 := bkz BK509 hb; replace BK510 := bkz BK510 hb; replace BK516 := bkz BK516 hb; replace BK522 := bkz BK522 hb; replace BK529 := bkz BK529 hb; replace BK530 := bkz BK530 hb; replace BK534 := bkz BK534 hb; replace BK538 := bkz BK538 hb; replace BK545 := bkz BK545 hb; replace BK551 := bkz BK551 hb; replace BK554 := bkz BK554 hb; replace BK633 := bkz BK633 hb; replace HB := Az.mk (bwT bw_26 hb)
 (try clear hb)
 (try clear hb2)
 (try clear hk)
 (try clear hi)
 refine hK.out _ _ cs_ (fun hHeld => ?_)
 clear hK K
 refine norm_ (a' := ?_) ?_ ?_
 rotate_left
 ·show Act.put _ (some 301) _ = _
  exact acq
 refine pu (i := 12) (N := some 302) #[T,T,T,T,T,T,T,T,T,T,T,T,T,F,F,F,F,F,F,F,F,F,F,F,F,F,F,F,F,F] (any_of HT_.out z26_1) ?_
 refine pu (i := 13) (N := some 303) #[T,T,T,T,T,T,T,T,T,T,T,T,T,T,F,F,F,F,F,F,F,F,F,F,F,F,F,F,F,F] (any_of HT_.out z26_1) ?_
 refine pure_ (i := 14) (N := some 304) (v := undef) (a' := ?_) #[T,T,T,T,T,T,T,T,T,T,T,T,T,T,T,F,F,F,F,F,F,F,F,F,F,F,F,F,F,F] rfl rfl (any_of HT_.out z26_1) (fun _ _ _ h => h) (Or.inr ⟨by rfl, rfl⟩) ?_ ?_
 rotate_left
 ·exact acq
 refine pure_ (i := 15) (N := some 305) (v := undef) (a' := ?_) #[T,T,T,T,T,T,T,T,T,T,T,T,T,T,T,T,F,F,F,F,F,F,F,F,F,F,F,F,F,F] rfl rfl (any_of HT_.out z26_1) (fun _ _ _ h => h) (Or.inr ⟨by rfl, rfl⟩) ?_ ?_
 rotate_left
 ·exact acq
 refine pure_ (i := 16) (N := some 306) (v := undef) (a' := ?_) #[T,T,T,T,T,T,T,T,T,T,T,T,T,T,T,T,T,F,F,F,F,F,F,F,F,F,F,F,F,F] rfl rfl (any_of HT_.out z26_1) (fun _ _ _ h => h) (Or.inr ⟨by rfl, rfl⟩) ?_ ?_
 rotate_left
 ·exact acq
 refine pu (i := 17) (N := some 307) #[T,T,T,T,T,T,T,T,T,T,T,T,T,T,T,T,T,T,F,F,F,F,F,F,F,F,F,F,F,F] (any_of HT_.out z26_1) ?_
 refine pu (i := 18) (N := some 308) #[T,T,T,T,T,T,T,T,T,T,T,T,T,T,T,T,T,T,T,F,F,F,F,F,F,F,F,F,F,F] (any_of HT_.out z26_1) ?_
 refine pu (i := 19) (N := some 309) #[T,T,T,T,T,T,T,T,T,T,T,T,T,T,T,T,T,T,T,T,F,F,F,F,F,F,F,F,F,F] (any_of HT_.out z26_1) ?_
 refine pu (i := 20) (N := some 310) #[T,T,T,T,T,T,T,T,T,T,T,T,T,T,T,T,T,T,T,T,T,F,F,F,F,F,F,F,F,F] (any_of HT_.out z26_1) ?_
 refine pu (i := 21) (N := some 311) #[T,T,T,T,T,T,T,T,T,T,T,T,T,T,T,T,T,T,T,T,T,T,F,F,F,F,F,F,F,F] (any_of HT_.out z26_1) ?_
 refine pu (i := 22) (N := some 312) #[T,T,T,T,T,T,T,T,T,T,T,T,T,T,T,T,T,T,T,T,T,T,T,F,F,F,F,F,F,F] (any_of HT_.out z26_1) ?_
 refine pu (i := 23) (N := some 313) #[T,T,T,T,T,T,T,T,T,T,T,T,T,T,T,T,T,T,T,T,T,T,T,T,F,F,F,F,F,F] (any_of HT_.out z26_1) ?_
 refine take_ (i := 24) (N := some 314) (v := ?_) (a' := ?_) #[T,T,T,T,T,T,T,T,T,T,T,T,T,T,T,T,T,T,T,T,T,T,T,T,T,F,F,F,F,F] rfl rfl (take_ofW HT_.out HW_.out z26_1) (fun _ _ _ h => h) (Or.inl ⟨by rfl, ?_⟩) hHeld ?_ ?_
 rotate_left
 ·rintro w' ⟨s0, s1, s2, s3, s4, s5, s6, s7⟩
  go_simp
  with_reducible rfl
 rotate_left
 ·exact acq
 refine one_ (i := 25) (N := some 315) #[T,T,T,T,T,T,T,T,T,T,T,T,T,T,T,T,T,T,T,T,T,T,T,T,T,T,F,F,F,F] rfl rfl (one_of HT_.out z26_1) (by decide) (fun K hK => ?_)
 refine goes_ Tryd.func27 z26_1 rfl #[.agg #[.int .i64 t501, .int .i64 t502, .int .i64 t503, .int .i64 t504]] (by rfl) rfl rfl ln_26 ?_
 with_reducible refine (impl_KindOf.calls k4 t501 t502 t503 t504 t636 _ A652.out).mono ?_
 rintro e w667 ⟨rfl, hb⟩
 refine ⟨_, rfl, ?_⟩
 replace HO_34 := Az.mk (Kd.R_below z26_0 hb); replace BK509 := bkz BK509 hb; replace BK510 := bkz BK510 hb; replace BK516 := bkz BK516 hb; replace BK522 := bkz BK522 hb; replace BK529 := bkz BK529 hb; replace BK530 := bkz BK530 hb; replace BK534 := bkz BK534 hb; replace BK538 := bkz BK538 hb; replace BK545 := bkz BK545 hb; replace BK551 := bkz BK551 hb; replace BK554 := bkz BK554 hb; replace BK633 := bkz BK633 hb; replace HB := Az.mk (bwT bw_26 hb)
 (try clear hb)
 (try clear hb2)
 (try clear hk)
 (try clear hi)
 refine hK.out _ _ cs_ (fun hHeld => ?_)
 clear hK K
 refine norm_ (a' := ?_) ?_ ?_
 rotate_left
 ·show Act.put _ (some 315) _ = _
  exact acq
 refine pu (i := 26) (N := some 316) #[T,T,T,T,T,T,T,T,T,T,T,T,T,T,T,T,T,T,T,T,T,T,T,T,T,T,T,F,F,F] (any_of HT_.out z26_1) ?_
 refine pu (i := 27) (N := some 317) #[T,T,T,T,T,T,T,T,T,T,T,T,T,T,T,T,T,T,T,T,T,T,T,T,T,T,T,T,F,F] (any_of HT_.out z26_1) ?_
 refine pu (i := 28) (N := some 318) #[T,T,T,T,T,T,T,T,T,T,T,T,T,T,T,T,T,T,T,T,T,T,T,T,T,T,T,T,T,F] (any_of HT_.out z26_1) ?_
 refine pu (i := 29) (N := some 2) #[T,T,T,T,T,T,T,T,T,T,T,T,T,T,T,T,T,T,T,T,T,T,T,T,T,T,T,T,T,T] (any_of HT_.out z26_1) ?_
 refine done_ (done_of HT_.out z26_1) ?_
 try go_wp2
 go_ret
 exact ⟨rq1, bw_26⟩
end Go.Proofs.YtnoiijdffdpabaaDoor.P
