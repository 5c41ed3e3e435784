-- By this session's driver (wip/tools/mk.py) of the kit's print program, over several statements at once. Not trusted: Lean checks it.
import Derived.Test.YtnoiijdffdpabaaDoorQWZip
import Derived.Test.YtnoiijdffdpabaaDoorQPx0
import Derived.Test.YtnoiijdffdpabaaDoorQPx2
import Derived.Test.YtnoiijdffdpabaaDoorQPx5
import Derived.Test.YtnoiijdffdpabaaDoorQPx6
import Derived.Test.YtnoiijdffdpabaaDoorQPx9
import Derived.Test.YtnoiijdffdpabaaDoorQPx10
import Derived.Test.YtnoiijdffdpabaaDoorQPx11
import Derived.Test.YtnoiijdffdpabaaDoorQPx12
import Derived.Test.YtnoiijdffdpabaaDoorQPx14
import Derived.Test.YtnoiijdffdpabaaDoorQPx15
import Derived.Test.YtnoiijdffdpabaaDoorQPx16
import Derived.Test.YtnoiijdffdpabaaDoorQPx17
import Derived.Test.YtnoiijdffdpabaaDoorQPx18
import Derived.Test.YtnoiijdffdpabaaDoorQPx19
import Derived.Test.YtnoiijdffdpabaaDoorQPx20
import Derived.Test.YtnoiijdffdpabaaDoorQPx21
import Derived.Test.YtnoiijdffdpabaaDoorQPx22
import Derived.Test.YtnoiijdffdpabaaDoorQPx23
import Derived.Test.YtnoiijdffdpabaaDoorQPx24
import Derived.Test.YtnoiijdffdpabaaDoorQPx25
import Derived.Test.YtnoiijdffdpabaaDoorQPx28
namespace Go.Proofs.YtnoiijdffdpabaaDoor.P
open Go.RowKit Go.Proofs.YtnoiijdffdpabaaDoorW.PrintWords Go.Proofs.YtnoiijdffdpabaaDoorW.PrintLast Go.Proofs.YtnoiijdffdpabaaDoorW.PrintMore
attribute [local go_sem] max2_int min2_int max_two min_two max_three min_three max_four min_four   -- for this text's walks alone
set_option linter.unusedVariables false
set_option linter.unusedSimpArgs false
open Bool renaming true → T, false → F
theorem bw_29 {n : Nat} {v v' : World} (h : Below n v v' := by repeat (first | (with_reducible first | exact HB.out | apply bwA | apply pbN | apply bwD | refine bwS ?_ GE509.out | refine bwS ?_ GE510.out | refine bwS ?_ GE516.out | refine bwS ?_ GE522.out | refine bwS ?_ GE529.out | refine bwS ?_ GE530.out | refine bwS ?_ GE534.out | refine bwS ?_ GE538.out | refine bwS ?_ GE545.out | refine bwS ?_ GE551.out | refine bwS ?_ GE554.out | refine bwS ?_ GE601.out) | exact HB.out)) : Below n v v' := h
theorem ln_29 {P : Prop} (h : P := by (try simp only [List.map_toArray, List.map_cons, List.map_nil]); first | done | rfl | (simp only [List.length_drop, List.length_take]; rfl)) : P := h

attribute [local go_sem high] eqA25 eqA35
set_option maxHeartbeats 8000000 in
set_option maxRecDepth 100000 in
theorem laws_FnMatrices.p22 (k : Nat) (A0 : Option Addr) (c0 : Nat) (l0 : List Int) (r : Bool) (w : World) (HT : Az (Tabs w)) (t501 t502 t503 t504 t505 t506 t507 t508 t511 t512 t513 t514 : Int) (t515 : Bool) (t517 t518 t519 t520 : Int) (t521 : Bool) (t523 t524 t525 t526 t527 t528 t531 t532 : Int) (t533 : Bool) (t535 t536 : Int) (t537 : Bool) (t539 : ByteArray) (t540 t541 t542 t543 : Int) (t544 : Bool) (t546 t547 t548 t549 : Int) (t550 : Bool) (t552 t553 : Int) (t555 : ByteArray) (gb509 : Nat) (GE509 : Az (w.heap.size ≤ gb509)) (gb510 : Nat) (GE510 : Az (w.heap.size ≤ gb510)) (NB509_510 : Az (gb509 ≠ gb510)) (NB510_509 : Az (gb510 ≠ gb509)) (gb516 : Nat) (GE516 : Az (w.heap.size ≤ gb516)) (NB509_516 : Az (gb509 ≠ gb516)) (NB516_509 : Az (gb516 ≠ gb509)) (gb522 : Nat) (GE522 : Az (w.heap.size ≤ gb522)) (NB509_522 : Az (gb509 ≠ gb522)) (NB522_509 : Az (gb522 ≠ gb509)) (gb529 : Nat) (GE529 : Az (w.heap.size ≤ gb529)) (NB509_529 : Az (gb509 ≠ gb529)) (NB529_509 : Az (gb529 ≠ gb509)) (gb530 : Nat) (GE530 : Az (w.heap.size ≤ gb530)) (NB509_530 : Az (gb509 ≠ gb530)) (NB530_509 : Az (gb530 ≠ gb509)) (NB510_530 : Az (gb510 ≠ gb530)) (NB530_510 : Az (gb530 ≠ gb510)) (NB516_530 : Az (gb516 ≠ gb530)) (NB530_516 : Az (gb530 ≠ gb516)) (NB522_530 : Az (gb522 ≠ gb530)) (NB530_522 : Az (gb530 ≠ gb522)) (NB529_530 : Az (gb529 ≠ gb530)) (NB530_529 : Az (gb530 ≠ gb529)) (gb534 : Nat) (GE534 : Az (w.heap.size ≤ gb534)) (NB509_534 : Az (gb509 ≠ gb534)) (NB534_509 : Az (gb534 ≠ gb509)) (NB530_534 : Az (gb530 ≠ gb534)) (NB534_530 : Az (gb534 ≠ gb530)) (gb538 : Nat) (GE538 : Az (w.heap.size ≤ gb538)) (NB509_538 : Az (gb509 ≠ gb538)) (NB538_509 : Az (gb538 ≠ gb509)) (NB530_538 : Az (gb530 ≠ gb538)) (NB538_530 : Az (gb538 ≠ gb530)) (gb545 : Nat) (GE545 : Az (w.heap.size ≤ gb545)) (NB509_545 : Az (gb509 ≠ gb545)) (NB545_509 : Az (gb545 ≠ gb509)) (NB530_545 : Az (gb530 ≠ gb545)) (NB545_530 : Az (gb545 ≠ gb530)) (gb551 : Nat) (GE551 : Az (w.heap.size ≤ gb551)) (NB509_551 : Az (gb509 ≠ gb551)) (NB551_509 : Az (gb551 ≠ gb509)) (NB530_551 : Az (gb530 ≠ gb551)) (NB551_530 : Az (gb551 ≠ gb530)) (gb554 : Nat) (GE554 : Az (w.heap.size ≤ gb554)) (NB509_554 : Az (gb509 ≠ gb554)) (NB554_509 : Az (gb554 ≠ gb509)) (NB510_554 : Az (gb510 ≠ gb554)) (NB554_510 : Az (gb554 ≠ gb510)) (NB516_554 : Az (gb516 ≠ gb554)) (NB554_516 : Az (gb554 ≠ gb516)) (NB522_554 : Az (gb522 ≠ gb554)) (NB554_522 : Az (gb554 ≠ gb522)) (NB529_554 : Az (gb529 ≠ gb554)) (NB554_529 : Az (gb554 ≠ gb529)) (NB530_554 : Az (gb530 ≠ gb554)) (NB554_530 : Az (gb554 ≠ gb530)) (NB534_554 : Az (gb534 ≠ gb554)) (NB554_534 : Az (gb554 ≠ gb534)) (NB538_554 : Az (gb538 ≠ gb554)) (NB554_538 : Az (gb554 ≠ gb538)) (NB545_554 : Az (gb545 ≠ gb554)) (NB554_545 : Az (gb554 ≠ gb545)) (NB551_554 : Az (gb551 ≠ gb554)) (NB554_551 : Az (gb554 ≠ gb551)) (wc : World) (u2 u22 u23 u24 u25 u26 u27 u40 u41 u42 u43 u44 u45 u46 u47 u48 u49 u50 u51 u52 u53 u54 u55 u56 u57 u58 u59 u60 u61 u62 u63 u64 u65 u66 u67 u68 u69 u70 u71 u72 u73 u74 u75 u76 u77 u78 u79 u80 u81 u82 u83 u84 u85 u86 u87 u88 u89 u90 u91 u92 u93 u94 u95 u96 u97 u98 u99 u100 u101 u102 u103 u104 u105 u106 u107 u108 u109 u110 u111 u112 u113 u114 u115 u116 u117 u118 u119 u120 u121 u122 u123 u124 u125 u126 u127 u128 u129 u130 u131 u132 u133 u134 u135 u136 u137 u138 u139 u140 u141 u142 u143 u144 u145 u146 u147 u148 u149 u150 u151 u152 u153 u154 u155 u156 u157 u158 u159 u160 u161 u162 u163 u164 u165 u166 u167 u168 u169 u170 u171 u172 u173 u174 u175 u176 u177 u178 u179 u180 u181 u182 u183 u184 u185 u186 u187 u188 u189 u190 u191 u192 u193 u194 u195 u196 u197 u198 u199 u200 u201 u202 u203 u204 u205 u206 u207 u208 u209 u210 u211 u212 u213 u214 u215 u216 u217 u218 u219 u220 u221 u222 u223 u224 u225 u226 u227 u228 u229 u230 u231 u232 u233 u234 u235 u236 u237 u238 u239 u240 u241 u242 u243 u244 u245 u246 u247 u248 u249 u250 u251 u252 u253 u254 u255 u256 u257 u258 u259 u260 u261 u262 u263 u264 u265 u266 u267 u268 u269 u270 u271 u272 u273 u274 u275 u276 u277 u278 u279 u280 u281 u282 u283 u284 u285 u286 u287 u288 u289 u290 u291 u292 u293 u294 u295 u296 u297 u298 u299 u300 u301 u302 u303 u304 u305 u306 u307 u308 u309 u310 u311 u312 u313 u314 u315 u316 u317 u318 : Value) (BK509 : Az ((World.heap wc)[gb509]? = some (Obj.cells #[Value.int IntKind.i64 t501, Value.int IntKind.i64 t502, Value.int IntKind.i64 t503, Value.int IntKind.i64 t504] 25))) (BK510 : Az ((World.heap wc)[gb510]? = some (Obj.cells #[Value.int IntKind.i64 t505, Value.int IntKind.i64 t506, Value.int IntKind.i64 t507, Value.int IntKind.i64 t508] 25))) (BK516 : Az ((World.heap wc)[gb516]? = some (Obj.cells #[Value.int IntKind.i64 t511, Value.int IntKind.i64 t512, Value.int IntKind.i64 t513, Value.int IntKind.i64 t514] 25))) (BK522 : Az ((World.heap wc)[gb522]? = some (Obj.cells #[Value.int IntKind.i64 t517, Value.int IntKind.i64 t518, Value.int IntKind.i64 t519, Value.int IntKind.i64 t520] 25))) (BK529 : Az ((World.heap wc)[gb529]? = some (Obj.cells #[Value.int IntKind.i64 t523, Value.int IntKind.i64 t524, Value.int IntKind.i64 t525, Value.int IntKind.i64 t526] 25))) (BK530 : Az ((World.heap wc)[gb530]? = some (Obj.cells #[Value.int IntKind.i64 t527, Value.int IntKind.i64 t528] 35))) (BK534 : Az ((World.heap wc)[gb534]? = some (Obj.cells #[Value.int IntKind.i64 t531, Value.int IntKind.i64 t532] 35))) (BK538 : Az ((World.heap wc)[gb538]? = some (Obj.cells #[Value.int IntKind.i64 t535, Value.int IntKind.i64 t536] 35))) (BK545 : Az ((World.heap wc)[gb545]? = some (Obj.cells #[Value.int IntKind.i64 t540, Value.int IntKind.i64 t541, Value.int IntKind.i64 t542, Value.int IntKind.i64 t543] 25))) (BK551 : Az ((World.heap wc)[gb551]? = some (Obj.cells #[Value.int IntKind.i64 t546, Value.int IntKind.i64 t547, Value.int IntKind.i64 t548, Value.int IntKind.i64 t549] 25))) (BK554 : Az ((World.heap wc)[gb554]? = some (Obj.cells #[Value.int IntKind.i64 t552, Value.int IntKind.i64 t553] 35))) (HB : Az (Below (w.heap.size) w wc)) (kj44 : Nat) (HJ44 : Az (kj44 + 1 ≤ k)) (HC501 : Az ((if t533 = true then Option.bind (impl_InverseMatrix.f kj44 t523 t524 t525 t526) fun (bt594 : Int × Int × Int × Int) => Option.bind (impl_MoveSlope.f kj44 (Prod.fst bt594) (Prod.fst (Prod.snd bt594)) (Prod.fst (Prod.snd (Prod.snd bt594))) (Prod.snd (Prod.snd (Prod.snd bt594))) t531 t532) fun (bt598 : Int × Int × Bool) => if Prod.snd (Prod.snd bt598) = true then if (!Prod.fst bt598 == t527 || !Prod.fst (Prod.snd bt598) == t528) = true then none else laws_FnMatrices.j1 kj44 t555 t501 t502 t503 t504 t552 t553 else none else laws_FnMatrices.j1 kj44 t555 t501 t502 t503 t504 t552 t553) = some r)) :
  Code.wp Tryd.prog (tailOf (Tryd.f4.body.getD .skip) 15) (bodyPost Tryd.prog Tryd.f4 (fun e w' => e = .returned (.bool r) ∧ Below w.heap.size w w')) ⟨#[Value.slice A0 (List.length l0) c0, undef, u2, Value.pointer (some ⟨gb509, 0, none⟩), Value.pointer (some ⟨gb510, 0, none⟩), Value.pointer (some ⟨gb516, 0, none⟩), Value.bool t515, Value.pointer (some ⟨gb522, 0, none⟩), Value.bool t521, Value.pointer (some ⟨gb529, 0, none⟩), Value.pointer (some ⟨gb530, 0, none⟩), Value.pointer (some ⟨gb534, 0, none⟩), Value.bool t533, Value.pointer (some ⟨gb538, 0, none⟩), Value.bool t537, Value.string t539, Value.pointer (some ⟨gb545, 0, none⟩), Value.bool t544, Value.pointer (some ⟨gb551, 0, none⟩), Value.bool t550, Value.pointer (some ⟨gb554, 0, none⟩), Value.string t555, u22, u23, u24, u25, u26, u27, undef, undef, undef, undef, undef, undef, undef, undef, undef, undef, undef, undef, u40, u41, u42, u43, u44, u45, u46, u47, u48, u49, u50, u51, u52, u53, u54, u55, u56, u57, u58, u59, u60, u61, u62, u63, u64, u65, u66, u67, u68, u69, u70, u71, u72, u73, u74, u75, u76, u77, u78, u79, u80, u81, u82, u83, u84, u85, u86, u87, u88, u89, u90, u91, u92, u93, u94, u95, u96, u97, u98, u99, u100, u101, u102, u103, u104, u105, u106, u107, u108, u109, u110, u111, u112, u113, u114, u115, u116, u117, u118, u119, u120, u121, u122, u123, u124, u125, u126, u127, u128, u129, u130, u131, u132, u133, u134, u135, u136, u137, u138, u139, u140, u141, u142, u143, u144, u145, u146, u147, u148, u149, u150, u151, u152, u153, u154, u155, u156, u157, u158, u159, u160, u161, u162, u163, u164, u165, u166, u167, u168, u169, u170, u171, u172, u173, u174, u175, u176, u177, u178, u179, u180, u181, u182, u183, u184, u185, u186, u187, u188, u189, u190, u191, u192, u193, u194, u195, u196, u197, u198, u199, u200, u201, u202, u203, u204, u205, u206, u207, u208, u209, u210, u211, u212, u213, u214, u215, u216, u217, u218, u219, u220, u221, u222, u223, u224, u225, u226, u227, u228, u229, u230, u231, u232, u233, u234, u235, u236, u237, u238, u239, u240, u241, u242, u243, u244, u245, u246, u247, u248, u249, u250, u251, u252, u253, u254, u255, u256, u257, u258, u259, u260, u261, u262, u263, u264, u265, u266, u267, u268, u269, u270, u271, u272, u273, u274, u275, u276, u277, u278, u279, u280, u281, u282, u283, u284, u285, u286, u287, u288, u289, u290, u291, u292, u293, u294, u295, u296, u297, u298, u299, u300, u301, u302, u303, u304, u305, u306, u307, u308, u309, u310, u311, u312, u313, u314, u315, u316, u317, u318], []⟩ wc := by
 (try dsimp only)
 conv => arg 2; whnf
 go_upto_if 207 with (fail)
 go_cut [] (fun wc => ∃ (kq : Nat), Az (laws_FnMatrices.j1 kq t555 t501 t502 t503 t504 t552 t553 = some r) ∧ Az (kq ≤ kj44) ∧ Az (wc.heap[gb509]? = some (.cells #[.int .i64 t501, .int .i64 t502, .int .i64 t503, .int .i64 t504] 25 (0, 0))) ∧ Az (wc.heap[gb510]? = some (.cells #[.int .i64 t505, .int .i64 t506, .int .i64 t507, .int .i64 t508] 25 (0, 0))) ∧ Az (wc.heap[gb516]? = some (.cells #[.int .i64 t511, .int .i64 t512, .int .i64 t513, .int .i64 t514] 25 (0, 0))) ∧ Az (wc.heap[gb522]? = some (.cells #[.int .i64 t517, .int .i64 t518, .int .i64 t519, .int .i64 t520] 25 (0, 0))) ∧ Az (wc.heap[gb529]? = some (.cells #[.int .i64 t523, .int .i64 t524, .int .i64 t525, .int .i64 t526] 25 (0, 0))) ∧ Az (wc.heap[gb530]? = some (.cells #[.int .i64 t527, .int .i64 t528] 35 (0, 0))) ∧ Az (wc.heap[gb534]? = some (.cells #[.int .i64 t531, .int .i64 t532] 35 (0, 0))) ∧ Az (wc.heap[gb538]? = some (.cells #[.int .i64 t535, .int .i64 t536] 35 (0, 0))) ∧ Az (wc.heap[gb545]? = some (.cells #[.int .i64 t540, .int .i64 t541, .int .i64 t542, .int .i64 t543] 25 (0, 0))) ∧ Az (wc.heap[gb551]? = some (.cells #[.int .i64 t546, .int .i64 t547, .int .i64 t548, .int .i64 t549] 25 (0, 0))) ∧ Az (wc.heap[gb554]? = some (.cells #[.int .i64 t552, .int .i64 t553] 35 (0, 0))) ∧ Az (Below w.heap.size w wc))
 case first =>
  have H := HC501.out
  clear HC501
  by_cases c502 : t533 = true
  rotate_left
  ·replace c502 := Bool.eq_false_iff.mpr c502
   subst c502
   rw [if_neg (show ¬ (false = true) by decide)] at H
   have H' := Az.mk H
   clear H
   go_wp2
   go_meet
   case rel => exact ⟨_, H', ⟨by have := HJ44.out; first | omega | exact Nat.le_refl _⟩, ⟨bk1 BK509⟩, ⟨bk1 BK510⟩, ⟨bk1 BK516⟩, ⟨bk1 BK522⟩, ⟨bk1 BK529⟩, ⟨bk1 BK530⟩, ⟨bk1 BK534⟩, ⟨bk1 BK538⟩, ⟨bk1 BK545⟩, ⟨bk1 BK551⟩, ⟨bk1 BK554⟩, ⟨bw_29⟩⟩
  subst c502
  rw [if_pos rfl] at H
  replace H := bez H
  obtain ⟨⟨t594, t595, t596, t597⟩, A503, H⟩ := H
  try dsimp only at H
  replace H := bez H
  obtain ⟨⟨t598, t599, t600⟩, A504, H⟩ := H
  try dsimp only at H
  by_cases c505 : t600 = true
  rotate_left
  ·replace c505 := Bool.eq_false_iff.mpr c505
   subst c505
   rw [if_neg (show ¬ (false = true) by decide)] at H
   exact absurd H (by simp)
  subst c505
  rw [if_pos rfl] at H
  by_cases c506 : (!(t598 == t527) || (!(t599 == t528))) = true
  ·rw [if_pos c506] at H
   exact absurd H (by simp)
  rw [if_neg c506] at H
  have c506b0 : (!(t598 == t527) || (!(t599 == t528))) = false := by simpa using c506
  clear c506
  (first | rw [c506b0] | (simp only [i64_w, i32_w]; rw [c506b0]) | skip)
  have H' := Az.mk H
  clear H
  try go_wp2
  replace BK509 := Az.mk (bkD BK509.out); replace BK510 := Az.mk (bkD BK510.out); replace BK516 := Az.mk (bkD BK516.out); replace BK522 := Az.mk (bkD BK522.out); replace BK529 := Az.mk (bkD BK529.out); replace BK530 := Az.mk (bkD BK530.out); replace BK534 := Az.mk (bkD BK534.out); replace BK538 := Az.mk (bkD BK538.out); replace BK545 := Az.mk (bkD BK545.out); replace BK551 := Az.mk (bkD BK551.out); replace BK554 := Az.mk (bkD BK554.out); replace HB := Az.mk (bwD HB.out)
  refine start_ (n := 10) (S := fun w' => w'.cell? ⟨gb529, 0, none⟩ = some (.int .i64 t523) ∧ w'.cell? ⟨gb529, 1, none⟩ = some (.int .i64 t524) ∧ w'.cell? ⟨gb529, 2, none⟩ = some (.int .i64 t525) ∧ w'.cell? ⟨gb529, 3, none⟩ = some (.int .i64 t526) ∧ w'.cell? ⟨gb534, 0, none⟩ = some (.int .i64 t531) ∧ w'.cell? ⟨gb534, 1, none⟩ = some (.int .i64 t532)) (ds := []) #[F,F,F,F,F,F,F,F,F,F] (by kernel_rfl) rfl rfl cs_ (fun hHeld => ?_); refine with_tabW laws_FnMatrices.tab23 laws_FnMatrices.bits23 (fun HT_ HW_ => ?_)
  generalize wc.drew = w507 at BK509 BK510 BK516 BK522 BK529 BK530 BK534 BK538 BK545 BK551 BK554 HB hHeld ⊢
  refine take_ (i := 0) (N := some 209) (v := ?_) (a' := ?_) #[T,F,F,F,F,F,F,F,F,F] rfl rfl (take_ofW HT_.out HW_.out (by kernel_rfl)) (fun _ _ _ h => h) (Or.inl ⟨by rfl, ?_⟩) hHeld ?_ ?_
  rotate_left
  ·rintro w' ⟨s0, s1, s2, s3, s4, s5⟩
   go_simp
   with_reducible rfl
  rotate_left
  ·exact acq
  refine take_ (i := 2) (N := some 211) (v := ?_) (a' := ?_) #[T,F,T,F,F,F,F,F,F,F] rfl rfl (take_ofW HT_.out HW_.out (by kernel_rfl)) (fun _ _ _ h => h) (Or.inl ⟨by rfl, ?_⟩) hHeld ?_ ?_
  rotate_left
  ·rintro w' ⟨s0, s1, s2, s3, s4, s5⟩
   go_simp
   with_reducible rfl
  rotate_left
  ·exact acq
  refine join_ (σ := Nat) 2 #[T,T,T,T,T,T,T,T,F,F] (fun s_ => [(210, .agg #[.int .i64 t594, .int .i64 t595, .int .i64 t596, .int .i64 t597]), (212, .tuple #[.agg #[.int .i64 t598, .int .i64 t599], .bool true]), (28, .pointer (some ⟨s_, 0, none⟩)), (208, .tuple #[.agg #[.int .i64 t598, .int .i64 t599], .bool true]), (213, .agg #[.int .i64 t598, .int .i64 t599]), (214, .bool true)]) (fun s_ w' => (w'.cell? ⟨gb529, 0, none⟩ = some (.int .i64 t523) ∧ w'.cell? ⟨gb529, 1, none⟩ = some (.int .i64 t524) ∧ w'.cell? ⟨gb529, 2, none⟩ = some (.int .i64 t525) ∧ w'.cell? ⟨gb529, 3, none⟩ = some (.int .i64 t526) ∧ w'.cell? ⟨gb534, 0, none⟩ = some (.int .i64 t531) ∧ w'.cell? ⟨gb534, 1, none⟩ = some (.int .i64 t532)) ∧ (w'.heap[gb509]? = some (.cells #[.int .i64 t501, .int .i64 t502, .int .i64 t503, .int .i64 t504] 25 (0, 0))) ∧ (w'.heap[gb510]? = some (.cells #[.int .i64 t505, .int .i64 t506, .int .i64 t507, .int .i64 t508] 25 (0, 0))) ∧ (w'.heap[gb516]? = some (.cells #[.int .i64 t511, .int .i64 t512, .int .i64 t513, .int .i64 t514] 25 (0, 0))) ∧ (w'.heap[gb522]? = some (.cells #[.int .i64 t517, .int .i64 t518, .int .i64 t519, .int .i64 t520] 25 (0, 0))) ∧ (w'.heap[gb529]? = some (.cells #[.int .i64 t523, .int .i64 t524, .int .i64 t525, .int .i64 t526] 25 (0, 0))) ∧ (w'.heap[gb530]? = some (.cells #[.int .i64 t527, .int .i64 t528] 35 (0, 0))) ∧ (w'.heap[gb534]? = some (.cells #[.int .i64 t531, .int .i64 t532] 35 (0, 0))) ∧ (w'.heap[gb538]? = some (.cells #[.int .i64 t535, .int .i64 t536] 35 (0, 0))) ∧ (w'.heap[gb545]? = some (.cells #[.int .i64 t540, .int .i64 t541, .int .i64 t542, .int .i64 t543] 25 (0, 0))) ∧ (w'.heap[gb551]? = some (.cells #[.int .i64 t546, .int .i64 t547, .int .i64 t548, .int .i64 t549] 25 (0, 0))) ∧ (w'.heap[gb554]? = some (.cells #[.int .i64 t552, .int .i64 t553] 35 (0, 0))) ∧ (w'.heap[s_]? = some (.cells #[.int .i64 0, .int .i64 0] 35 (0, 0))) ∧ (w.heap.size ≤ s_) ∧ (w.heap.size ≤ s_) ∧ (gb509 ≠ s_) ∧ (s_ ≠ gb509) ∧ (gb510 ≠ s_) ∧ (s_ ≠ gb510) ∧ (gb516 ≠ s_) ∧ (s_ ≠ gb516) ∧ (gb522 ≠ s_) ∧ (s_ ≠ gb522) ∧ (gb529 ≠ s_) ∧ (s_ ≠ gb529) ∧ (gb530 ≠ s_) ∧ (s_ ≠ gb530) ∧ (gb534 ≠ s_) ∧ (s_ ≠ gb534) ∧ (gb538 ≠ s_) ∧ (s_ ≠ gb538) ∧ (gb545 ≠ s_) ∧ (s_ ≠ gb545) ∧ (gb551 ≠ s_) ∧ (s_ ≠ gb551) ∧ (gb554 ≠ s_) ∧ (s_ ≠ gb554) ∧ (Below w.heap.size w w')) ?_ ?_
  rotate_left
  ·intro hCont
   refine two_ (i := 1) (j := 7) (Ni := some 210) (Nj := some 28) #[T,T,T,F,F,F,F,F,F,F] #[T,F,T,F,F,F,F,T,F,F] rfl rfl rfl rfl (two_of HT_.out (by kernel_rfl)) (by decide) (by decide) (fun K hK => ?_) (fun K hK => ?_)
   ·skip
    refine goes_ Tryd.func23 (by kernel_rfl) rfl #[.agg #[.int .i64 t523, .int .i64 t524, .int .i64 t525, .int .i64 t526]] (by rfl) rfl rfl ln_29 ?_
    with_reducible refine (impl_InverseMatrix.calls kj44 t523 t524 t525 t526 t594 t595 t596 t597 _ A503.out).mono ?_
    rintro e w508 ⟨rfl, hb⟩
    refine ⟨_, rfl, ?_⟩
    replace BK509 := bkz BK509 hb; replace BK510 := bkz BK510 hb; replace BK516 := bkz BK516 hb; replace BK522 := bkz BK522 hb; replace BK529 := bkz BK529 hb; replace BK530 := bkz BK530 hb; replace BK534 := bkz BK534 hb; replace BK538 := bkz BK538 hb; replace BK545 := bkz BK545 hb; replace BK551 := bkz BK551 hb; replace BK554 := bkz BK554 hb; replace HB := Az.mk (bwT bw_29 hb)
    (try clear hb)
    (try clear hb2)
    (try clear hk)
    (try clear hi)
    refine hK.out _ _ cs_ (fun hHeld => ?_)
    clear hK K
    refine norm_ (a' := ?_) ?_ ?_
    rotate_left
    ·show Act.put _ (some 210) _ = _
     exact acq
    refine two_ (i := 3) (j := 7) (Ni := some 212) (Nj := some 28) #[T,T,T,T,F,F,F,F,F,F] #[T,T,T,F,F,F,F,T,F,F] rfl rfl rfl rfl (two_of HT_.out (by kernel_rfl)) (by decide) (by decide) (fun K hK => ?_) (fun K hK => ?_)
    ·skip
     refine goes_ Tryd.func13 (by kernel_rfl) rfl #[.agg #[.int .i64 t594, .int .i64 t595, .int .i64 t596, .int .i64 t597], .agg #[.int .i64 t531, .int .i64 t532]] (by rfl) rfl rfl ln_29 ?_
     with_reducible refine (impl_MoveSlope.calls kj44 t594 t595 t596 t597 t531 t532 t598 t599 true _ A504.out).mono ?_
     rintro e w509 ⟨rfl, hb⟩
     refine ⟨_, rfl, ?_⟩
     replace BK509 := bkz BK509 hb; replace BK510 := bkz BK510 hb; replace BK516 := bkz BK516 hb; replace BK522 := bkz BK522 hb; replace BK529 := bkz BK529 hb; replace BK530 := bkz BK530 hb; replace BK534 := bkz BK534 hb; replace BK538 := bkz BK538 hb; replace BK545 := bkz BK545 hb; replace BK551 := bkz BK551 hb; replace BK554 := bkz BK554 hb; replace HB := Az.mk (bwT bw_29 hb)
     (try clear hb)
     (try clear hb2)
     (try clear hk)
     (try clear hi)
     refine hK.out _ _ cs_ (fun hHeld => ?_)
     clear hK K
     refine norm_ (a' := ?_) ?_ ?_
     rotate_left
     ·show Act.put _ (some 212) _ = _
      exact acq
     refine pu (i := 4) (N := some 208) #[T,T,T,T,T,F,F,F,F,F] (any_of HT_.out (by kernel_rfl)) ?_
     refine pu (i := 5) (N := some 213) #[T,T,T,T,T,T,F,F,F,F] (any_of HT_.out (by kernel_rfl)) ?_
     refine pu (i := 6) (N := some 214) #[T,T,T,T,T,T,T,F,F,F] (any_of HT_.out (by kernel_rfl)) ?_
     refine one_ (i := 7) (N := some 28) #[T,T,T,T,T,T,T,T,F,F] rfl rfl (one_of HT_.out (by kernel_rfl)) (by decide) (fun K hK => ?_)
     refine box_step ?hg (N := 28) ?hd (cs := #[.int .i64 0, .int .i64 0]) (t := 35) ?hr ?_; (case hd => rfl); (case hg => rfl); (case hr => first | (go_simp; done) | (go_simp; rfl))
     intro gb601 hg w510 hbox hb
     have BK601 := Az.mk (hbox); have GW601 := gwz hg bw_29; have GE601 := gwz hg bw_29; replace HB := Az.mk (bwT bw_29 hb); have NB509_601 := nlt BK509 hg; have NB601_509 := ngt BK509 hg; replace BK509 := bkz BK509 hb; have NB510_601 := nlt BK510 hg; have NB601_510 := ngt BK510 hg; replace BK510 := bkz BK510 hb; have NB516_601 := nlt BK516 hg; have NB601_516 := ngt BK516 hg; replace BK516 := bkz BK516 hb; have NB522_601 := nlt BK522 hg; have NB601_522 := ngt BK522 hg; replace BK522 := bkz BK522 hb; have NB529_601 := nlt BK529 hg; have NB601_529 := ngt BK529 hg; replace BK529 := bkz BK529 hb; have NB530_601 := nlt BK530 hg; have NB601_530 := ngt BK530 hg; replace BK530 := bkz BK530 hb; have NB534_601 := nlt BK534 hg; have NB601_534 := ngt BK534 hg; replace BK534 := bkz BK534 hb; have NB538_601 := nlt BK538 hg; have NB601_538 := ngt BK538 hg; replace BK538 := bkz BK538 hb; have NB545_601 := nlt BK545 hg; have NB601_545 := ngt BK545 hg; replace BK545 := bkz BK545 hb; have NB551_601 := nlt BK551 hg; have NB601_551 := ngt BK551 hg; replace BK551 := bkz BK551 hb; have NB554_601 := nlt BK554 hg; have NB601_554 := ngt BK554 hg; replace BK554 := bkz BK554 hb
     clear hb hbox hg
     refine hK.out _ _ cs_ (fun hHeld => ?_)
     clear hK K
     refine norm_ (a' := ?_) ?_ ?_
     rotate_left
     ·show Act.put _ (some 28) _ = _
      exact acq
     exact norm_ (by simp only [putAll, Act.put, List.setIfInBounds_toArray, List.set_cons_zero, List.set_cons_succ]) (hCont (gb601) _ ⟨hHeld, (bk1 BK509), (bk1 BK510), (bk1 BK516), (bk1 BK522), (bk1 BK529), (bk1 BK530), (bk1 BK534), (bk1 BK538), (bk1 BK545), (bk1 BK551), (bk1 BK554), (bk1 BK601), GW601.out, GE601.out, NB509_601.out, NB601_509.out, NB510_601.out, NB601_510.out, NB516_601.out, NB601_516.out, NB522_601.out, NB601_522.out, NB529_601.out, NB601_529.out, NB530_601.out, NB601_530.out, NB534_601.out, NB601_534.out, NB538_601.out, NB601_538.out, NB545_601.out, NB601_545.out, NB551_601.out, NB601_551.out, NB554_601.out, NB601_554.out, bw_29⟩)
    skip
    refine box_step ?hg (N := 28) ?hd (cs := #[.int .i64 0, .int .i64 0]) (t := 35) ?hr ?_; (case hd => rfl); (case hg => rfl); (case hr => first | (go_simp; done) | (go_simp; rfl))
    intro gb601 hg w509 hbox hb
    have BK601 := Az.mk (hbox); have GW601 := gwz hg bw_29; have GE601 := gwz hg bw_29; replace HB := Az.mk (bwT bw_29 hb); have NB509_601 := nlt BK509 hg; have NB601_509 := ngt BK509 hg; replace BK509 := bkz BK509 hb; have NB510_601 := nlt BK510 hg; have NB601_510 := ngt BK510 hg; replace BK510 := bkz BK510 hb; have NB516_601 := nlt BK516 hg; have NB601_516 := ngt BK516 hg; replace BK516 := bkz BK516 hb; have NB522_601 := nlt BK522 hg; have NB601_522 := ngt BK522 hg; replace BK522 := bkz BK522 hb; have NB529_601 := nlt BK529 hg; have NB601_529 := ngt BK529 hg; replace BK529 := bkz BK529 hb; have NB530_601 := nlt BK530 hg; have NB601_530 := ngt BK530 hg; replace BK530 := bkz BK530 hb; have NB534_601 := nlt BK534 hg; have NB601_534 := ngt BK534 hg; replace BK534 := bkz BK534 hb; have NB538_601 := nlt BK538 hg; have NB601_538 := ngt BK538 hg; replace BK538 := bkz BK538 hb; have NB545_601 := nlt BK545 hg; have NB601_545 := ngt BK545 hg; replace BK545 := bkz BK545 hb; have NB551_601 := nlt BK551 hg; have NB601_551 := ngt BK551 hg; replace BK551 := bkz BK551 hb; have NB554_601 := nlt BK554 hg; have NB601_554 := ngt BK554 hg; replace BK554 := bkz BK554 hb
    clear hb hbox hg
    refine hK.out _ _ cs_ (fun hHeld => ?_)
    clear hK K
    refine norm_ (a' := ?_) ?_ ?_
    rotate_left
    ·show Act.put _ (some 28) _ = _
     exact acq
    refine one_ (i := 3) (N := some 212) #[T,T,T,T,F,F,F,T,F,F] rfl rfl (one_of HT_.out (by kernel_rfl)) (by decide) (fun K hK => ?_)
    refine goes_ Tryd.func13 (by kernel_rfl) rfl #[.agg #[.int .i64 t594, .int .i64 t595, .int .i64 t596, .int .i64 t597], .agg #[.int .i64 t531, .int .i64 t532]] (by rfl) rfl rfl ln_29 ?_
    with_reducible refine (impl_MoveSlope.calls kj44 t594 t595 t596 t597 t531 t532 t598 t599 true _ A504.out).mono ?_
    rintro e w510 ⟨rfl, hb⟩
    refine ⟨_, rfl, ?_⟩
    replace BK509 := bkz BK509 hb; replace BK510 := bkz BK510 hb; replace BK516 := bkz BK516 hb; replace BK522 := bkz BK522 hb; replace BK529 := bkz BK529 hb; replace BK530 := bkz BK530 hb; replace BK534 := bkz BK534 hb; replace BK538 := bkz BK538 hb; replace BK545 := bkz BK545 hb; replace BK551 := bkz BK551 hb; replace BK554 := bkz BK554 hb; replace BK601 := bkz BK601 hb; replace HB := Az.mk (bwT bw_29 hb)
    (try clear hb)
    (try clear hb2)
    (try clear hk)
    (try clear hi)
    refine hK.out _ _ cs_ (fun hHeld => ?_)
    clear hK K
    refine norm_ (a' := ?_) ?_ ?_
    rotate_left
    ·show Act.put _ (some 212) _ = _
     exact acq
    refine pu (i := 4) (N := some 208) #[T,T,T,T,T,F,F,T,F,F] (any_of HT_.out (by kernel_rfl)) ?_
    refine pu (i := 5) (N := some 213) #[T,T,T,T,T,T,F,T,F,F] (any_of HT_.out (by kernel_rfl)) ?_
    refine pu (i := 6) (N := some 214) #[T,T,T,T,T,T,T,T,F,F] (any_of HT_.out (by kernel_rfl)) ?_
    exact norm_ (by simp only [putAll, Act.put, List.setIfInBounds_toArray, List.set_cons_zero, List.set_cons_succ]) (hCont (gb601) _ ⟨hHeld, (bk1 BK509), (bk1 BK510), (bk1 BK516), (bk1 BK522), (bk1 BK529), (bk1 BK530), (bk1 BK534), (bk1 BK538), (bk1 BK545), (bk1 BK551), (bk1 BK554), (bk1 BK601), GW601.out, GE601.out, NB509_601.out, NB601_509.out, NB510_601.out, NB601_510.out, NB516_601.out, NB601_516.out, NB522_601.out, NB601_522.out, NB529_601.out, NB601_529.out, NB530_601.out, NB601_530.out, NB534_601.out, NB601_534.out, NB538_601.out, NB601_538.out, NB545_601.out, NB601_545.out, NB551_601.out, NB601_551.out, NB554_601.out, NB601_554.out, bw_29⟩)
   skip
   refine box_step ?hg (N := 28) ?hd (cs := #[.int .i64 0, .int .i64 0]) (t := 35) ?hr ?_; (case hd => rfl); (case hg => rfl); (case hr => first | (go_simp; done) | (go_simp; rfl))
   intro gb601 hg w508 hbox hb
   have BK601 := Az.mk (hbox); have GW601 := gwz hg bw_29; have GE601 := gwz hg bw_29; replace HB := Az.mk (bwT bw_29 hb); have NB509_601 := nlt BK509 hg; have NB601_509 := ngt BK509 hg; replace BK509 := bkz BK509 hb; have NB510_601 := nlt BK510 hg; have NB601_510 := ngt BK510 hg; replace BK510 := bkz BK510 hb; have NB516_601 := nlt BK516 hg; have NB601_516 := ngt BK516 hg; replace BK516 := bkz BK516 hb; have NB522_601 := nlt BK522 hg; have NB601_522 := ngt BK522 hg; replace BK522 := bkz BK522 hb; have NB529_601 := nlt BK529 hg; have NB601_529 := ngt BK529 hg; replace BK529 := bkz BK529 hb; have NB530_601 := nlt BK530 hg; have NB601_530 := ngt BK530 hg; replace BK530 := bkz BK530 hb; have NB534_601 := nlt BK534 hg; have NB601_534 := ngt BK534 hg; replace BK534 := bkz BK534 hb; have NB538_601 := nlt BK538 hg; have NB601_538 := ngt BK538 hg; replace BK538 := bkz BK538 hb; have NB545_601 := nlt BK545 hg; have NB601_545 := ngt BK545 hg; replace BK545 := bkz BK545 hb; have NB551_601 := nlt BK551 hg; have NB601_551 := ngt BK551 hg; replace BK551 := bkz BK551 hb; have NB554_601 := nlt BK554 hg; have NB601_554 := ngt BK554 hg; replace BK554 := bkz BK554 hb
   clear hb hbox hg
   refine hK.out _ _ cs_ (fun hHeld => ?_)
   clear hK K
   refine norm_ (a' := ?_) ?_ ?_
   rotate_left
   ·show Act.put _ (some 28) _ = _
    exact acq
   refine one_ (i := 1) (N := some 210) #[T,T,T,F,F,F,F,T,F,F] rfl rfl (one_of HT_.out (by kernel_rfl)) (by decide) (fun K hK => ?_)
   refine goes_ Tryd.func23 (by kernel_rfl) rfl #[.agg #[.int .i64 t523, .int .i64 t524, .int .i64 t525, .int .i64 t526]] (by rfl) rfl rfl ln_29 ?_
   with_reducible refine (impl_InverseMatrix.calls kj44 t523 t524 t525 t526 t594 t595 t596 t597 _ A503.out).mono ?_
   rintro e w509 ⟨rfl, hb⟩
   refine ⟨_, rfl, ?_⟩
   replace BK509 := bkz BK509 hb; replace BK510 := bkz BK510 hb; replace BK516 := bkz BK516 hb; replace BK522 := bkz BK522 hb; replace BK529 := bkz BK529 hb; replace BK530 := bkz BK530 hb; replace BK534 := bkz BK534 hb; replace BK538 := bkz BK538 hb; replace BK545 := bkz BK545 hb; replace BK551 := bkz BK551 hb; replace BK554 := bkz BK554 hb; replace BK601 := bkz BK601 hb; replace HB := Az.mk (bwT bw_29 hb)
   (try clear hb)
   (try clear hb2)
   (try clear hk)
   (try clear hi)
   refine hK.out _ _ cs_ (fun hHeld => ?_)
   clear hK K
   refine norm_ (a' := ?_) ?_ ?_
   rotate_left
   ·show Act.put _ (some 210) _ = _
    exact acq
   refine one_ (i := 3) (N := some 212) #[T,T,T,T,F,F,F,T,F,F] rfl rfl (one_of HT_.out (by kernel_rfl)) (by decide) (fun K hK => ?_)
   refine goes_ Tryd.func13 (by kernel_rfl) rfl #[.agg #[.int .i64 t594, .int .i64 t595, .int .i64 t596, .int .i64 t597], .agg #[.int .i64 t531, .int .i64 t532]] (by rfl) rfl rfl ln_29 ?_
   with_reducible refine (impl_MoveSlope.calls kj44 t594 t595 t596 t597 t531 t532 t598 t599 true _ A504.out).mono ?_
   rintro e w510 ⟨rfl, hb⟩
   refine ⟨_, rfl, ?_⟩
   replace BK509 := bkz BK509 hb; replace BK510 := bkz BK510 hb; replace BK516 := bkz BK516 hb; replace BK522 := bkz BK522 hb; replace BK529 := bkz BK529 hb; replace BK530 := bkz BK530 hb; replace BK534 := bkz BK534 hb; replace BK538 := bkz BK538 hb; replace BK545 := bkz BK545 hb; replace BK551 := bkz BK551 hb; replace BK554 := bkz BK554 hb; replace BK601 := bkz BK601 hb; replace HB := Az.mk (bwT bw_29 hb)
   (try clear hb)
   (try clear hb2)
   (try clear hk)
   (try clear hi)
   refine hK.out _ _ cs_ (fun hHeld => ?_)
   clear hK K
   refine norm_ (a' := ?_) ?_ ?_
   rotate_left
   ·show Act.put _ (some 212) _ = _
    exact acq
   refine pu (i := 4) (N := some 208) #[T,T,T,T,T,F,F,T,F,F] (any_of HT_.out (by kernel_rfl)) ?_
   refine pu (i := 5) (N := some 213) #[T,T,T,T,T,T,F,T,F,F] (any_of HT_.out (by kernel_rfl)) ?_
   refine pu (i := 6) (N := some 214) #[T,T,T,T,T,T,T,T,F,F] (any_of HT_.out (by kernel_rfl)) ?_
   exact norm_ (by simp only [putAll, Act.put, List.setIfInBounds_toArray, List.set_cons_zero, List.set_cons_succ]) (hCont (gb601) _ ⟨hHeld, (bk1 BK509), (bk1 BK510), (bk1 BK516), (bk1 BK522), (bk1 BK529), (bk1 BK530), (bk1 BK534), (bk1 BK538), (bk1 BK545), (bk1 BK551), (bk1 BK554), (bk1 BK601), GW601.out, GE601.out, NB509_601.out, NB601_509.out, NB510_601.out, NB601_510.out, NB516_601.out, NB601_516.out, NB522_601.out, NB601_522.out, NB529_601.out, NB601_529.out, NB530_601.out, NB601_530.out, NB534_601.out, NB601_534.out, NB538_601.out, NB601_538.out, NB545_601.out, NB601_545.out, NB551_601.out, NB601_551.out, NB554_601.out, NB601_554.out, bw_29⟩)
  rintro gb601 w511 ⟨hS_, h0_, h1_, h2_, h3_, h4_, h5_, h6_, h7_, h8_, h9_, h10_, h11_, h12_, h13_, h14_, h15_, h16_, h17_, h18_, h19_, h20_, h21_, h22_, h23_, h24_, h25_, h26_, h27_, h28_, h29_, h30_, h31_, h32_, h33_, h34_, h35_, h36_⟩
  have n0_ : Az (w511.heap[gb509]? = some (.cells #[.int .i64 t501, .int .i64 t502, .int .i64 t503, .int .i64 t504] 25 (0, 0))) := ⟨h0_⟩
  have n1_ : Az (w511.heap[gb510]? = some (.cells #[.int .i64 t505, .int .i64 t506, .int .i64 t507, .int .i64 t508] 25 (0, 0))) := ⟨h1_⟩
  have n2_ : Az (w511.heap[gb516]? = some (.cells #[.int .i64 t511, .int .i64 t512, .int .i64 t513, .int .i64 t514] 25 (0, 0))) := ⟨h2_⟩
  have n3_ : Az (w511.heap[gb522]? = some (.cells #[.int .i64 t517, .int .i64 t518, .int .i64 t519, .int .i64 t520] 25 (0, 0))) := ⟨h3_⟩
  have n4_ : Az (w511.heap[gb529]? = some (.cells #[.int .i64 t523, .int .i64 t524, .int .i64 t525, .int .i64 t526] 25 (0, 0))) := ⟨h4_⟩
  have n5_ : Az (w511.heap[gb530]? = some (.cells #[.int .i64 t527, .int .i64 t528] 35 (0, 0))) := ⟨h5_⟩
  have n6_ : Az (w511.heap[gb534]? = some (.cells #[.int .i64 t531, .int .i64 t532] 35 (0, 0))) := ⟨h6_⟩
  have n7_ : Az (w511.heap[gb538]? = some (.cells #[.int .i64 t535, .int .i64 t536] 35 (0, 0))) := ⟨h7_⟩
  have n8_ : Az (w511.heap[gb545]? = some (.cells #[.int .i64 t540, .int .i64 t541, .int .i64 t542, .int .i64 t543] 25 (0, 0))) := ⟨h8_⟩
  have n9_ : Az (w511.heap[gb551]? = some (.cells #[.int .i64 t546, .int .i64 t547, .int .i64 t548, .int .i64 t549] 25 (0, 0))) := ⟨h9_⟩
  have n10_ : Az (w511.heap[gb554]? = some (.cells #[.int .i64 t552, .int .i64 t553] 35 (0, 0))) := ⟨h10_⟩
  have n11_ : Az (w511.heap[gb601]? = some (.cells #[.int .i64 0, .int .i64 0] 35 (0, 0))) := ⟨h11_⟩
  have n12_ : Az (w.heap.size ≤ gb601) := ⟨h12_⟩
  have n13_ : Az (w.heap.size ≤ gb601) := ⟨h13_⟩
  have n14_ : Az (gb509 ≠ gb601) := ⟨h14_⟩
  have n15_ : Az (gb601 ≠ gb509) := ⟨h15_⟩
  have n16_ : Az (gb510 ≠ gb601) := ⟨h16_⟩
  have n17_ : Az (gb601 ≠ gb510) := ⟨h17_⟩
  have n18_ : Az (gb516 ≠ gb601) := ⟨h18_⟩
  have n19_ : Az (gb601 ≠ gb516) := ⟨h19_⟩
  have n20_ : Az (gb522 ≠ gb601) := ⟨h20_⟩
  have n21_ : Az (gb601 ≠ gb522) := ⟨h21_⟩
  have n22_ : Az (gb529 ≠ gb601) := ⟨h22_⟩
  have n23_ : Az (gb601 ≠ gb529) := ⟨h23_⟩
  have n24_ : Az (gb530 ≠ gb601) := ⟨h24_⟩
  have n25_ : Az (gb601 ≠ gb530) := ⟨h25_⟩
  have n26_ : Az (gb534 ≠ gb601) := ⟨h26_⟩
  have n27_ : Az (gb601 ≠ gb534) := ⟨h27_⟩
  have n28_ : Az (gb538 ≠ gb601) := ⟨h28_⟩
  have n29_ : Az (gb601 ≠ gb538) := ⟨h29_⟩
  have n30_ : Az (gb545 ≠ gb601) := ⟨h30_⟩
  have n31_ : Az (gb601 ≠ gb545) := ⟨h31_⟩
  have n32_ : Az (gb551 ≠ gb601) := ⟨h32_⟩
  have n33_ : Az (gb601 ≠ gb551) := ⟨h33_⟩
  have n34_ : Az (gb554 ≠ gb601) := ⟨h34_⟩
  have n35_ : Az (gb601 ≠ gb554) := ⟨h35_⟩
  have n36_ : Az (Below w.heap.size w w511) := ⟨h36_⟩
  clear BK509
  clear BK510
  clear BK516
  clear BK522
  clear BK529
  clear BK530
  clear BK534
  clear BK538
  clear BK545
  clear BK551
  clear BK554
  clear HB
  clear h0_ h1_ h2_ h3_ h4_ h5_ h6_ h7_ h8_ h9_ h10_ h11_ h12_ h13_ h14_ h15_ h16_ h17_ h18_ h19_ h20_ h21_ h22_ h23_ h24_ h25_ h26_ h27_ h28_ h29_ h30_ h31_ h32_ h33_ h34_ h35_ h36_
  have BK509 := n0_
  have BK510 := n1_
  have BK516 := n2_
  have BK522 := n3_
  have BK529 := n4_
  have BK530 := n5_
  have BK534 := n6_
  have BK538 := n7_
  have BK545 := n8_
  have BK551 := n9_
  have BK554 := n10_
  have BK601 := n11_
  have GW601 := n12_
  have GE601 := n13_
  have NB509_601 := n14_
  have NB601_509 := n15_
  have NB510_601 := n16_
  have NB601_510 := n17_
  have NB516_601 := n18_
  have NB601_516 := n19_
  have NB522_601 := n20_
  have NB601_522 := n21_
  have NB529_601 := n22_
  have NB601_529 := n23_
  have NB530_601 := n24_
  have NB601_530 := n25_
  have NB534_601 := n26_
  have NB601_534 := n27_
  have NB538_601 := n28_
  have NB601_538 := n29_
  have NB545_601 := n30_
  have NB601_545 := n31_
  have NB551_601 := n32_
  have NB601_551 := n33_
  have NB554_601 := n34_
  have NB601_554 := n35_
  have HB := n36_
  clear n0_ n1_ n2_ n3_ n4_ n5_ n6_ n7_ n8_ n9_ n10_ n11_ n12_ n13_ n14_ n15_ n16_ n17_ n18_ n19_ n20_ n21_ n22_ n23_ n24_ n25_ n26_ n27_ n28_ n29_ n30_ n31_ n32_ n33_ n34_ n35_ n36_
  have hHeld : w511.cell? ⟨gb529, 0, none⟩ = some (.int .i64 t523) ∧ w511.cell? ⟨gb529, 1, none⟩ = some (.int .i64 t524) ∧ w511.cell? ⟨gb529, 2, none⟩ = some (.int .i64 t525) ∧ w511.cell? ⟨gb529, 3, none⟩ = some (.int .i64 t526) ∧ w511.cell? ⟨gb534, 0, none⟩ = some (.int .i64 t531) ∧ w511.cell? ⟨gb534, 1, none⟩ = some (.int .i64 t532) := hS_
  refine norm_ (a' := ?_) ?_ ?_
  rotate_left
  ·simp only [putAll, Act.put, List.setIfInBounds_toArray, List.set_cons_zero, List.set_cons_succ]
   rfl
  refine one_ (i := 8) (N := none) #[T,T,T,T,T,T,T,T,T,F] rfl rfl (one_of HT_.out (by kernel_rfl)) (by decide) (fun K hK => ?_)
  have hs512 := bkc0 BK601
  have hfs512 := bkF BK601.out 0
  have hns512_0 := NB509_601.out
  have hns512_1 := NB510_601.out
  have hns512_2 := NB516_601.out
  have hns512_3 := NB522_601.out
  have hns512_4 := NB529_601.out
  have hns512_5 := NB530_601.out
  have hns512_6 := NB534_601.out
  have hns512_7 := NB538_601.out
  have hns512_8 := NB545_601.out
  have hns512_9 := NB551_601.out
  have hns512_10 := NB554_601.out
  have hms512_0 := NB601_509.out
  have hms512_1 := NB601_510.out
  have hms512_2 := NB601_516.out
  have hms512_3 := NB601_522.out
  have hms512_4 := NB601_529.out
  have hms512_5 := NB601_530.out
  have hms512_6 := NB601_534.out
  have hms512_7 := NB601_538.out
  have hms512_8 := NB601_545.out
  have hms512_9 := NB601_551.out
  have hms512_10 := NB601_554.out
  have hs513 := bkc1 BK601
  have hfs513 := bkF BK601.out 1
  have hns513_0 := NB509_601.out
  have hns513_1 := NB510_601.out
  have hns513_2 := NB516_601.out
  have hns513_3 := NB522_601.out
  have hns513_4 := NB529_601.out
  have hns513_5 := NB530_601.out
  have hns513_6 := NB534_601.out
  have hns513_7 := NB538_601.out
  have hns513_8 := NB545_601.out
  have hns513_9 := NB551_601.out
  have hns513_10 := NB554_601.out
  have hms513_0 := NB601_509.out
  have hms513_1 := NB601_510.out
  have hms513_2 := NB601_516.out
  have hms513_3 := NB601_522.out
  have hms513_4 := NB601_529.out
  have hms513_5 := NB601_530.out
  have hms513_6 := NB601_534.out
  have hms513_7 := NB601_538.out
  have hms513_8 := NB601_545.out
  have hms513_9 := NB601_551.out
  have hms513_10 := NB601_554.out
  refine skip_ (w1 := ?_) (by rfl) rfl ?_ ?_
  rotate_left
  ·go_simp
   rfl
  refine hK.out _ _ ⟨((cell_far (p := ⟨gb601, _, none⟩) NB529_601.out _).trans (((cell_far (p := ⟨gb601, _, none⟩) NB529_601.out _).trans (hHeld.1)))), ((cell_far (p := ⟨gb601, _, none⟩) NB529_601.out _).trans (((cell_far (p := ⟨gb601, _, none⟩) NB529_601.out _).trans (hHeld.2.1)))), ((cell_far (p := ⟨gb601, _, none⟩) NB529_601.out _).trans (((cell_far (p := ⟨gb601, _, none⟩) NB529_601.out _).trans (hHeld.2.2.1)))), ((cell_far (p := ⟨gb601, _, none⟩) NB529_601.out _).trans (((cell_far (p := ⟨gb601, _, none⟩) NB529_601.out _).trans (hHeld.2.2.2.1)))), ((cell_far (p := ⟨gb601, _, none⟩) NB534_601.out _).trans (((cell_far (p := ⟨gb601, _, none⟩) NB534_601.out _).trans (hHeld.2.2.2.2.1)))), ((cell_far (p := ⟨gb601, _, none⟩) NB534_601.out _).trans (((cell_far (p := ⟨gb601, _, none⟩) NB534_601.out _).trans (hHeld.2.2.2.2.2))))⟩ (fun hHeld => ?_)
  clear hK K
  refine pu (i := 9) (N := some 29) #[T,T,T,T,T,T,T,T,T,T] (any_of HT_.out (by kernel_rfl)) ?_
  refine done_ (done_of HT_.out (by kernel_rfl)) ?_
  have hnb514 := NB601_509.out
  have hnc514 := NB509_601.out
  have hnb515 := NB601_510.out
  have hnc515 := NB510_601.out
  have hnb516 := NB601_516.out
  have hnc516 := NB516_601.out
  have hnb517 := NB601_522.out
  have hnc517 := NB522_601.out
  have hnb518 := NB601_529.out
  have hnc518 := NB529_601.out
  have hnb519 := NB601_530.out
  have hnc519 := NB530_601.out
  have hnb520 := NB601_534.out
  have hnc520 := NB534_601.out
  have hnb521 := NB601_538.out
  have hnc521 := NB538_601.out
  have hnb522 := NB601_545.out
  have hnc522 := NB545_601.out
  have hnb523 := NB601_551.out
  have hnc523 := NB551_601.out
  have hnb524 := NB601_554.out
  have hnc524 := NB554_601.out
  have hcz525_0 := bkc0 BK601
  have hcz525_1 := bkc1 BK601
  have hfz525_0 := bkF BK601.out 0
  have hfz525_1 := bkF BK601.out 1
  have hnb526 := NB530_509.out
  have hnc526 := NB509_530.out
  have hnb527 := NB530_510.out
  have hnc527 := NB510_530.out
  have hnb528 := NB530_516.out
  have hnc528 := NB516_530.out
  have hnb529 := NB530_522.out
  have hnc529 := NB522_530.out
  have hnb530 := NB530_529.out
  have hnc530 := NB529_530.out
  have hnb531 := NB530_534.out
  have hnc531 := NB534_530.out
  have hnb532 := NB530_538.out
  have hnc532 := NB538_530.out
  have hnb533 := NB530_545.out
  have hnc533 := NB545_530.out
  have hnb534 := NB530_551.out
  have hnc534 := NB551_530.out
  have hnb535 := NB530_554.out
  have hnc535 := NB554_530.out
  have hcz536_0 := bkc0 BK530
  have hcz536_1 := bkc1 BK530
  have hfz536_0 := bkF BK530.out 0
  have hfz536_1 := bkF BK530.out 1
  try go_wp2
  go_meet
  case rel => exact ⟨_, H', ⟨by have := HJ44.out; first | omega | exact Nat.le_refl _⟩, ⟨bkv⟩, ⟨bkv⟩, ⟨bkv⟩, ⟨bkv⟩, ⟨bkv⟩, ⟨bkv⟩, ⟨bkv⟩, ⟨bkv⟩, ⟨bkv⟩, ⟨bkv⟩, ⟨bkv⟩, ⟨bw_29⟩⟩
 clear HC501
 try clear c502
 try clear c505
 try clear hcz525_0
 try clear hcz525_1
 try clear hcz536_0
 try clear hcz536_1
 try clear hfz525_0
 try clear hfz525_1
 try clear hfz536_0
 try clear hfz536_1
 obtain ⟨kq, HA, HJ500, BK509, BK510, BK516, BK522, BK529, BK530, BK534, BK538, BK545, BK551, BK554, HB⟩ := hcut
 cases kq with
 | zero => exact absurd HA.out (by simp [laws_FnMatrices.j1])
 | succ kj500 =>
  have H := HA.out
  clear HA
  simp only [laws_FnMatrices.j1] at H
  have HC537 := Az.mk H
  clear H
  rename_i Kt at_
  have AT := Az.mk at_
  clear at_
  exact AT.out _ _ (laws_FnMatrices.p26 k A0 c0 l0 r w HT t501 t502 t503 t504 t505 t506 t507 t508 t511 t512 t513 t514 t515 t517 t518 t519 t520 t521 t523 t524 t525 t526 t527 t528 t531 t532 t533 t535 t536 t537 t539 t540 t541 t542 t543 t544 t546 t547 t548 t549 t550 t552 t553 t555 gb509 GE509 gb510 GE510 NB509_510 NB510_509 gb516 GE516 NB509_516 NB516_509 gb522 GE522 NB509_522 NB522_509 gb529 GE529 NB509_529 NB529_509 gb530 GE530 NB509_530 NB530_509 gb534 GE534 NB509_534 NB534_509 gb538 GE538 NB509_538 NB538_509 gb545 GE545 NB509_545 NB545_509 gb551 GE551 NB509_551 NB551_509 gb554 GE554 NB509_554 NB554_509 NB510_554 NB554_510 NB516_554 NB554_516 NB522_554 NB554_522 NB529_554 NB554_529 NB530_554 NB554_530 NB534_554 NB554_534 NB538_554 NB554_538 NB545_554 NB554_545 NB551_554 NB554_551 u22 u23 u24 u25 u26 u27 kj44 HJ44 wc u2 u28 u29 u40 u41 u42 u43 u44 u45 u46 u47 u48 u49 u50 u51 u52 u53 u54 u55 u56 u57 u58 u59 u60 u61 u62 u63 u64 u65 u66 u67 u68 u69 u70 u71 u72 u73 u74 u75 u76 u77 u78 u79 u80 u81 u82 u83 u84 u85 u86 u87 u88 u89 u90 u91 u92 u93 u94 u95 u96 u97 u98 u99 u100 u101 u102 u103 u104 u105 u106 u107 u108 u109 u110 u111 u112 u113 u114 u115 u116 u117 u118 u119 u120 u121 u122 u123 u124 u125 u126 u127 u128 u129 u130 u131 u132 u133 u134 u135 u136 u137 u138 u139 u140 u141 u142 u143 u144 u145 u146 u147 u148 u149 u150 u151 u152 u153 u154 u155 u156 u157 u158 u159 u160 u161 u162 u163 u164 u165 u166 u167 u168 u169 u170 u171 u172 u173 u174 u175 u176 u177 u178 u179 u180 u181 u182 u183 u184 u185 u186 u187 u188 u189 u190 u191 u192 u193 u194 u195 u196 u197 u198 u199 u200 u201 u202 u203 u204 u205 u206 u207 u208 u209 u210 u211 u212 u213 u214 u215 u216 u217 u218 u219 u220 u221 u222 u223 u224 u225 u226 u227 u228 u229 u230 u231 u232 u233 u234 u235 u236 u237 u238 u239 u240 u241 u242 u243 u244 u245 u246 u247 u248 u249 u250 u251 u252 u253 u254 u255 u256 u257 u258 u259 u260 u261 u262 u263 u264 u265 u266 u267 u268 u269 u270 u271 u272 u273 u274 u275 u276 u277 u278 u279 u280 u281 u282 u283 u284 u285 u286 u287 u288 u289 u290 u291 u292 u293 u294 u295 u296 u297 u298 u299 u300 u301 u302 u303 u304 u305 u306 u307 u308 u309 u310 u311 u312 u313 u314 u315 u316 u317 u318 BK509 BK510 BK516 BK522 BK529 BK530 BK534 BK538 BK545 BK551 BK554 HB kj500 HJ500 HC537)
end Go.Proofs.YtnoiijdffdpabaaDoor.P
