-- By this session's driver (wip/tools/mk.py) of the kit's print program, over several statements at once. Not trusted: Lean checks it.
import Derived.Test.YtigcjehokbgclaaQWZip
import Derived.Test.YtigcjehokbgclaaQPx0
import Derived.Test.YtigcjehokbgclaaQPx2
import Derived.Test.YtigcjehokbgclaaQPx5
import Derived.Test.YtigcjehokbgclaaQPx7
import Derived.Test.YtigcjehokbgclaaQPx8
import Derived.Test.YtigcjehokbgclaaQPx9
import Derived.Test.YtigcjehokbgclaaQPx10
import Derived.Test.YtigcjehokbgclaaQPx11
import Derived.Test.YtigcjehokbgclaaQPx12
import Derived.Test.YtigcjehokbgclaaQPx13
import Derived.Test.YtigcjehokbgclaaQPx15
import Derived.Test.YtigcjehokbgclaaQPx16
import Derived.Test.YtigcjehokbgclaaQPx19
import Derived.Test.YtigcjehokbgclaaQPx20
import Derived.Test.YtigcjehokbgclaaQPx22
import Derived.Test.YtigcjehokbgclaaQPx23
import Derived.Test.YtigcjehokbgclaaQPx24
import Derived.Test.YtigcjehokbgclaaQPx28
namespace Go.Proofs.Ytigcjehokbgclaa.P
open Go.RowKit Go.Proofs.YtigcjehokbgclaaW.PrintWords Go.Proofs.YtigcjehokbgclaaW.PrintLast Go.Proofs.YtigcjehokbgclaaW.PrintMore
attribute [local go_sem] max2_int min2_int max_two min_two max_three min_three max_four min_four   -- for this text's walks alone
set_option linter.unusedVariables false
set_option linter.unusedSimpArgs false
open Bool renaming true → T, false → F
theorem bw_29 {n : Nat} {v v' : World} (h : Below n v v' := by repeat (first | (with_reducible first | exact HB.out | apply bwA | apply pbN | apply bwD | refine bwS ?_ GE573.out | refine bwS ?_ GE574.out | refine bwS ?_ GE579.out | refine bwS ?_ GE587.out | refine bwS ?_ GE588.out | refine bwS ?_ GE594.out | refine bwS ?_ GE632.out) | exact HB.out)) : Below n v v' := h
open Option renaming bind_eq_some_iff → be
theorem z29_1 {p : Prop} (h : p := by kernel_rfl) : p := h
theorem z29_0 {p : Prop} (h : p := by first | exact Kd.own_blk (Kd.R_away HO_13.out (fun _ hk => hk.2.2.2.2.2.2)) | (rw [add_block]; exact Kd.own_blk (Kd.R_away HO_13.out (fun _ hk => hk.2.2.2.2.2.2))) | (show (Addr.add _ _).block ≠ _; rw [add_block]; exact Kd.own_blk (Kd.R_away HO_13.out (fun _ hk => hk.2.2.2.2.2.2))) | (dsimp only; exact Kd.own_blk (Kd.R_away HO_13.out (fun _ hk => hk.2.2.2.2.2.2)))) : p := h

attribute [local go_sem high] eqA25
set_option maxHeartbeats 8000000 in
set_option maxRecDepth 100000 in
theorem laws_FnFarey.p27 (k : Nat) (A0 : Option Addr) (c0 : Nat) (l0 : List Int) (r : Bool) (w : World) (HR0 : Az (Kd.C (Kd.int IntKind.u8) w A0 (List.length l0) l0)) (HC0 : Az (List.length l0 ≤ c0)) (t569 t570 t571 t572 t575 t576 t577 t578 : Int) (t580 : List S25) (t583 t584 t585 t586 : Int) (t589 : List S25) (t592 t593 : Int) (t595 : List S25) (t598 : Bool) (t599 : List S25) (t602 : Bool) (gb573 : Nat) (GE573 : Az (w.heap.size ≤ gb573)) (gb574 : Nat) (GE574 : Az (w.heap.size ≤ gb574)) (NB573_574 : Az (gb573 ≠ gb574)) (NB574_573 : Az (gb574 ≠ gb573)) (gb579 : Nat) (GE579 : Az (w.heap.size ≤ gb579)) (NB573_579 : Az (gb573 ≠ gb579)) (NB579_573 : Az (gb579 ≠ gb573)) (NB574_579 : Az (gb574 ≠ gb579)) (NB579_574 : Az (gb579 ≠ gb574)) (gb587 : Nat) (GE587 : Az (w.heap.size ≤ gb587)) (NB573_587 : Az (gb573 ≠ gb587)) (NB587_573 : Az (gb587 ≠ gb573)) (NB574_587 : Az (gb574 ≠ gb587)) (NB587_574 : Az (gb587 ≠ gb574)) (gb588 : Nat) (GE588 : Az (w.heap.size ≤ gb588)) (NB573_588 : Az (gb573 ≠ gb588)) (NB588_573 : Az (gb588 ≠ gb573)) (NB574_588 : Az (gb574 ≠ gb588)) (NB588_574 : Az (gb588 ≠ gb574)) (gb594 : Nat) (GE594 : Az (w.heap.size ≤ gb594)) (NB573_594 : Az (gb573 ≠ gb594)) (NB594_573 : Az (gb594 ≠ gb573)) (NB574_594 : Az (gb574 ≠ gb594)) (NB594_574 : Az (gb594 ≠ gb574)) (Ao67 : Option Addr) (co67 : Nat) (Ao72 : Option Addr) (co72 : Nat) (Ao74 : Option Addr) (co74 : Nat) (Ao75 : Option Addr) (co75 nd kj23 : Nat) (HJ23 : Az (kj23 + 1 ≤ k)) (wr : World) (u2 u18 u19 : Value) (x17_2 : Int) (k2 : Nat) (HK2 : Az (k2 + 1 ≤ kj23)) (wc : World) (u30 u31 u32 u33 u34 u35 u36 u37 u38 u39 u40 u41 u42 u43 u44 u45 u46 u47 u48 u49 u50 u51 u52 u53 u54 u55 u56 u57 u58 u59 u60 u61 u62 u63 u64 u65 u66 u67 u68 u69 u70 u71 u72 u73 u74 u75 u76 u77 u78 u79 u80 u81 u82 u83 u84 u85 u86 u87 u88 u89 u90 u91 u92 u93 u94 u95 u96 u97 u98 u99 u100 u101 u102 u103 u104 u105 u106 u107 u108 u109 u110 u111 u112 u113 u114 u115 u116 u117 u118 u119 u120 u121 u122 u123 u124 u125 u126 u127 u128 u129 u130 u131 u132 u133 u134 u135 u136 u137 u138 u139 u140 u141 u142 u143 u144 u145 u146 u147 u148 u149 u150 u151 u152 u153 u154 u155 u156 u157 u158 u159 u160 u161 u162 u163 u164 u165 u166 u167 u168 u169 u170 u171 u172 u173 u174 u175 u176 u177 u178 u179 u180 u181 u182 u183 u184 u185 u186 u187 u188 u189 u191 u192 u193 u194 u195 u196 u197 u198 u199 u200 u201 u202 u203 u204 u205 u206 u207 u208 u209 u210 u211 u212 u213 u214 u215 u216 u217 u218 u219 u220 u221 u222 u223 u224 u225 u226 u227 u228 u229 u230 u231 u232 u233 u234 u235 u236 u237 u238 u239 u240 u241 u242 u243 u244 u245 u246 u247 u248 u249 u250 u251 u252 u253 u254 u255 u256 u257 u258 u259 u260 u261 u262 u263 u264 u265 u266 u267 u268 u269 u270 u271 u272 u273 u274 u275 u276 u277 u278 u279 u280 u281 u282 u283 u284 u285 u286 u287 u288 u289 u290 u291 u292 u293 u294 u295 u296 u297 u298 u299 u300 u301 u302 u303 u304 u305 u306 u307 u308 u309 u310 u311 u312 u313 u314 u315 u316 u317 u318 u319 u320 u321 u322 u323 u324 u325 u326 u327 u328 u329 u330 : Value) (HO_13 : Az (Kd.R k25 25 wc (w.heap.size) (fun (k_ : Nat) => k_ ≠ gb573 ∧ k_ ≠ gb574 ∧ k_ ≠ gb579 ∧ k_ ≠ gb587 ∧ k_ ≠ gb588 ∧ k_ ≠ gb594) (Value.slice Ao74 (List.length t595) co74) t595)) (BK573 : Az ((World.heap wc)[gb573]? = some (Obj.cells #[Value.int IntKind.i64 t569, Value.int IntKind.i64 t570] 25))) (BK574 : Az ((World.heap wc)[gb574]? = some (Obj.cells #[Value.int IntKind.i64 t571, Value.int IntKind.i64 t572] 25))) (BK579 : Az ((World.heap wc)[gb579]? = some (Obj.cells #[Value.int IntKind.i64 t576, Value.int IntKind.i64 t577] 25))) (BK587 : Az ((World.heap wc)[gb587]? = some (Obj.cells #[Value.int IntKind.i64 t583, Value.int IntKind.i64 t584] 25))) (BK588 : Az ((World.heap wc)[gb588]? = some (Obj.cells #[Value.int IntKind.i64 t585, Value.int IntKind.i64 t586] 25))) (BK594 : Az ((World.heap wc)[gb594]? = some (Obj.cells #[Value.int IntKind.i64 t592, Value.int IntKind.i64 t593] 25))) (HB : Az (Below (w.heap.size) w wc)) (kj149 : Nat) (HJ149 : Az (kj149 + 1 ≤ k2)) (HC165 : Az ((if t598 = true then if 0 < (↑(List.length t595) : Int) then if 1 < (↑(List.length t595) : Int) then Option.bind (spec_SumSlope.f kj149 (S25.f0 (rd_T25 t595 0)) (S25.f1 (rd_T25 t595 0)) (S25.f0 (rd_T25 t595 1)) (S25.f1 (rd_T25 t595 1))) fun (bt629 : Int × Int × Bool) => if Prod.snd (Prod.snd bt629) = true then if (!Prod.fst bt629 == t592 || !Prod.fst (Prod.snd bt629) == t593) = true then none else if wrap64 (S25.f1 (rd_T25 t595 0) + S25.f1 (rd_T25 t595 1)) = t593 then laws_FnFarey.j3 kj149 l0 t575 t569 t570 t571 t572 else none else none else none else none else laws_FnFarey.j3 kj149 l0 t575 t569 t570 t571 t572) = some r)) :
  Code.wp Try.prog (tailOf (Try.f3.body.getD .skip) 15) (bodyPost Try.prog Try.f3 (fun e w' => e = .returned (.bool r) ∧ Below w.heap.size w w')) ⟨#[Value.slice A0 (List.length l0) c0, undef, u2, Value.pointer (some ⟨gb573, 0, none⟩), Value.pointer (some ⟨gb574, 0, none⟩), Value.int IntKind.i64 t575, Value.pointer (some ⟨gb579, 0, none⟩), Value.int IntKind.i64 t578, Value.slice Ao67 (List.length t580) co67, Value.pointer (some ⟨gb587, 0, none⟩), Value.pointer (some ⟨gb588, 0, none⟩), Value.slice Ao72 (List.length t589) co72, Value.pointer (some ⟨gb594, 0, none⟩), Value.slice Ao74 (List.length t595) co74, Value.bool t598, Value.slice Ao75 (List.length t599) co75, Value.bool t602, Value.int IntKind.i64 x17_2, u18, u19, undef, undef, undef, undef, undef, undef, undef, undef, undef, undef, u30, u31, u32, u33, u34, u35, u36, u37, u38, u39, u40, u41, u42, u43, u44, u45, u46, u47, u48, u49, u50, u51, u52, u53, u54, u55, u56, u57, u58, u59, u60, u61, u62, u63, u64, u65, u66, u67, u68, u69, u70, u71, u72, u73, u74, u75, u76, u77, u78, u79, u80, u81, u82, u83, u84, u85, u86, u87, u88, u89, u90, u91, u92, u93, u94, u95, u96, u97, u98, u99, u100, u101, u102, u103, u104, u105, u106, u107, u108, u109, u110, u111, u112, u113, u114, u115, u116, u117, u118, u119, u120, u121, u122, u123, u124, u125, u126, u127, u128, u129, u130, u131, u132, u133, u134, u135, u136, u137, u138, u139, u140, u141, u142, u143, u144, u145, u146, u147, u148, u149, u150, u151, u152, u153, u154, u155, u156, u157, u158, u159, u160, u161, u162, u163, u164, u165, u166, u167, u168, u169, u170, u171, u172, u173, u174, u175, u176, u177, u178, u179, u180, u181, u182, u183, u184, u185, u186, u187, u188, u189, Value.bool false, u191, u192, u193, u194, u195, u196, u197, u198, u199, u200, u201, u202, u203, u204, u205, u206, u207, u208, u209, u210, u211, u212, u213, u214, u215, u216, u217, u218, u219, u220, u221, u222, u223, u224, u225, u226, u227, u228, u229, u230, u231, u232, u233, u234, u235, u236, u237, u238, u239, u240, u241, u242, u243, u244, u245, u246, u247, u248, u249, u250, u251, u252, u253, u254, u255, u256, u257, u258, u259, u260, u261, u262, u263, u264, u265, u266, u267, u268, u269, u270, u271, u272, u273, u274, u275, u276, u277, u278, u279, u280, u281, u282, u283, u284, u285, u286, u287, u288, u289, u290, u291, u292, u293, u294, u295, u296, u297, u298, u299, u300, u301, u302, u303, u304, u305, u306, u307, u308, u309, u310, u311, u312, u313, u314, u315, u316, u317, u318, u319, u320, u321, u322, u323, u324, u325, u326, u327, u328, u329, u330], []⟩ wc := by
 (try dsimp only)
 conv => arg 2; whnf
 go_upto_if 191 with (fail)
 go_cut [] (fun wc => ∃ (kq : Nat), Az (laws_FnFarey.j3 kq l0 t575 t569 t570 t571 t572 = some r) ∧ Az (kq ≤ kj149) ∧ Az (wc.heap[gb573]? = some (.cells #[.int .i64 t569, .int .i64 t570] 25 (0, 0))) ∧ Az (wc.heap[gb574]? = some (.cells #[.int .i64 t571, .int .i64 t572] 25 (0, 0))) ∧ Az (wc.heap[gb579]? = some (.cells #[.int .i64 t576, .int .i64 t577] 25 (0, 0))) ∧ Az (wc.heap[gb587]? = some (.cells #[.int .i64 t583, .int .i64 t584] 25 (0, 0))) ∧ Az (wc.heap[gb588]? = some (.cells #[.int .i64 t585, .int .i64 t586] 25 (0, 0))) ∧ Az (wc.heap[gb594]? = some (.cells #[.int .i64 t592, .int .i64 t593] 25 (0, 0))) ∧ Az (Below w.heap.size w wc))
 case first =>
  have H := HC165.out
  clear HC165
  by_cases c166 : t598 = true
  rotate_left
  ·replace c166 := Bool.eq_false_iff.mpr c166
   subst c166
   rw [if_neg (show ¬ (false = true) by decide)] at H
   have H' := Az.mk H
   clear H
   go_wp2
   go_meet
   case rel => exact ⟨_, H', ⟨by have := HJ23.out; have := HK2.out; have := HJ149.out; first | omega | exact Nat.le_refl _⟩, ⟨bk1 BK573⟩, ⟨bk1 BK574⟩, ⟨bk1 BK579⟩, ⟨bk1 BK587⟩, ⟨bk1 BK588⟩, ⟨bk1 BK594⟩, ⟨bw_29⟩⟩
  subst c166
  rw [if_pos rfl] at H
  by_cases c167 : 0 < (t595.length : Int)
  rotate_left
  ·rw [if_neg c167] at H
   exact absurd H (by simp)
  rw [if_pos c167] at H
  have c167b0 : decide (0 < (t595.length : Int)) = true := decide_eq_true c167
  have c167b1 : decide (0 < t595.length) = true := decide_eq_true (by omega)
  clear c167
  (first | rw [c167b0] | (simp only [i64_w, i32_w]; rw [c167b0]) | skip)
  by_cases c168 : 1 < (t595.length : Int)
  rotate_left
  ·rw [if_neg c168] at H
   exact absurd H (by simp)
  rw [if_pos c168] at H
  have c168b0 : decide (1 < (t595.length : Int)) = true := decide_eq_true c168
  have c168b1 : decide (1 < t595.length) = true := decide_eq_true (by omega)
  clear c168
  replace H := bez H
  obtain ⟨⟨t629, t630, t631⟩, A169, H⟩ := H
  try dsimp only at H
  by_cases c170 : t631 = true
  rotate_left
  ·replace c170 := Bool.eq_false_iff.mpr c170
   subst c170
   rw [if_neg (show ¬ (false = true) by decide)] at H
   exact absurd H (by simp)
  subst c170
  rw [if_pos rfl] at H
  by_cases c171 : (!(t629 == t592) || (!(t630 == t593))) = true
  ·rw [if_pos c171] at H
   have c171b0 : (!(t629 == t592) || (!(t630 == t593))) = true := c171
   clear c171
   exact absurd H (by simp)
  rw [if_neg c171] at H
  have c171b0 : (!(t629 == t592) || (!(t630 == t593))) = false := by simpa using c171
  clear c171
  by_cases c172 : (wrap64 (((rd_T25 t595 0).f1) + ((rd_T25 t595 1).f1))) = t593
  rotate_left
  ·rw [if_neg c172] at H
   exact absurd H (by simp)
  rw [if_pos c172] at H
  have c172b0 : ((wrap64 (((rd_T25 t595 0).f1) + ((rd_T25 t595 1).f1))) == t593) = true := beq_iff_eq.mpr c172
  have c172b1 : ((wrap64 (((rd_T25 t595 0).f1) + ((rd_T25 t595 1).f1))) != t593) = false := bne_eq_false_iff_eq.mpr c172
  clear c172
  have H' := Az.mk H
  clear H
  try go_wp2
  replace HO_13 := Az.mk (Kd.R_drew HO_13.out); replace BK573 := Az.mk (bkD BK573.out); replace BK574 := Az.mk (bkD BK574.out); replace BK579 := Az.mk (bkD BK579.out); replace BK587 := Az.mk (bkD BK587.out); replace BK588 := Az.mk (bkD BK588.out); replace BK594 := Az.mk (bkD BK594.out); replace HB := Az.mk (bwD HB.out)
  have p627 : 0 ≤ (0 : Int) := (by omega)
  have q627 : 0 < (t595.length : Int) := of_decide_eq_true (by first | (with_reducible assumption) | assumption)
  obtain ⟨ad627, e627, hx627_0, hx627_1⟩ := at_T25 (Kd.R_reads' HO_13.out).2.2 0 p627 q627
  cases e627
  have qi627 : (0 < t595.length) = True := eq_true (by omega)
  (try rw [show ((0 : Int)).toNat = 0 from rfl] at hx627_0)
  (try rw [show 0 * 2 = 0 from rfl] at hx627_0)
  (try rw [Addr.add_zero'] at hx627_0)
  (try rw [show ((0 : Int)).toNat = 0 from rfl] at hx627_1)
  (try rw [show 0 * 2 = 0 from rfl] at hx627_1)
  (try rw [Addr.add_zero'] at hx627_1)
  replace p627 := eq_true p627
  replace q627 := eq_true q627
  have p628 : 0 ≤ (1 : Int) := (by omega)
  have q628 : 1 < (t595.length : Int) := of_decide_eq_true (by first | (with_reducible assumption) | assumption)
  obtain ⟨ad628, e628, hx628_0, hx628_1⟩ := at_T25 (Kd.R_reads' HO_13.out).2.2 1 p628 q628
  obtain rfl : ad627 = ad628 := (by injection e628)
  (try simp only [show (1 : Int).toNat = 1 from rfl, Nat.reduceMul, Nat.reduceEqDiff, Go.Addr.add, ↓reduceIte] at hx628_0)
  (try simp only [show (1 : Int).toNat = 1 from rfl, Nat.reduceMul, Nat.reduceEqDiff, Go.Addr.add, ↓reduceIte] at hx628_1)
  have qi628 : (1 < t595.length) = True := eq_true (by omega)
  (try rw [show ((1 : Int)).toNat = 1 from rfl] at hx628_0)
  (try rw [show 1 * 2 = 2 from rfl] at hx628_0)
  (try rw [show ((1 : Int)).toNat = 1 from rfl] at hx628_1)
  (try rw [show 1 * 2 = 2 from rfl] at hx628_1)
  replace p628 := eq_true p628
  replace q628 := eq_true q628
  refine start_ (n := 13) (S := fun w' => w'.cell? ad627 = some (.int .i64 ((rd_T25 t595 0).f0)) ∧ w'.cell? ⟨ad627.block, ad627.off + 1, none⟩ = some (.int .i64 ((rd_T25 t595 0).f1)) ∧ w'.cell? ⟨ad627.block, ad627.off + 2, none⟩ = some (.int .i64 ((rd_T25 t595 1).f0)) ∧ w'.cell? ⟨ad627.block, ad627.off + 2 + 1, none⟩ = some (.int .i64 ((rd_T25 t595 1).f1))) (ds := []) #[F,F,F,F,F,F,F,F,F,F,F,F,F] z29_1 rfl rfl ⟨hx627_0, hx627_1, hx628_0, hx628_1⟩ (fun hHeld => ?_); refine with_tabW laws_FnFarey.tab28 laws_FnFarey.bits28 (fun HT_ HW_ => ?_)
  generalize wc.drew = w173 at HO_13 BK573 BK574 BK579 BK587 BK588 BK594 HB hx627_0 hx627_1 hx628_0 hx628_1 hHeld ⊢
  refine pu (i := 0) (N := some 193) #[T,F,F,F,F,F,F,F,F,F,F,F,F] (any_of HT_.out z29_1) ?_
  refine pu (i := 1) (N := some 194) #[T,T,F,F,F,F,F,F,F,F,F,F,F] (any_of HT_.out z29_1) ?_
  refine pu (i := 3) (N := some 196) #[T,T,F,T,F,F,F,F,F,F,F,F,F] (any_of HT_.out z29_1) ?_
  refine pu (i := 4) (N := some 197) #[T,T,F,T,T,F,F,F,F,F,F,F,F] (any_of HT_.out z29_1) ?_
  refine take_ (i := 2) (N := some 195) (v := ?_) (a' := ?_) #[T,T,T,T,T,F,F,F,F,F,F,F,F] rfl rfl (take_ofW HT_.out HW_.out z29_1) (fun _ _ _ h => h) (Or.inl ⟨by rfl, ?_⟩) hHeld ?_ ?_
  rotate_left
  ·rintro w' ⟨s0, s1, s2, s3⟩
   go_simp
   with_reducible rfl
  rotate_left
  ·exact acq
  refine take_ (i := 5) (N := some 198) (v := ?_) (a' := ?_) #[T,T,T,T,T,T,F,F,F,F,F,F,F] rfl rfl (take_ofW HT_.out HW_.out z29_1) (fun _ _ _ h => h) (Or.inl ⟨by rfl, ?_⟩) hHeld ?_ ?_
  rotate_left
  ·rintro w' ⟨s0, s1, s2, s3⟩
   go_simp
   with_reducible rfl
  rotate_left
  ·exact acq
  refine join_ (σ := Nat) 2 #[T,T,T,T,T,T,T,T,T,T,T,F,F] (fun s_ => [(199, .tuple #[.agg #[.int .i64 t629, .int .i64 t630], .bool true]), (20, .pointer (some ⟨s_, 0, none⟩)), (192, .tuple #[.agg #[.int .i64 t629, .int .i64 t630], .bool true]), (200, .agg #[.int .i64 t629, .int .i64 t630]), (201, .bool true)]) (fun s_ w' => (w'.cell? ad627 = some (.int .i64 ((rd_T25 t595 0).f0)) ∧ w'.cell? ⟨ad627.block, ad627.off + 1, none⟩ = some (.int .i64 ((rd_T25 t595 0).f1)) ∧ w'.cell? ⟨ad627.block, ad627.off + 2, none⟩ = some (.int .i64 ((rd_T25 t595 1).f0)) ∧ w'.cell? ⟨ad627.block, ad627.off + 2 + 1, none⟩ = some (.int .i64 ((rd_T25 t595 1).f1))) ∧ (Kd.R k25 25 w' w.heap.size (fun k_ => k_ ≠ gb573 ∧ k_ ≠ gb574 ∧ k_ ≠ gb579 ∧ k_ ≠ gb587 ∧ k_ ≠ gb588 ∧ k_ ≠ gb594 ∧ k_ ≠ s_) (.slice (some ad627) t595.length co74) t595) ∧ (w'.heap[gb573]? = some (.cells #[.int .i64 t569, .int .i64 t570] 25 (0, 0))) ∧ (w'.heap[gb574]? = some (.cells #[.int .i64 t571, .int .i64 t572] 25 (0, 0))) ∧ (w'.heap[gb579]? = some (.cells #[.int .i64 t576, .int .i64 t577] 25 (0, 0))) ∧ (w'.heap[gb587]? = some (.cells #[.int .i64 t583, .int .i64 t584] 25 (0, 0))) ∧ (w'.heap[gb588]? = some (.cells #[.int .i64 t585, .int .i64 t586] 25 (0, 0))) ∧ (w'.heap[gb594]? = some (.cells #[.int .i64 t592, .int .i64 t593] 25 (0, 0))) ∧ (w'.heap[s_]? = some (.cells #[.int .i64 0, .int .i64 0] 25 (0, 0))) ∧ (w.heap.size ≤ s_) ∧ (w.heap.size ≤ s_) ∧ (gb573 ≠ s_) ∧ (s_ ≠ gb573) ∧ (gb574 ≠ s_) ∧ (s_ ≠ gb574) ∧ (gb579 ≠ s_) ∧ (s_ ≠ gb579) ∧ (gb587 ≠ s_) ∧ (s_ ≠ gb587) ∧ (gb588 ≠ s_) ∧ (s_ ≠ gb588) ∧ (gb594 ≠ s_) ∧ (s_ ≠ gb594) ∧ (Below w.heap.size w w')) ?_ ?_
  rotate_left
  ·intro hCont
   refine two_ (i := 6) (j := 10) (Ni := some 199) (Nj := some 20) #[T,T,T,T,T,T,T,F,F,F,F,F,F] #[T,T,T,T,T,T,F,F,F,F,T,F,F] rfl rfl rfl rfl (two_of HT_.out z29_1) (by decide) (by decide) (fun K hK => ?_) (fun K hK => ?_)
   ·skip
    refine goes_ Try.func19 z29_1 rfl #[.agg #[.int .i64 ((rd_T25 t595 0).f0), .int .i64 ((rd_T25 t595 0).f1)], .agg #[.int .i64 ((rd_T25 t595 1).f0), .int .i64 ((rd_T25 t595 1).f1)]] (by rfl) rfl rfl (by (try simp only [List.map_toArray, List.map_cons, List.map_nil]); first | done | rfl | (simp only [List.length_drop, List.length_take]; rfl)) ?_
    with_reducible refine (spec_SumSlope.calls kj149 ((rd_T25 t595 0).f0) ((rd_T25 t595 0).f1) ((rd_T25 t595 1).f0) ((rd_T25 t595 1).f1) t629 t630 true _ A169.out).mono ?_
    rintro e w174 ⟨rfl, hb⟩
    have HS0_ := (hb.cell (World.block_lt_of_cell? _ _ (hHeld.1))).trans (hHeld.1)
    have HS1_ := (hb.cell (World.block_lt_of_cell? _ _ (hHeld.2.1))).trans (hHeld.2.1)
    have HS2_ := (hb.cell (World.block_lt_of_cell? _ _ (hHeld.2.2.1))).trans (hHeld.2.2.1)
    have HS3_ := (hb.cell (World.block_lt_of_cell? _ _ (hHeld.2.2.2))).trans (hHeld.2.2.2)
    refine ⟨_, rfl, ?_⟩
    replace HO_13 := Az.mk (Kd.R_below (by (with_reducible repeat (first | apply Kd.R_alloc | apply Kd.R_drewN | apply Kd.R_drew)); exact HO_13.out) hb); replace BK573 := bkz BK573 hb; replace BK574 := bkz BK574 hb; replace BK579 := bkz BK579 hb; replace BK587 := bkz BK587 hb; replace BK588 := bkz BK588 hb; replace BK594 := bkz BK594 hb; replace HB := Az.mk (bwT bw_29 hb)
    (try clear hb)
    (try clear hb2)
    (try clear hk)
    (try clear hi)
    refine hK.out _ _ ⟨HS0_, HS1_, HS2_, HS3_⟩ (fun hHeld => ?_)
    clear hK K
    refine norm_ (a' := ?_) ?_ ?_
    rotate_left
    ·show Act.put _ (some 199) _ = _
     exact acq
    refine pu (i := 7) (N := some 192) #[T,T,T,T,T,T,T,T,F,F,F,F,F] (any_of HT_.out z29_1) ?_
    refine pu (i := 8) (N := some 200) #[T,T,T,T,T,T,T,T,T,F,F,F,F] (any_of HT_.out z29_1) ?_
    refine pu (i := 9) (N := some 201) #[T,T,T,T,T,T,T,T,T,T,F,F,F] (any_of HT_.out z29_1) ?_
    refine one_ (i := 10) (N := some 20) #[T,T,T,T,T,T,T,T,T,T,T,F,F] rfl rfl (one_of HT_.out z29_1) (by decide) (fun K hK => ?_)
    refine box_step ?hg (N := 20) ?hd (cs := #[.int .i64 0, .int .i64 0]) (t := 25) ?hr ?_; (case hd => rfl); (case hg => rfl); (case hr => first | (go_simp; done) | (go_simp; rfl))
    intro gb632 hg w175 hbox hb
    have HS0_ := (hb.cell (World.block_lt_of_cell? _ _ (hHeld.1))).trans (hHeld.1)
    have HS1_ := (hb.cell (World.block_lt_of_cell? _ _ (hHeld.2.1))).trans (hHeld.2.1)
    have HS2_ := (hb.cell (World.block_lt_of_cell? _ _ (hHeld.2.2.1))).trans (hHeld.2.2.1)
    have HS3_ := (hb.cell (World.block_lt_of_cell? _ _ (hHeld.2.2.2))).trans (hHeld.2.2.2)
    replace HO_13 := Az.mk (Kd.R_below (Kd.R_elderB (by (with_reducible repeat (first | apply Kd.R_alloc | apply Kd.R_drewN | apply Kd.R_drew)); exact HO_13.out) gb632 (Nat.le_of_eq hg.symm)) hb); have BK632 := Az.mk (hbox); have GW632 := gwz hg bw_29; have GE632 := gwz hg bw_29; replace HB := Az.mk (bwT bw_29 hb); have NB573_632 := nlt BK573 hg; have NB632_573 := ngt BK573 hg; replace BK573 := bkz BK573 hb; have NB574_632 := nlt BK574 hg; have NB632_574 := ngt BK574 hg; replace BK574 := bkz BK574 hb; have NB579_632 := nlt BK579 hg; have NB632_579 := ngt BK579 hg; replace BK579 := bkz BK579 hb; have NB587_632 := nlt BK587 hg; have NB632_587 := ngt BK587 hg; replace BK587 := bkz BK587 hb; have NB588_632 := nlt BK588 hg; have NB632_588 := ngt BK588 hg; replace BK588 := bkz BK588 hb; have NB594_632 := nlt BK594 hg; have NB632_594 := ngt BK594 hg; replace BK594 := bkz BK594 hb
    clear hb hbox hg
    refine hK.out _ _ ⟨HS0_, HS1_, HS2_, HS3_⟩ (fun hHeld => ?_)
    clear hK K
    refine norm_ (a' := ?_) ?_ ?_
    rotate_left
    ·show Act.put _ (some 20) _ = _
     exact acq
    exact norm_ (by simp only [putAll, Act.put, List.setIfInBounds_toArray, List.set_cons_zero, List.set_cons_succ]) (hCont (gb632) _ ⟨hHeld, (by (with_reducible repeat (first | apply Kd.R_alloc | apply Kd.R_drewN | apply Kd.R_drew)); exact Kd.R_mono HO_13.out (fun _ hk => ⟨hk.1.1, ⟨hk.1.2.1, ⟨hk.1.2.2.1, ⟨hk.1.2.2.2.1, ⟨hk.1.2.2.2.2.1, ⟨hk.1.2.2.2.2.2, hk.2⟩⟩⟩⟩⟩⟩)), (bk1 BK573), (bk1 BK574), (bk1 BK579), (bk1 BK587), (bk1 BK588), (bk1 BK594), (bk1 BK632), GW632.out, GE632.out, NB573_632.out, NB632_573.out, NB574_632.out, NB632_574.out, NB579_632.out, NB632_579.out, NB587_632.out, NB632_587.out, NB588_632.out, NB632_588.out, NB594_632.out, NB632_594.out, bw_29⟩)
   skip
   refine box_step ?hg (N := 20) ?hd (cs := #[.int .i64 0, .int .i64 0]) (t := 25) ?hr ?_; (case hd => rfl); (case hg => rfl); (case hr => first | (go_simp; done) | (go_simp; rfl))
   intro gb632 hg w174 hbox hb
   have HS0_ := (hb.cell (World.block_lt_of_cell? _ _ (hHeld.1))).trans (hHeld.1)
   have HS1_ := (hb.cell (World.block_lt_of_cell? _ _ (hHeld.2.1))).trans (hHeld.2.1)
   have HS2_ := (hb.cell (World.block_lt_of_cell? _ _ (hHeld.2.2.1))).trans (hHeld.2.2.1)
   have HS3_ := (hb.cell (World.block_lt_of_cell? _ _ (hHeld.2.2.2))).trans (hHeld.2.2.2)
   replace HO_13 := Az.mk (Kd.R_below (Kd.R_elderB (by (with_reducible repeat (first | apply Kd.R_alloc | apply Kd.R_drewN | apply Kd.R_drew)); exact HO_13.out) gb632 (Nat.le_of_eq hg.symm)) hb); have BK632 := Az.mk (hbox); have GW632 := gwz hg bw_29; have GE632 := gwz hg bw_29; replace HB := Az.mk (bwT bw_29 hb); have NB573_632 := nlt BK573 hg; have NB632_573 := ngt BK573 hg; replace BK573 := bkz BK573 hb; have NB574_632 := nlt BK574 hg; have NB632_574 := ngt BK574 hg; replace BK574 := bkz BK574 hb; have NB579_632 := nlt BK579 hg; have NB632_579 := ngt BK579 hg; replace BK579 := bkz BK579 hb; have NB587_632 := nlt BK587 hg; have NB632_587 := ngt BK587 hg; replace BK587 := bkz BK587 hb; have NB588_632 := nlt BK588 hg; have NB632_588 := ngt BK588 hg; replace BK588 := bkz BK588 hb; have NB594_632 := nlt BK594 hg; have NB632_594 := ngt BK594 hg; replace BK594 := bkz BK594 hb
   clear hb hbox hg
   refine hK.out _ _ ⟨HS0_, HS1_, HS2_, HS3_⟩ (fun hHeld => ?_)
   clear hK K
   refine norm_ (a' := ?_) ?_ ?_
   rotate_left
   ·show Act.put _ (some 20) _ = _
    exact acq
   refine one_ (i := 6) (N := some 199) #[T,T,T,T,T,T,T,F,F,F,T,F,F] rfl rfl (one_of HT_.out z29_1) (by decide) (fun K hK => ?_)
   refine goes_ Try.func19 z29_1 rfl #[.agg #[.int .i64 ((rd_T25 t595 0).f0), .int .i64 ((rd_T25 t595 0).f1)], .agg #[.int .i64 ((rd_T25 t595 1).f0), .int .i64 ((rd_T25 t595 1).f1)]] (by rfl) rfl rfl (by (try simp only [List.map_toArray, List.map_cons, List.map_nil]); first | done | rfl | (simp only [List.length_drop, List.length_take]; rfl)) ?_
   with_reducible refine (spec_SumSlope.calls kj149 ((rd_T25 t595 0).f0) ((rd_T25 t595 0).f1) ((rd_T25 t595 1).f0) ((rd_T25 t595 1).f1) t629 t630 true _ A169.out).mono ?_
   rintro e w175 ⟨rfl, hb⟩
   have HS0_ := (hb.cell (World.block_lt_of_cell? _ _ (hHeld.1))).trans (hHeld.1)
   have HS1_ := (hb.cell (World.block_lt_of_cell? _ _ (hHeld.2.1))).trans (hHeld.2.1)
   have HS2_ := (hb.cell (World.block_lt_of_cell? _ _ (hHeld.2.2.1))).trans (hHeld.2.2.1)
   have HS3_ := (hb.cell (World.block_lt_of_cell? _ _ (hHeld.2.2.2))).trans (hHeld.2.2.2)
   refine ⟨_, rfl, ?_⟩
   replace HO_13 := Az.mk (Kd.R_below (by (with_reducible repeat (first | apply Kd.R_alloc | apply Kd.R_drewN | apply Kd.R_drew)); exact HO_13.out) hb); replace BK573 := bkz BK573 hb; replace BK574 := bkz BK574 hb; replace BK579 := bkz BK579 hb; replace BK587 := bkz BK587 hb; replace BK588 := bkz BK588 hb; replace BK594 := bkz BK594 hb; replace BK632 := bkz BK632 hb; replace HB := Az.mk (bwT bw_29 hb)
   (try clear hb)
   (try clear hb2)
   (try clear hk)
   (try clear hi)
   refine hK.out _ _ ⟨HS0_, HS1_, HS2_, HS3_⟩ (fun hHeld => ?_)
   clear hK K
   refine norm_ (a' := ?_) ?_ ?_
   rotate_left
   ·show Act.put _ (some 199) _ = _
    exact acq
   refine pu (i := 7) (N := some 192) #[T,T,T,T,T,T,T,T,F,F,T,F,F] (any_of HT_.out z29_1) ?_
   refine pu (i := 8) (N := some 200) #[T,T,T,T,T,T,T,T,T,F,T,F,F] (any_of HT_.out z29_1) ?_
   refine pu (i := 9) (N := some 201) #[T,T,T,T,T,T,T,T,T,T,T,F,F] (any_of HT_.out z29_1) ?_
   exact norm_ (by simp only [putAll, Act.put, List.setIfInBounds_toArray, List.set_cons_zero, List.set_cons_succ]) (hCont (gb632) _ ⟨hHeld, (by (with_reducible repeat (first | apply Kd.R_alloc | apply Kd.R_drewN | apply Kd.R_drew)); exact Kd.R_mono HO_13.out (fun _ hk => ⟨hk.1.1, ⟨hk.1.2.1, ⟨hk.1.2.2.1, ⟨hk.1.2.2.2.1, ⟨hk.1.2.2.2.2.1, ⟨hk.1.2.2.2.2.2, hk.2⟩⟩⟩⟩⟩⟩)), (bk1 BK573), (bk1 BK574), (bk1 BK579), (bk1 BK587), (bk1 BK588), (bk1 BK594), (bk1 BK632), GW632.out, GE632.out, NB573_632.out, NB632_573.out, NB574_632.out, NB632_574.out, NB579_632.out, NB632_579.out, NB587_632.out, NB632_587.out, NB588_632.out, NB632_588.out, NB594_632.out, NB632_594.out, bw_29⟩)
  rintro gb632 w176 ⟨hS_, h0_, h1_, h2_, h3_, h4_, h5_, h6_, h7_, h8_, h9_, h10_, h11_, h12_, h13_, h14_, h15_, h16_, h17_, h18_, h19_, h20_, h21_, h22_⟩
  have n0_ : Az (Kd.R k25 25 w176 w.heap.size (fun k_ => k_ ≠ gb573 ∧ k_ ≠ gb574 ∧ k_ ≠ gb579 ∧ k_ ≠ gb587 ∧ k_ ≠ gb588 ∧ k_ ≠ gb594 ∧ k_ ≠ gb632) (.slice (some ad627) t595.length co74) t595) := ⟨h0_⟩
  have n1_ : Az (w176.heap[gb573]? = some (.cells #[.int .i64 t569, .int .i64 t570] 25 (0, 0))) := ⟨h1_⟩
  have n2_ : Az (w176.heap[gb574]? = some (.cells #[.int .i64 t571, .int .i64 t572] 25 (0, 0))) := ⟨h2_⟩
  have n3_ : Az (w176.heap[gb579]? = some (.cells #[.int .i64 t576, .int .i64 t577] 25 (0, 0))) := ⟨h3_⟩
  have n4_ : Az (w176.heap[gb587]? = some (.cells #[.int .i64 t583, .int .i64 t584] 25 (0, 0))) := ⟨h4_⟩
  have n5_ : Az (w176.heap[gb588]? = some (.cells #[.int .i64 t585, .int .i64 t586] 25 (0, 0))) := ⟨h5_⟩
  have n6_ : Az (w176.heap[gb594]? = some (.cells #[.int .i64 t592, .int .i64 t593] 25 (0, 0))) := ⟨h6_⟩
  have n7_ : Az (w176.heap[gb632]? = some (.cells #[.int .i64 0, .int .i64 0] 25 (0, 0))) := ⟨h7_⟩
  have n8_ : Az (w.heap.size ≤ gb632) := ⟨h8_⟩
  have n9_ : Az (w.heap.size ≤ gb632) := ⟨h9_⟩
  have n10_ : Az (gb573 ≠ gb632) := ⟨h10_⟩
  have n11_ : Az (gb632 ≠ gb573) := ⟨h11_⟩
  have n12_ : Az (gb574 ≠ gb632) := ⟨h12_⟩
  have n13_ : Az (gb632 ≠ gb574) := ⟨h13_⟩
  have n14_ : Az (gb579 ≠ gb632) := ⟨h14_⟩
  have n15_ : Az (gb632 ≠ gb579) := ⟨h15_⟩
  have n16_ : Az (gb587 ≠ gb632) := ⟨h16_⟩
  have n17_ : Az (gb632 ≠ gb587) := ⟨h17_⟩
  have n18_ : Az (gb588 ≠ gb632) := ⟨h18_⟩
  have n19_ : Az (gb632 ≠ gb588) := ⟨h19_⟩
  have n20_ : Az (gb594 ≠ gb632) := ⟨h20_⟩
  have n21_ : Az (gb632 ≠ gb594) := ⟨h21_⟩
  have n22_ : Az (Below w.heap.size w w176) := ⟨h22_⟩
  clear HO_13
  clear BK573
  clear BK574
  clear BK579
  clear BK587
  clear BK588
  clear BK594
  clear HB
  clear h0_ h1_ h2_ h3_ h4_ h5_ h6_ h7_ h8_ h9_ h10_ h11_ h12_ h13_ h14_ h15_ h16_ h17_ h18_ h19_ h20_ h21_ h22_
  have HO_13 := n0_
  have BK573 := n1_
  have BK574 := n2_
  have BK579 := n3_
  have BK587 := n4_
  have BK588 := n5_
  have BK594 := n6_
  have BK632 := n7_
  have GW632 := n8_
  have GE632 := n9_
  have NB573_632 := n10_
  have NB632_573 := n11_
  have NB574_632 := n12_
  have NB632_574 := n13_
  have NB579_632 := n14_
  have NB632_579 := n15_
  have NB587_632 := n16_
  have NB632_587 := n17_
  have NB588_632 := n18_
  have NB632_588 := n19_
  have NB594_632 := n20_
  have NB632_594 := n21_
  have HB := n22_
  clear n0_ n1_ n2_ n3_ n4_ n5_ n6_ n7_ n8_ n9_ n10_ n11_ n12_ n13_ n14_ n15_ n16_ n17_ n18_ n19_ n20_ n21_ n22_
  have hHeld : w176.cell? ad627 = some (.int .i64 ((rd_T25 t595 0).f0)) ∧ w176.cell? ⟨ad627.block, ad627.off + 1, none⟩ = some (.int .i64 ((rd_T25 t595 0).f1)) ∧ w176.cell? ⟨ad627.block, ad627.off + 2, none⟩ = some (.int .i64 ((rd_T25 t595 1).f0)) ∧ w176.cell? ⟨ad627.block, ad627.off + 2 + 1, none⟩ = some (.int .i64 ((rd_T25 t595 1).f1)) := hS_
  refine norm_ (a' := ?_) ?_ ?_
  rotate_left
  ·simp only [putAll, Act.put, List.setIfInBounds_toArray, List.set_cons_zero, List.set_cons_succ]
   rfl
  refine one_ (i := 11) (N := none) #[T,T,T,T,T,T,T,T,T,T,T,T,F] rfl rfl (one_of HT_.out z29_1) (by decide) (fun K hK => ?_)
  have hs177 := bkc0 BK632
  have hfs177 := bkF BK632.out 0
  have hns177_0 := NB573_632.out
  have hns177_1 := NB574_632.out
  have hns177_2 := NB579_632.out
  have hns177_3 := NB587_632.out
  have hns177_4 := NB588_632.out
  have hns177_5 := NB594_632.out
  have hms177_0 := NB632_573.out
  have hms177_1 := NB632_574.out
  have hms177_2 := NB632_579.out
  have hms177_3 := NB632_587.out
  have hms177_4 := NB632_588.out
  have hms177_5 := NB632_594.out
  have hs178 := bkc1 BK632
  have hfs178 := bkF BK632.out 1
  have hns178_0 := NB573_632.out
  have hns178_1 := NB574_632.out
  have hns178_2 := NB579_632.out
  have hns178_3 := NB587_632.out
  have hns178_4 := NB588_632.out
  have hns178_5 := NB594_632.out
  have hms178_0 := NB632_573.out
  have hms178_1 := NB632_574.out
  have hms178_2 := NB632_579.out
  have hms178_3 := NB632_587.out
  have hms178_4 := NB632_588.out
  have hms178_5 := NB632_594.out
  refine skip_ (w1 := ?_) (by rfl) rfl ?_ ?_
  rotate_left
  ·go_simp
   rfl
  refine hK.out _ _ ⟨((cell_far (p := ⟨gb632, _, none⟩) z29_0 _).trans (((cell_far (p := ⟨gb632, _, none⟩) z29_0 _).trans (hHeld.1)))), ((cell_far (p := ⟨gb632, _, none⟩) z29_0 _).trans (((cell_far (p := ⟨gb632, _, none⟩) z29_0 _).trans (hHeld.2.1)))), ((cell_far (p := ⟨gb632, _, none⟩) z29_0 _).trans (((cell_far (p := ⟨gb632, _, none⟩) z29_0 _).trans (hHeld.2.2.1)))), ((cell_far (p := ⟨gb632, _, none⟩) z29_0 _).trans (((cell_far (p := ⟨gb632, _, none⟩) z29_0 _).trans (hHeld.2.2.2))))⟩ (fun hHeld => ?_)
  clear hK K
  refine pu (i := 12) (N := some 21) #[T,T,T,T,T,T,T,T,T,T,T,T,T] (any_of HT_.out z29_1) ?_
  refine done_ (done_of HT_.out z29_1) ?_
  try go_wp2
  have n0_ : Az (Kd.R k25 25 ((w176.setCell ⟨gb632, 0, none⟩ (.int .i64 t629)).setCell ⟨gb632, 1, none⟩ (.int .i64 t630)) w.heap.size (fun k_ => k_ ≠ gb573 ∧ k_ ≠ gb574 ∧ k_ ≠ gb579 ∧ k_ ≠ gb587 ∧ k_ ≠ gb588 ∧ k_ ≠ gb594 ∧ k_ ≠ gb632) (.slice (some ad627) t595.length co74) t595) := ⟨by (with_reducible repeat (first | apply Kd.R_alloc | apply Kd.R_drewN | apply Kd.R_drew)); exact Kd.R_mono (Kd.R_far (p := ⟨gb632, 1, none⟩) (Kd.R_far (p := ⟨gb632, 0, none⟩) (Kd.R_mono HO_13.out (fun k_ hk => (⟨hk, hk.2.2.2.2.2.2⟩ : _ ∧ k_ ≠ gb632))) (fun _ hk => hk.2) (.int .i64 t629)) (fun _ hk => hk.2) (.int .i64 t630)) (fun _ hk => ⟨hk.1.1, ⟨hk.1.2.1, ⟨hk.1.2.2.1, ⟨hk.1.2.2.2.1, ⟨hk.1.2.2.2.2.1, ⟨hk.1.2.2.2.2.2.1, hk.1.2.2.2.2.2.2⟩⟩⟩⟩⟩⟩)⟩
  have n1_ : Az (((w176.setCell ⟨gb632, 0, none⟩ (.int .i64 t629)).setCell ⟨gb632, 1, none⟩ (.int .i64 t630)).heap[gb573]? = some (.cells #[.int .i64 t569, .int .i64 t570] 25 (0, 0))) := ⟨bkv⟩
  have n2_ : Az (((w176.setCell ⟨gb632, 0, none⟩ (.int .i64 t629)).setCell ⟨gb632, 1, none⟩ (.int .i64 t630)).heap[gb574]? = some (.cells #[.int .i64 t571, .int .i64 t572] 25 (0, 0))) := ⟨bkv⟩
  have n3_ : Az (((w176.setCell ⟨gb632, 0, none⟩ (.int .i64 t629)).setCell ⟨gb632, 1, none⟩ (.int .i64 t630)).heap[gb579]? = some (.cells #[.int .i64 t576, .int .i64 t577] 25 (0, 0))) := ⟨bkv⟩
  have n4_ : Az (((w176.setCell ⟨gb632, 0, none⟩ (.int .i64 t629)).setCell ⟨gb632, 1, none⟩ (.int .i64 t630)).heap[gb587]? = some (.cells #[.int .i64 t583, .int .i64 t584] 25 (0, 0))) := ⟨bkv⟩
  have n5_ : Az (((w176.setCell ⟨gb632, 0, none⟩ (.int .i64 t629)).setCell ⟨gb632, 1, none⟩ (.int .i64 t630)).heap[gb588]? = some (.cells #[.int .i64 t585, .int .i64 t586] 25 (0, 0))) := ⟨bkv⟩
  have n6_ : Az (((w176.setCell ⟨gb632, 0, none⟩ (.int .i64 t629)).setCell ⟨gb632, 1, none⟩ (.int .i64 t630)).heap[gb594]? = some (.cells #[.int .i64 t592, .int .i64 t593] 25 (0, 0))) := ⟨bkv⟩
  have n7_ : Az (((w176.setCell ⟨gb632, 0, none⟩ (.int .i64 t629)).setCell ⟨gb632, 1, none⟩ (.int .i64 t630)).heap[gb632]? = some (.cells #[.int .i64 t629, .int .i64 t630] 25 (0, 0))) := ⟨bkv⟩
  have n8_ : Az (Below w.heap.size w ((w176.setCell ⟨gb632, 0, none⟩ (.int .i64 t629)).setCell ⟨gb632, 1, none⟩ (.int .i64 t630))) := ⟨bw_29⟩
  (try clear HO_13)
  (try clear BK573)
  (try clear BK574)
  (try clear BK579)
  (try clear BK587)
  (try clear BK588)
  (try clear BK594)
  (try clear BK632)
  (try clear HB)
  generalize ((w176.setCell ⟨gb632, 0, none⟩ (.int .i64 t629)).setCell ⟨gb632, 1, none⟩ (.int .i64 t630)) = w179 at n0_ n1_ n2_ n3_ n4_ n5_ n6_ n7_ n8_ ⊢
  have HO_13 := n0_
  have BK573 := n1_
  have BK574 := n2_
  have BK579 := n3_
  have BK587 := n4_
  have BK588 := n5_
  have BK594 := n6_
  have BK632 := n7_
  have HB := n8_
  clear n0_ n1_ n2_ n3_ n4_ n5_ n6_ n7_ n8_
  replace HO_13 := Az.mk (Kd.R_drew HO_13.out); replace BK573 := Az.mk (bkD BK573.out); replace BK574 := Az.mk (bkD BK574.out); replace BK579 := Az.mk (bkD BK579.out); replace BK587 := Az.mk (bkD BK587.out); replace BK588 := Az.mk (bkD BK588.out); replace BK594 := Az.mk (bkD BK594.out); replace BK632 := Az.mk (bkD BK632.out); replace HB := Az.mk (bwD HB.out)
  have p633 : 0 ≤ (0 : Int) := (by omega)
  have q633 : 0 < (t595.length : Int) := of_decide_eq_true (by first | (with_reducible assumption) | assumption)
  obtain ⟨ad633, e633, hx633_0, hx633_1⟩ := at_T25 (Kd.R_reads' HO_13.out).2.2 0 p633 q633
  obtain rfl : ad627 = ad633 := (by injection e633)
  have qi633 : (0 < t595.length) = True := eq_true (by omega)
  (try rw [show ((0 : Int)).toNat = 0 from rfl] at hx633_0)
  (try rw [show 0 * 2 = 0 from rfl] at hx633_0)
  (try rw [Addr.add_zero'] at hx633_0)
  (try rw [show ((0 : Int)).toNat = 0 from rfl] at hx633_1)
  (try rw [show 0 * 2 = 0 from rfl] at hx633_1)
  (try rw [Addr.add_zero'] at hx633_1)
  replace p633 := eq_true p633
  replace q633 := eq_true q633
  have p634 : 0 ≤ (1 : Int) := (by omega)
  have q634 : 1 < (t595.length : Int) := of_decide_eq_true (by first | (with_reducible assumption) | assumption)
  obtain ⟨ad634, e634, hx634_0, hx634_1⟩ := at_T25 (Kd.R_reads' HO_13.out).2.2 1 p634 q634
  obtain rfl : ad627 = ad634 := (by injection e634)
  (try simp only [show (1 : Int).toNat = 1 from rfl, Nat.reduceMul, Nat.reduceEqDiff, Go.Addr.add, ↓reduceIte] at hx634_0)
  (try simp only [show (1 : Int).toNat = 1 from rfl, Nat.reduceMul, Nat.reduceEqDiff, Go.Addr.add, ↓reduceIte] at hx634_1)
  have qi634 : (1 < t595.length) = True := eq_true (by omega)
  (try rw [show ((1 : Int)).toNat = 1 from rfl] at hx634_0)
  (try rw [show 1 * 2 = 2 from rfl] at hx634_0)
  (try rw [show ((1 : Int)).toNat = 1 from rfl] at hx634_1)
  (try rw [show 1 * 2 = 2 from rfl] at hx634_1)
  replace p634 := eq_true p634
  replace q634 := eq_true q634
  refine start_ (n := 21) (S := fun w' => w'.cell? ⟨gb632, 0, none⟩ = some (.int .i64 t629) ∧ w'.cell? ⟨gb632, 1, none⟩ = some (.int .i64 t630) ∧ w'.cell? ⟨gb594, 0, none⟩ = some (.int .i64 t592) ∧ w'.cell? ⟨gb594, 1, none⟩ = some (.int .i64 t593) ∧ w'.cell? ad627 = some (.int .i64 ((rd_T25 t595 0).f0)) ∧ w'.cell? ⟨ad627.block, ad627.off + 1, none⟩ = some (.int .i64 ((rd_T25 t595 0).f1)) ∧ w'.cell? ⟨ad627.block, ad627.off + 2, none⟩ = some (.int .i64 ((rd_T25 t595 1).f0)) ∧ w'.cell? ⟨ad627.block, ad627.off + 2 + 1, none⟩ = some (.int .i64 ((rd_T25 t595 1).f1))) (ds := []) #[F,F,F,F,F,F,F,F,F,F,F,F,F,F,F,F,F,F,F,F,F] z29_1 rfl rfl ⟨(bkC BK632.out 0).trans rfl, (bkC BK632.out 1).trans rfl, (bkC BK594.out 0).trans rfl, (bkC BK594.out 1).trans rfl, hx633_0, hx633_1, hx634_0, hx634_1⟩ (fun hHeld => ?_); refine with_tabW laws_FnFarey.tab29 laws_FnFarey.bits29 (fun HT_ HW_ => ?_)
  generalize w179.drew = w180 at HO_13 BK573 BK574 BK579 BK587 BK588 BK594 BK632 HB hx633_0 hx633_1 hx634_0 hx634_1 hHeld ⊢
  refine pu (i := 0) (N := some 202) #[T,F,F,F,F,F,F,F,F,F,F,F,F,F,F,F,F,F,F,F,F] (any_of HT_.out z29_1) ?_
  refine pu (i := 1) (N := some 203) #[T,T,F,F,F,F,F,F,F,F,F,F,F,F,F,F,F,F,F,F,F] (any_of HT_.out z29_1) ?_
  refine pu (i := 2) (N := some 204) #[T,T,T,F,F,F,F,F,F,F,F,F,F,F,F,F,F,F,F,F,F] (any_of HT_.out z29_1) ?_
  refine take_ (i := 3) (N := some 205) (v := ?_) (a' := ?_) #[T,T,T,T,F,F,F,F,F,F,F,F,F,F,F,F,F,F,F,F,F] rfl rfl (take_ofW HT_.out HW_.out z29_1) (fun _ _ _ h => h) (Or.inl ⟨by rfl, ?_⟩) hHeld ?_ ?_
  rotate_left
  ·rintro w' ⟨s0, s1, s2, s3, s4, s5, s6, s7⟩
   go_simp
   with_reducible rfl
  rotate_left
  ·exact acq
  refine take_ (i := 4) (N := some 206) (v := ?_) (a' := ?_) #[T,T,T,T,T,F,F,F,F,F,F,F,F,F,F,F,F,F,F,F,F] rfl rfl (take_ofW HT_.out HW_.out z29_1) (fun _ _ _ h => h) (Or.inl ⟨by rfl, ?_⟩) hHeld ?_ ?_
  rotate_left
  ·rintro w' ⟨s0, s1, s2, s3, s4, s5, s6, s7⟩
   go_simp
   with_reducible rfl
  rotate_left
  ·exact acq
  refine pu (i := 5) (N := some 207) #[T,T,T,T,T,T,F,F,F,F,F,F,F,F,F,F,F,F,F,F,F] (any_of HT_.out z29_1) ?_
  refine pu (i := 6) (N := some 208) #[T,T,T,T,T,T,T,F,F,F,F,F,F,F,F,F,F,F,F,F,F] (any_of HT_.out z29_1) ?_
  refine pu (i := 7) (N := some 209) #[T,T,T,T,T,T,T,T,F,F,F,F,F,F,F,F,F,F,F,F,F] (any_of HT_.out z29_1) ?_
  refine pu (i := 8) (N := some 210) #[T,T,T,T,T,T,T,T,T,F,F,F,F,F,F,F,F,F,F,F,F] (any_of HT_.out z29_1) ?_
  refine pu (i := 9) (N := some 211) #[T,T,T,T,T,T,T,T,T,T,F,F,F,F,F,F,F,F,F,F,F] (any_of HT_.out z29_1) ?_
  refine pu (i := 10) (N := some 212) #[T,T,T,T,T,T,T,T,T,T,T,F,F,F,F,F,F,F,F,F,F] (any_of HT_.out z29_1) ?_
  refine pu (i := 12) (N := some 214) #[T,T,T,T,T,T,T,T,T,T,T,F,T,F,F,F,F,F,F,F,F] (any_of HT_.out z29_1) ?_
  refine pu (i := 13) (N := some 215) #[T,T,T,T,T,T,T,T,T,T,T,F,T,T,F,F,F,F,F,F,F] (any_of HT_.out z29_1) ?_
  refine pu (i := 14) (N := some 216) #[T,T,T,T,T,T,T,T,T,T,T,F,T,T,T,F,F,F,F,F,F] (any_of HT_.out z29_1) ?_
  refine pu (i := 17) (N := some 219) #[T,T,T,T,T,T,T,T,T,T,T,F,T,T,T,F,F,T,F,F,F] (any_of HT_.out z29_1) ?_
  refine take_ (i := 11) (N := some 213) (v := ?_) (a' := ?_) #[T,T,T,T,T,T,T,T,T,T,T,T,T,T,T,F,F,T,F,F,F] rfl rfl (take_ofW HT_.out HW_.out z29_1) (fun _ _ _ h => h) (Or.inl ⟨by rfl, ?_⟩) hHeld ?_ ?_
  rotate_left
  ·rintro w' ⟨s0, s1, s2, s3, s4, s5, s6, s7⟩
   go_simp
   with_reducible rfl
  rotate_left
  ·exact acq
  refine take_ (i := 15) (N := some 217) (v := ?_) (a' := ?_) #[T,T,T,T,T,T,T,T,T,T,T,T,T,T,T,T,F,T,F,F,F] rfl rfl (take_ofW HT_.out HW_.out z29_1) (fun _ _ _ h => h) (Or.inl ⟨by rfl, ?_⟩) hHeld ?_ ?_
  rotate_left
  ·rintro w' ⟨s0, s1, s2, s3, s4, s5, s6, s7⟩
   go_simp
   with_reducible rfl
  rotate_left
  ·exact acq
  refine pu (i := 16) (N := some 218) #[T,T,T,T,T,T,T,T,T,T,T,T,T,T,T,T,T,T,F,F,F] (any_of HT_.out z29_1) ?_
  refine take_ (i := 18) (N := some 220) (v := ?_) (a' := ?_) #[T,T,T,T,T,T,T,T,T,T,T,T,T,T,T,T,T,T,T,F,F] rfl rfl (take_ofW HT_.out HW_.out z29_1) (fun _ _ _ h => h) (Or.inl ⟨by rfl, ?_⟩) hHeld ?_ ?_
  rotate_left
  ·rintro w' ⟨s0, s1, s2, s3, s4, s5, s6, s7⟩
   go_simp
   with_reducible rfl
  rotate_left
  ·exact acq
  refine pu (i := 19) (N := some 221) #[T,T,T,T,T,T,T,T,T,T,T,T,T,T,T,T,T,T,T,T,F] (any_of HT_.out z29_1) ?_
  refine pu (i := 20) (N := some 222) #[T,T,T,T,T,T,T,T,T,T,T,T,T,T,T,T,T,T,T,T,T] (any_of HT_.out z29_1) ?_
  refine done_ (done_of HT_.out z29_1) ?_
  try go_wp2
  go_meet
  case rel => exact ⟨_, H', ⟨by have := HJ23.out; have := HK2.out; have := HJ149.out; first | omega | exact Nat.le_refl _⟩, ⟨bk1 BK573⟩, ⟨bk1 BK574⟩, ⟨bk1 BK579⟩, ⟨bk1 BK587⟩, ⟨bk1 BK588⟩, ⟨bk1 BK594⟩, ⟨bw_29⟩⟩
 clear HC165
 try clear c166
 try clear c167
 try clear c168
 try clear c170
 try clear c172
 try clear hx633_0
 try clear hx633_1
 try clear hx634_0
 try clear hx634_1
 try clear p633
 try clear p634
 try clear q633
 try clear q634
 obtain ⟨kq, HA, HJ164, BK573, BK574, BK579, BK587, BK588, BK594, HB⟩ := hcut
 cases kq with
 | zero => exact absurd HA.out (by simp [laws_FnFarey.j3])
 | succ kj164 =>
  have H := HA.out
  clear HA
  simp only [laws_FnFarey.j3] at H
  replace H := bez H
  obtain ⟨⟨t635, t636, t637, t638, t639, t640⟩, A181, H⟩ := H
  try dsimp only at H
  replace H := bez H
  obtain ⟨⟨t643, t644, t645⟩, A182, H⟩ := H
  try dsimp only at H
  replace H := bez H
  obtain ⟨⟨t647, t648, t649⟩, A183, H⟩ := H
  try dsimp only at H
  have HC184 := Az.mk H
  clear H
  rename_i Kt at_
  have AT := Az.mk at_
  clear at_
  exact AT.out _ _ (laws_FnFarey.p31 k A0 c0 l0 r w HR0 HC0 t569 t570 t571 t572 t575 t576 t577 t578 t580 t583 t584 t585 t586 t589 t592 t593 t595 t598 t599 t602 gb573 GE573 gb574 GE574 NB573_574 NB574_573 gb579 GE579 NB573_579 NB579_573 NB574_579 NB579_574 gb587 GE587 NB573_587 NB587_573 NB574_587 NB587_574 gb588 GE588 NB573_588 NB588_573 NB574_588 NB588_574 gb594 GE594 NB573_594 NB594_573 NB574_594 NB594_574 Ao67 co67 Ao72 co72 Ao74 co74 Ao75 co75 nd kj23 HJ23 wr u18 u19 x17_2 k2 HK2 kj149 HJ149 wc u2 u20 u21 u30 u31 u32 u33 u34 u35 u36 u37 u38 u39 u40 u41 u42 u43 u44 u45 u46 u47 u48 u49 u50 u51 u52 u53 u54 u55 u56 u57 u58 u59 u60 u61 u62 u63 u64 u65 u66 u67 u68 u69 u70 u71 u72 u73 u74 u75 u76 u77 u78 u79 u80 u81 u82 u83 u84 u85 u86 u87 u88 u89 u90 u91 u92 u93 u94 u95 u96 u97 u98 u99 u100 u101 u102 u103 u104 u105 u106 u107 u108 u109 u110 u111 u112 u113 u114 u115 u116 u117 u118 u119 u120 u121 u122 u123 u124 u125 u126 u127 u128 u129 u130 u131 u132 u133 u134 u135 u136 u137 u138 u139 u140 u141 u142 u143 u144 u145 u146 u147 u148 u149 u150 u151 u152 u153 u154 u155 u156 u157 u158 u159 u160 u161 u162 u163 u164 u165 u166 u167 u168 u169 u170 u171 u172 u173 u174 u175 u176 u177 u178 u179 u180 u181 u182 u183 u184 u185 u186 u187 u188 u189 u190 u191 u192 u193 u194 u195 u196 u197 u198 u199 u200 u201 u202 u203 u204 u205 u206 u207 u208 u209 u210 u211 u212 u213 u214 u215 u216 u217 u218 u219 u220 u221 u222 u223 u224 u225 u226 u227 u228 u229 u230 u231 u232 u233 u234 u235 u236 u237 u238 u239 u240 u241 u242 u243 u244 u245 u246 u247 u248 u249 u250 u251 u252 u253 u254 u255 u256 u257 u258 u259 u260 u261 u262 u263 u264 u265 u266 u267 u268 u269 u270 u271 u272 u273 u274 u275 u276 u277 u278 u279 u280 u281 u282 u283 u284 u285 u286 u287 u288 u289 u290 u291 u292 u293 u294 u295 u296 u297 u298 u299 u300 u301 u302 u303 u304 u305 u306 u307 u308 u309 u310 u311 u312 u313 u314 u315 u316 u317 u318 u319 u320 u321 u322 u323 u324 u325 u326 u327 u328 u329 u330 BK573 BK574 BK579 BK587 BK588 BK594 HB kj164 HJ164 t635 t636 t637 t638 t639 t640 A181 t643 t644 t645 A182 t647 t648 t649 A183 HC184)
end Go.Proofs.Ytigcjehokbgclaa.P
