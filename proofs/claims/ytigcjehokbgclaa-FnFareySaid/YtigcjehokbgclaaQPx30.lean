-- By this session's driver (wip/tools/mk.py) of the kit's print program, over several statements at once. Not trusted: Lean checks it.
import Derived.Test.YtigcjehokbgclaaQWZip
import Derived.Test.YtigcjehokbgclaaQPx0
import Derived.Test.YtigcjehokbgclaaQPx2
import Derived.Test.YtigcjehokbgclaaQPx5
import Derived.Test.YtigcjehokbgclaaQPx7
import Derived.Test.YtigcjehokbgclaaQPx8
import Derived.Test.YtigcjehokbgclaaQPx9
import Derived.Test.YtigcjehokbgclaaQPx10
import Derived.Test.YtigcjehokbgclaaQPx11
import Derived.Test.YtigcjehokbgclaaQPx12
import Derived.Test.YtigcjehokbgclaaQPx13
import Derived.Test.YtigcjehokbgclaaQPx15
import Derived.Test.YtigcjehokbgclaaQPx16
import Derived.Test.YtigcjehokbgclaaQPx19
import Derived.Test.YtigcjehokbgclaaQPx20
import Derived.Test.YtigcjehokbgclaaQPx22
import Derived.Test.YtigcjehokbgclaaQPx23
import Derived.Test.YtigcjehokbgclaaQPx24
import Derived.Test.YtigcjehokbgclaaQPx29
namespace Go.Proofs.Ytigcjehokbgclaa.P
open Go.RowKit Go.Proofs.YtigcjehokbgclaaW.PrintWords Go.Proofs.YtigcjehokbgclaaW.PrintLast Go.Proofs.YtigcjehokbgclaaW.PrintMore
attribute [local go_sem] max2_int min2_int max_two min_two max_three min_three max_four min_four   -- for this text's walks alone
set_option linter.unusedVariables false
set_option linter.unusedSimpArgs false
open Bool renaming true → T, false → F
theorem bw_30 {n : Nat} {v v' : World} (h : Below n v v' := by repeat (first | (with_reducible first | exact HB.out | apply bwA | apply pbN | apply bwD | refine bwS ?_ GE573.out | refine bwS ?_ GE574.out | refine bwS ?_ GE579.out | refine bwS ?_ GE587.out | refine bwS ?_ GE588.out | refine bwS ?_ GE594.out) | exact HB.out)) : Below n v v' := h
theorem z30_0 {p : Prop} (h : p := by kernel_rfl) : p := h

attribute [local go_sem high] eqA25
set_option maxHeartbeats 8000000 in
set_option maxRecDepth 100000 in
theorem laws_FnFarey.p25 (k : Nat) (A0 : Option Addr) (c0 : Nat) (l0 : List Int) (r : Bool) (w : World) (HR0 : Az (Kd.C (Kd.int IntKind.u8) w A0 (List.length l0) l0)) (HC0 : Az (List.length l0 ≤ c0)) (t569 t570 t571 t572 t575 t576 t577 t578 : Int) (t580 : List S25) (t583 t584 t585 t586 : Int) (t589 : List S25) (t592 t593 : Int) (t595 : List S25) (t598 : Bool) (t599 : List S25) (t602 : Bool) (gb573 : Nat) (GE573 : Az (w.heap.size ≤ gb573)) (gb574 : Nat) (GE574 : Az (w.heap.size ≤ gb574)) (NB573_574 : Az (gb573 ≠ gb574)) (NB574_573 : Az (gb574 ≠ gb573)) (gb579 : Nat) (GE579 : Az (w.heap.size ≤ gb579)) (NB573_579 : Az (gb573 ≠ gb579)) (NB579_573 : Az (gb579 ≠ gb573)) (NB574_579 : Az (gb574 ≠ gb579)) (NB579_574 : Az (gb579 ≠ gb574)) (gb587 : Nat) (GE587 : Az (w.heap.size ≤ gb587)) (NB573_587 : Az (gb573 ≠ gb587)) (NB587_573 : Az (gb587 ≠ gb573)) (NB574_587 : Az (gb574 ≠ gb587)) (NB587_574 : Az (gb587 ≠ gb574)) (gb588 : Nat) (GE588 : Az (w.heap.size ≤ gb588)) (NB573_588 : Az (gb573 ≠ gb588)) (NB588_573 : Az (gb588 ≠ gb573)) (NB574_588 : Az (gb574 ≠ gb588)) (NB588_574 : Az (gb588 ≠ gb574)) (gb594 : Nat) (GE594 : Az (w.heap.size ≤ gb594)) (NB573_594 : Az (gb573 ≠ gb594)) (NB594_573 : Az (gb594 ≠ gb573)) (NB574_594 : Az (gb574 ≠ gb594)) (NB594_574 : Az (gb594 ≠ gb574)) (Ao67 : Option Addr) (co67 : Nat) (Ao72 : Option Addr) (co72 : Nat) (Ao74 : Option Addr) (co74 : Nat) (Ao75 : Option Addr) (co75 nd : Nat) (wc : World) (u30 u31 u32 u33 u34 u35 u36 u37 u38 u39 u40 u41 u42 u43 u44 u45 u46 u47 u48 u49 u50 u51 u52 u53 u54 u55 u56 u57 u58 u59 u60 u61 u62 u63 u64 u65 u66 u67 u68 u69 u70 u71 u72 u73 u74 u75 u76 u77 u78 u79 u80 u81 u82 u83 u84 u85 u86 u87 u88 u89 u90 u91 u92 u93 u94 u95 u96 u97 u98 u99 u100 u101 u102 u103 u104 u105 u106 u107 u108 u109 u110 u111 u112 u113 u114 u115 u116 u117 u118 u119 u120 u121 u122 u123 u124 u162 u163 u164 u165 u166 u167 u168 u169 u170 u171 u172 u173 u174 u175 u176 u177 u178 u179 u180 u181 u182 u183 u184 u185 u186 u187 u188 u189 u190 u191 u192 u193 u194 u195 u196 u197 u198 u199 u200 u201 u202 u203 u204 u205 u206 u207 u208 u209 u210 u211 u212 u213 u214 u215 u216 u217 u218 u219 u220 u221 u222 u223 u224 u225 u226 u227 u228 u229 u230 u231 u232 u233 u234 u235 u236 u237 u238 u239 u240 u241 u242 u243 u244 u245 u246 u247 u248 u249 u250 u251 u252 u253 u254 u255 u256 u257 u258 u259 u260 u261 u262 u263 u264 u265 u266 u267 u268 u269 u270 u271 u272 u273 u274 u275 u276 u277 u278 u279 u280 u281 u282 u283 u284 u285 u286 u287 u288 u289 u290 u291 u292 u293 u294 u295 u296 u297 u298 u299 u300 u301 u302 u303 u304 u305 u306 u307 u308 u309 u310 u311 u312 u313 u314 u315 u316 u317 u318 u319 u320 u321 u322 u323 u324 u325 u326 u327 u328 u329 u330 : Value) (kj23 : Nat) (HJ23 : Az (kj23 + 1 ≤ k)) (wr : World) (u2 u18 u19 u130 u131 u132 u133 u134 u135 u136 u137 u138 u139 u140 u141 u142 u143 u144 u145 u146 u147 u148 u149 u150 u151 u152 u153 u154 u155 u156 u157 u158 u159 u160 u161 : Value) (x17_2 : Int) (HO_8 : Az (Kd.R k25 25 wr (w.heap.size) (fun (k_ : Nat) => some k_ ≠ Value.ownBlock (Value.slice Ao72 (List.length t589) co72) ∧ some k_ ≠ Value.ownBlock (Value.slice Ao74 (List.length t595) co74) ∧ k_ ≠ gb573 ∧ k_ ≠ gb574 ∧ k_ ≠ gb579 ∧ k_ ≠ gb587 ∧ k_ ≠ gb588 ∧ k_ ≠ gb594) (Value.slice Ao67 (List.length t580) co67) t580)) (HO_11 : Az (Kd.R k25 25 wr (w.heap.size) (fun (k_ : Nat) => some k_ ≠ Value.ownBlock (Value.slice Ao67 (List.length t580) co67) ∧ some k_ ≠ Value.ownBlock (Value.slice Ao74 (List.length t595) co74) ∧ k_ ≠ gb573 ∧ k_ ≠ gb574 ∧ k_ ≠ gb579 ∧ k_ ≠ gb587 ∧ k_ ≠ gb588 ∧ k_ ≠ gb594) (Value.slice Ao72 (List.length t589) co72) t589)) (HO_13 : Az (Kd.R k25 25 wr (w.heap.size) (fun (k_ : Nat) => some k_ ≠ Value.ownBlock (Value.slice Ao67 (List.length t580) co67) ∧ some k_ ≠ Value.ownBlock (Value.slice Ao72 (List.length t589) co72) ∧ k_ ≠ gb573 ∧ k_ ≠ gb574 ∧ k_ ≠ gb579 ∧ k_ ≠ gb587 ∧ k_ ≠ gb588 ∧ k_ ≠ gb594) (Value.slice Ao74 (List.length t595) co74) t595)) (BK573 : Az ((World.heap wr)[gb573]? = some (Obj.cells #[Value.int IntKind.i64 t569, Value.int IntKind.i64 t570] 25))) (BK574 : Az ((World.heap wr)[gb574]? = some (Obj.cells #[Value.int IntKind.i64 t571, Value.int IntKind.i64 t572] 25))) (BK579 : Az ((World.heap wr)[gb579]? = some (Obj.cells #[Value.int IntKind.i64 t576, Value.int IntKind.i64 t577] 25))) (BK587 : Az ((World.heap wr)[gb587]? = some (Obj.cells #[Value.int IntKind.i64 t583, Value.int IntKind.i64 t584] 25))) (BK588 : Az ((World.heap wr)[gb588]? = some (Obj.cells #[Value.int IntKind.i64 t585, Value.int IntKind.i64 t586] 25))) (BK594 : Az ((World.heap wr)[gb594]? = some (Obj.cells #[Value.int IntKind.i64 t592, Value.int IntKind.i64 t593] 25))) (HB : Az (Below (w.heap.size) w wr)) (k2 : Nat) (HK2 : Az (k2 + 1 ≤ kj23)) (HC150 : Az ((if (↑(List.length t589) : Int) = 2 then if 0 < (↑(List.length t589) : Int) then if 1 < (↑(List.length t589) : Int) then Option.bind (spec_CrossNumber.f k2 (S25.f0 (rd_T25 t589 0)) (S25.f1 (rd_T25 t589 0)) (S25.f0 (rd_T25 t589 1)) (S25.f1 (rd_T25 t589 1))) fun (t622 : Int) => if t622 = 2 then Option.bind (spec_CrossNumber.f k2 (S25.f0 (rd_T25 t589 0)) (S25.f1 (rd_T25 t589 0)) t583 t584) fun (t624 : Int) => if t624 = 1 then Option.bind (spec_CrossNumber.f k2 (S25.f0 (rd_T25 t589 1)) (S25.f1 (rd_T25 t589 1)) t585 t586) fun (t626 : Int) => laws_FnFarey.j2 k2 l0 t575 t595 t598 (t626 != 1) t569 t570 t571 t572 t592 t593 else none else none else none else none else laws_FnFarey.j2 k2 l0 t575 t595 t598 false t569 t570 t571 t572 t592 t593) = some r)) :
  Code.wp Try.prog (tailOf (Try.f3.body.getD .skip) 14) (bodyPost Try.prog Try.f3 (fun e w' => e = .returned (.bool r) ∧ Below w.heap.size w w')) ⟨#[Value.slice A0 (List.length l0) c0, undef, u2, Value.pointer (some ⟨gb573, 0, none⟩), Value.pointer (some ⟨gb574, 0, none⟩), Value.int IntKind.i64 t575, Value.pointer (some ⟨gb579, 0, none⟩), Value.int IntKind.i64 t578, Value.slice Ao67 (List.length t580) co67, Value.pointer (some ⟨gb587, 0, none⟩), Value.pointer (some ⟨gb588, 0, none⟩), Value.slice Ao72 (List.length t589) co72, Value.pointer (some ⟨gb594, 0, none⟩), Value.slice Ao74 (List.length t595) co74, Value.bool t598, Value.slice Ao75 (List.length t599) co75, Value.bool t602, Value.int IntKind.i64 x17_2, u18, u19, undef, undef, undef, undef, undef, undef, undef, undef, undef, undef, u30, u31, u32, u33, u34, u35, u36, u37, u38, u39, u40, u41, u42, u43, u44, u45, u46, u47, u48, u49, u50, u51, u52, u53, u54, u55, u56, u57, u58, u59, u60, u61, u62, u63, u64, u65, u66, u67, u68, u69, u70, u71, u72, u73, u74, u75, u76, u77, u78, u79, u80, u81, u82, u83, u84, u85, u86, u87, u88, u89, u90, u91, u92, u93, u94, u95, u96, u97, u98, u99, u100, u101, u102, u103, u104, u105, u106, u107, u108, u109, u110, u111, u112, u113, u114, u115, u116, u117, u118, u119, u120, u121, u122, u123, u124, Value.bool false, Value.int IntKind.i64 x17_2, Value.slice Ao67 (List.length t580) co67, Value.int IntKind.i64 (↑(List.length t580) : Int), Value.bool false, u130, u131, u132, u133, u134, u135, u136, u137, u138, u139, u140, u141, u142, u143, u144, u145, u146, u147, u148, u149, u150, u151, u152, u153, u154, u155, u156, u157, u158, u159, u160, u161, u162, u163, u164, u165, u166, u167, u168, u169, u170, u171, u172, u173, u174, u175, u176, u177, u178, u179, u180, u181, u182, u183, u184, u185, u186, u187, u188, u189, u190, u191, u192, u193, u194, u195, u196, u197, u198, u199, u200, u201, u202, u203, u204, u205, u206, u207, u208, u209, u210, u211, u212, u213, u214, u215, u216, u217, u218, u219, u220, u221, u222, u223, u224, u225, u226, u227, u228, u229, u230, u231, u232, u233, u234, u235, u236, u237, u238, u239, u240, u241, u242, u243, u244, u245, u246, u247, u248, u249, u250, u251, u252, u253, u254, u255, u256, u257, u258, u259, u260, u261, u262, u263, u264, u265, u266, u267, u268, u269, u270, u271, u272, u273, u274, u275, u276, u277, u278, u279, u280, u281, u282, u283, u284, u285, u286, u287, u288, u289, u290, u291, u292, u293, u294, u295, u296, u297, u298, u299, u300, u301, u302, u303, u304, u305, u306, u307, u308, u309, u310, u311, u312, u313, u314, u315, u316, u317, u318, u319, u320, u321, u322, u323, u324, u325, u326, u327, u328, u329, u330], []⟩ wr := by
 (try dsimp only)
 conv => arg 2; whnf
 go_upto_region 25 with (fail)
 go_cut [190] (fun v190 wc => ∃ (kq : Nat) (x190_149 : Bool), v190 = .bool x190_149 ∧ Az (laws_FnFarey.j2 kq l0 t575 t595 t598 x190_149 t569 t570 t571 t572 t592 t593 = some r) ∧ Az (kq ≤ k2) ∧ Az (Kd.R k25 25 wc w.heap.size (fun k_ => k_ ≠ gb573 ∧ k_ ≠ gb574 ∧ k_ ≠ gb579 ∧ k_ ≠ gb587 ∧ k_ ≠ gb588 ∧ k_ ≠ gb594) (.slice Ao74 t595.length co74) t595) ∧ Az (wc.heap[gb573]? = some (.cells #[.int .i64 t569, .int .i64 t570] 25 (0, 0))) ∧ Az (wc.heap[gb574]? = some (.cells #[.int .i64 t571, .int .i64 t572] 25 (0, 0))) ∧ Az (wc.heap[gb579]? = some (.cells #[.int .i64 t576, .int .i64 t577] 25 (0, 0))) ∧ Az (wc.heap[gb587]? = some (.cells #[.int .i64 t583, .int .i64 t584] 25 (0, 0))) ∧ Az (wc.heap[gb588]? = some (.cells #[.int .i64 t585, .int .i64 t586] 25 (0, 0))) ∧ Az (wc.heap[gb594]? = some (.cells #[.int .i64 t592, .int .i64 t593] 25 (0, 0))) ∧ Az (Below w.heap.size w wc))
 case first =>
  have H := HC150.out
  clear HC150
  by_cases c151 : (t589.length : Int) = 2
  rotate_left
  ·rw [if_neg c151] at H
   have c151b0 : ((t589.length : Int) == 2) = false := beq_eq_false_iff_ne.mpr c151
   have c151b1 : ((t589.length : Int) != 2) = true := bne_iff_ne.mpr c151
   (first | rw [c151b0] | (simp only [i64_w, i32_w]; rw [c151b0]) | skip)
   have H' := Az.mk H
   clear H
   try go_wp2
   replace HO_8 := Az.mk (Kd.R_drew HO_8.out); replace HO_11 := Az.mk (Kd.R_drew HO_11.out); replace HO_13 := Az.mk (Kd.R_drew HO_13.out); replace BK573 := Az.mk (bkD BK573.out); replace BK574 := Az.mk (bkD BK574.out); replace BK579 := Az.mk (bkD BK579.out); replace BK587 := Az.mk (bkD BK587.out); replace BK588 := Az.mk (bkD BK588.out); replace BK594 := Az.mk (bkD BK594.out); replace HB := Az.mk (bwD HB.out)
   refine start_ (n := 29) (S := fun w' => True) (ds := []) #[F,F,F,F,F,F,F,F,F,F,F,F,F,F,F,F,F,F,F,F,F,F,F,F,F,F,F,F,F] z30_0 rfl rfl trivial (fun hHeld => ?_); refine with_tabW laws_FnFarey.tab25 laws_FnFarey.bits25 (fun HT_ HW_ => ?_)
   generalize wr.drew = w163 at HO_8 HO_11 HO_13 BK573 BK574 BK579 BK587 BK588 BK594 HB hHeld ⊢
   refine pu (i := 0) (N := some 162) #[T,F,F,F,F,F,F,F,F,F,F,F,F,F,F,F,F,F,F,F,F,F,F,F,F,F,F,F,F] (any_of HT_.out z30_0) ?_
   refine pu (i := 1) (N := some 163) #[T,T,F,F,F,F,F,F,F,F,F,F,F,F,F,F,F,F,F,F,F,F,F,F,F,F,F,F,F] (any_of HT_.out z30_0) ?_
   refine pu (i := 2) (N := some 164) #[T,T,T,F,F,F,F,F,F,F,F,F,F,F,F,F,F,F,F,F,F,F,F,F,F,F,F,F,F] (any_of HT_.out z30_0) ?_
   refine pu (i := 3) (N := some 165) #[T,T,T,T,F,F,F,F,F,F,F,F,F,F,F,F,F,F,F,F,F,F,F,F,F,F,F,F,F] (any_of HT_.out z30_0) ?_
   refine pure_ (i := 4) (N := some 166) (v := undef) (a' := ?_) #[T,T,T,T,T,F,F,F,F,F,F,F,F,F,F,F,F,F,F,F,F,F,F,F,F,F,F,F,F] rfl rfl (any_of HT_.out z30_0) (fun _ _ _ h => h) (Or.inr ⟨by rfl, rfl⟩) ?_ ?_
   rotate_left
   ·exact acq
   refine pure_ (i := 5) (N := some 167) (v := undef) (a' := ?_) #[T,T,T,T,T,T,F,F,F,F,F,F,F,F,F,F,F,F,F,F,F,F,F,F,F,F,F,F,F] rfl rfl (any_of HT_.out z30_0) (fun _ _ _ h => h) (Or.inr ⟨by rfl, rfl⟩) ?_ ?_
   rotate_left
   ·exact acq
   refine pure_ (i := 6) (N := some 168) (v := undef) (a' := ?_) #[T,T,T,T,T,T,T,F,F,F,F,F,F,F,F,F,F,F,F,F,F,F,F,F,F,F,F,F,F] rfl rfl (any_of HT_.out z30_0) (fun _ _ _ h => h) (Or.inr ⟨by rfl, rfl⟩) ?_ ?_
   rotate_left
   ·exact acq
   refine pure_ (i := 7) (N := some 169) (v := undef) (a' := ?_) #[T,T,T,T,T,T,T,T,F,F,F,F,F,F,F,F,F,F,F,F,F,F,F,F,F,F,F,F,F] rfl rfl (any_of HT_.out z30_0) (fun _ _ _ h => h) (Or.inr ⟨by rfl, rfl⟩) ?_ ?_
   rotate_left
   ·exact acq
   refine pure_ (i := 8) (N := some 170) (v := undef) (a' := ?_) #[T,T,T,T,T,T,T,T,T,F,F,F,F,F,F,F,F,F,F,F,F,F,F,F,F,F,F,F,F] rfl rfl (any_of HT_.out z30_0) (fun _ _ _ h => h) (Or.inr ⟨by rfl, rfl⟩) ?_ ?_
   rotate_left
   ·exact acq
   refine pure_ (i := 9) (N := some 171) (v := undef) (a' := ?_) #[T,T,T,T,T,T,T,T,T,T,F,F,F,F,F,F,F,F,F,F,F,F,F,F,F,F,F,F,F] rfl rfl (any_of HT_.out z30_0) (fun _ _ _ h => h) (Or.inr ⟨by rfl, rfl⟩) ?_ ?_
   rotate_left
   ·exact acq
   refine pure_ (i := 10) (N := some 172) (v := undef) (a' := ?_) #[T,T,T,T,T,T,T,T,T,T,T,F,F,F,F,F,F,F,F,F,F,F,F,F,F,F,F,F,F] rfl rfl (any_of HT_.out z30_0) (fun _ _ _ h => h) (Or.inr ⟨by rfl, rfl⟩) ?_ ?_
   rotate_left
   ·exact acq
   refine pure_ (i := 11) (N := some 173) (v := undef) (a' := ?_) #[T,T,T,T,T,T,T,T,T,T,T,T,F,F,F,F,F,F,F,F,F,F,F,F,F,F,F,F,F] rfl rfl (any_of HT_.out z30_0) (fun _ _ _ h => h) (Or.inr ⟨by rfl, rfl⟩) ?_ ?_
   rotate_left
   ·exact acq
   refine pure_ (i := 12) (N := some 174) (v := undef) (a' := ?_) #[T,T,T,T,T,T,T,T,T,T,T,T,T,F,F,F,F,F,F,F,F,F,F,F,F,F,F,F,F] rfl rfl (any_of HT_.out z30_0) (fun _ _ _ h => h) (Or.inr ⟨by rfl, rfl⟩) ?_ ?_
   rotate_left
   ·exact acq
   refine pure_ (i := 13) (N := some 175) (v := undef) (a' := ?_) #[T,T,T,T,T,T,T,T,T,T,T,T,T,T,F,F,F,F,F,F,F,F,F,F,F,F,F,F,F] rfl rfl (any_of HT_.out z30_0) (fun _ _ _ h => h) (Or.inr ⟨by rfl, rfl⟩) ?_ ?_
   rotate_left
   ·exact acq
   refine pure_ (i := 14) (N := some 176) (v := undef) (a' := ?_) #[T,T,T,T,T,T,T,T,T,T,T,T,T,T,T,F,F,F,F,F,F,F,F,F,F,F,F,F,F] rfl rfl (any_of HT_.out z30_0) (fun _ _ _ h => h) (Or.inr ⟨by rfl, rfl⟩) ?_ ?_
   rotate_left
   ·exact acq
   refine pure_ (i := 15) (N := some 177) (v := undef) (a' := ?_) #[T,T,T,T,T,T,T,T,T,T,T,T,T,T,T,T,F,F,F,F,F,F,F,F,F,F,F,F,F] rfl rfl (any_of HT_.out z30_0) (fun _ _ _ h => h) (Or.inr ⟨by rfl, rfl⟩) ?_ ?_
   rotate_left
   ·exact acq
   refine pure_ (i := 16) (N := some 178) (v := undef) (a' := ?_) #[T,T,T,T,T,T,T,T,T,T,T,T,T,T,T,T,T,F,F,F,F,F,F,F,F,F,F,F,F] rfl rfl (any_of HT_.out z30_0) (fun _ _ _ h => h) (Or.inr ⟨by rfl, rfl⟩) ?_ ?_
   rotate_left
   ·exact acq
   refine pure_ (i := 17) (N := some 179) (v := undef) (a' := ?_) #[T,T,T,T,T,T,T,T,T,T,T,T,T,T,T,T,T,T,F,F,F,F,F,F,F,F,F,F,F] rfl rfl (any_of HT_.out z30_0) (fun _ _ _ h => h) (Or.inr ⟨by rfl, rfl⟩) ?_ ?_
   rotate_left
   ·exact acq
   refine pure_ (i := 18) (N := some 180) (v := undef) (a' := ?_) #[T,T,T,T,T,T,T,T,T,T,T,T,T,T,T,T,T,T,T,F,F,F,F,F,F,F,F,F,F] rfl rfl (any_of HT_.out z30_0) (fun _ _ _ h => h) (Or.inr ⟨by rfl, rfl⟩) ?_ ?_
   rotate_left
   ·exact acq
   refine pure_ (i := 19) (N := some 181) (v := undef) (a' := ?_) #[T,T,T,T,T,T,T,T,T,T,T,T,T,T,T,T,T,T,T,T,F,F,F,F,F,F,F,F,F] rfl rfl (any_of HT_.out z30_0) (fun _ _ _ h => h) (Or.inr ⟨by rfl, rfl⟩) ?_ ?_
   rotate_left
   ·exact acq
   refine pure_ (i := 20) (N := some 182) (v := undef) (a' := ?_) #[T,T,T,T,T,T,T,T,T,T,T,T,T,T,T,T,T,T,T,T,T,F,F,F,F,F,F,F,F] rfl rfl (any_of HT_.out z30_0) (fun _ _ _ h => h) (Or.inr ⟨by rfl, rfl⟩) ?_ ?_
   rotate_left
   ·exact acq
   refine pure_ (i := 21) (N := some 183) (v := undef) (a' := ?_) #[T,T,T,T,T,T,T,T,T,T,T,T,T,T,T,T,T,T,T,T,T,T,F,F,F,F,F,F,F] rfl rfl (any_of HT_.out z30_0) (fun _ _ _ h => h) (Or.inr ⟨by rfl, rfl⟩) ?_ ?_
   rotate_left
   ·exact acq
   refine pure_ (i := 22) (N := some 184) (v := undef) (a' := ?_) #[T,T,T,T,T,T,T,T,T,T,T,T,T,T,T,T,T,T,T,T,T,T,T,F,F,F,F,F,F] rfl rfl (any_of HT_.out z30_0) (fun _ _ _ h => h) (Or.inr ⟨by rfl, rfl⟩) ?_ ?_
   rotate_left
   ·exact acq
   refine pure_ (i := 23) (N := some 185) (v := undef) (a' := ?_) #[T,T,T,T,T,T,T,T,T,T,T,T,T,T,T,T,T,T,T,T,T,T,T,T,F,F,F,F,F] rfl rfl (any_of HT_.out z30_0) (fun _ _ _ h => h) (Or.inr ⟨by rfl, rfl⟩) ?_ ?_
   rotate_left
   ·exact acq
   refine pure_ (i := 24) (N := some 186) (v := undef) (a' := ?_) #[T,T,T,T,T,T,T,T,T,T,T,T,T,T,T,T,T,T,T,T,T,T,T,T,T,F,F,F,F] rfl rfl (any_of HT_.out z30_0) (fun _ _ _ h => h) (Or.inr ⟨by rfl, rfl⟩) ?_ ?_
   rotate_left
   ·exact acq
   refine pure_ (i := 25) (N := some 187) (v := undef) (a' := ?_) #[T,T,T,T,T,T,T,T,T,T,T,T,T,T,T,T,T,T,T,T,T,T,T,T,T,T,F,F,F] rfl rfl (any_of HT_.out z30_0) (fun _ _ _ h => h) (Or.inr ⟨by rfl, rfl⟩) ?_ ?_
   rotate_left
   ·exact acq
   refine pure_ (i := 26) (N := some 188) (v := undef) (a' := ?_) #[T,T,T,T,T,T,T,T,T,T,T,T,T,T,T,T,T,T,T,T,T,T,T,T,T,T,T,F,F] rfl rfl (any_of HT_.out z30_0) (fun _ _ _ h => h) (Or.inr ⟨by rfl, rfl⟩) ?_ ?_
   rotate_left
   ·exact acq
   refine pure_ (i := 27) (N := some 189) (v := undef) (a' := ?_) #[T,T,T,T,T,T,T,T,T,T,T,T,T,T,T,T,T,T,T,T,T,T,T,T,T,T,T,T,F] rfl rfl (any_of HT_.out z30_0) (fun _ _ _ h => h) (Or.inr ⟨by rfl, rfl⟩) ?_ ?_
   rotate_left
   ·exact acq
   refine pu (i := 28) (N := some 190) #[T,T,T,T,T,T,T,T,T,T,T,T,T,T,T,T,T,T,T,T,T,T,T,T,T,T,T,T,T] (any_of HT_.out z30_0) ?_
   refine done_ (done_of HT_.out z30_0) ?_
   try go_wp2
   go_meet
   case rel => exact ⟨_, (false), rq2, H', ⟨by have := HJ23.out; have := HK2.out; first | omega | exact Nat.le_refl _⟩, ⟨by (with_reducible repeat (first | apply Kd.R_alloc | apply Kd.R_drewN | apply Kd.R_drew)); exact Kd.R_mono HO_13.out (fun _ hk => ⟨hk.2.2.1, ⟨hk.2.2.2.1, ⟨hk.2.2.2.2.1, ⟨hk.2.2.2.2.2.1, ⟨hk.2.2.2.2.2.2.1, hk.2.2.2.2.2.2.2⟩⟩⟩⟩⟩)⟩, ⟨bk1 BK573⟩, ⟨bk1 BK574⟩, ⟨bk1 BK579⟩, ⟨bk1 BK587⟩, ⟨bk1 BK588⟩, ⟨bk1 BK594⟩, ⟨bw_30⟩⟩
  rw [if_pos c151] at H
  have c151b0 : ((t589.length : Int) == 2) = true := beq_iff_eq.mpr c151
  have c151b1 : ((t589.length : Int) != 2) = false := bne_eq_false_iff_eq.mpr c151
  clear c151
  (first | rw [c151b0] | (simp only [i64_w, i32_w]; rw [c151b0]) | skip)
  by_cases c152 : 0 < (t589.length : Int)
  rotate_left
  ·rw [if_neg c152] at H
   exact absurd H (by simp)
  rw [if_pos c152] at H
  have c152b0 : decide (0 < (t589.length : Int)) = true := decide_eq_true c152
  have c152b1 : decide (0 < t589.length) = true := decide_eq_true (by omega)
  clear c152
  by_cases c153 : 1 < (t589.length : Int)
  rotate_left
  ·rw [if_neg c153] at H
   exact absurd H (by simp)
  rw [if_pos c153] at H
  have c153b0 : decide (1 < (t589.length : Int)) = true := decide_eq_true c153
  have c153b1 : decide (1 < t589.length) = true := decide_eq_true (by omega)
  clear c153
  replace H := bez H
  obtain ⟨t622, A154, H⟩ := H
  try dsimp only at H
  by_cases c155 : t622 = 2
  rotate_left
  ·rw [if_neg c155] at H
   have c155b0 : (t622 == 2) = false := beq_eq_false_iff_ne.mpr c155
   have c155b1 : (t622 != 2) = true := bne_iff_ne.mpr c155
   exact absurd H (by simp)
  rw [if_pos c155] at H
  have c155b0 : (t622 == 2) = true := beq_iff_eq.mpr c155
  have c155b1 : (t622 != 2) = false := bne_eq_false_iff_eq.mpr c155
  clear c155
  replace H := bez H
  obtain ⟨t624, A156, H⟩ := H
  try dsimp only at H
  by_cases c157 : t624 = 1
  rotate_left
  ·rw [if_neg c157] at H
   have c157b0 : (t624 == 1) = false := beq_eq_false_iff_ne.mpr c157
   have c157b1 : (t624 != 1) = true := bne_iff_ne.mpr c157
   exact absurd H (by simp)
  rw [if_pos c157] at H
  have c157b0 : (t624 == 1) = true := beq_iff_eq.mpr c157
  have c157b1 : (t624 != 1) = false := bne_eq_false_iff_eq.mpr c157
  clear c157
  replace H := bez H
  obtain ⟨t626, A158, H⟩ := H
  try dsimp only at H
  have H' := Az.mk H
  clear H
  try go_wp2
  replace HO_8 := Az.mk (Kd.R_drew HO_8.out); replace HO_11 := Az.mk (Kd.R_drew HO_11.out); replace HO_13 := Az.mk (Kd.R_drew HO_13.out); replace BK573 := Az.mk (bkD BK573.out); replace BK574 := Az.mk (bkD BK574.out); replace BK579 := Az.mk (bkD BK579.out); replace BK587 := Az.mk (bkD BK587.out); replace BK588 := Az.mk (bkD BK588.out); replace BK594 := Az.mk (bkD BK594.out); replace HB := Az.mk (bwD HB.out)
  have p620 : 0 ≤ (0 : Int) := (by omega)
  have q620 : 0 < (t589.length : Int) := of_decide_eq_true (by first | (with_reducible assumption) | assumption)
  obtain ⟨ad620, e620, hx620_0, hx620_1⟩ := at_T25 (Kd.R_reads' HO_11.out).2.2 0 p620 q620
  cases e620
  have qi620 : (0 < t589.length) = True := eq_true (by omega)
  (try rw [show ((0 : Int)).toNat = 0 from rfl] at hx620_0)
  (try rw [show 0 * 2 = 0 from rfl] at hx620_0)
  (try rw [Addr.add_zero'] at hx620_0)
  (try rw [show ((0 : Int)).toNat = 0 from rfl] at hx620_1)
  (try rw [show 0 * 2 = 0 from rfl] at hx620_1)
  (try rw [Addr.add_zero'] at hx620_1)
  replace p620 := eq_true p620
  replace q620 := eq_true q620
  have p621 : 0 ≤ (1 : Int) := (by omega)
  have q621 : 1 < (t589.length : Int) := of_decide_eq_true (by first | (with_reducible assumption) | assumption)
  obtain ⟨ad621, e621, hx621_0, hx621_1⟩ := at_T25 (Kd.R_reads' HO_11.out).2.2 1 p621 q621
  obtain rfl : ad620 = ad621 := (by injection e621)
  (try simp only [show (1 : Int).toNat = 1 from rfl, Nat.reduceMul, Nat.reduceEqDiff, Go.Addr.add, ↓reduceIte] at hx621_0)
  (try simp only [show (1 : Int).toNat = 1 from rfl, Nat.reduceMul, Nat.reduceEqDiff, Go.Addr.add, ↓reduceIte] at hx621_1)
  have qi621 : (1 < t589.length) = True := eq_true (by omega)
  (try rw [show ((1 : Int)).toNat = 1 from rfl] at hx621_0)
  (try rw [show 1 * 2 = 2 from rfl] at hx621_0)
  (try rw [show ((1 : Int)).toNat = 1 from rfl] at hx621_1)
  (try rw [show 1 * 2 = 2 from rfl] at hx621_1)
  replace p621 := eq_true p621
  replace q621 := eq_true q621
  have p623 : 0 ≤ (0 : Int) := (by omega)
  have q623 : 0 < (t589.length : Int) := of_decide_eq_true (by first | (with_reducible assumption) | assumption)
  obtain ⟨ad623, e623, hx623_0, hx623_1⟩ := at_T25 (Kd.R_reads' HO_11.out).2.2 0 p623 q623
  obtain rfl : ad620 = ad623 := (by injection e623)
  have qi623 : (0 < t589.length) = True := eq_true (by omega)
  (try rw [show ((0 : Int)).toNat = 0 from rfl] at hx623_0)
  (try rw [show 0 * 2 = 0 from rfl] at hx623_0)
  (try rw [Addr.add_zero'] at hx623_0)
  (try rw [show ((0 : Int)).toNat = 0 from rfl] at hx623_1)
  (try rw [show 0 * 2 = 0 from rfl] at hx623_1)
  (try rw [Addr.add_zero'] at hx623_1)
  replace p623 := eq_true p623
  replace q623 := eq_true q623
  have p625 : 0 ≤ (1 : Int) := (by omega)
  have q625 : 1 < (t589.length : Int) := of_decide_eq_true (by first | (with_reducible assumption) | assumption)
  obtain ⟨ad625, e625, hx625_0, hx625_1⟩ := at_T25 (Kd.R_reads' HO_11.out).2.2 1 p625 q625
  obtain rfl : ad620 = ad625 := (by injection e625)
  (try simp only [show (1 : Int).toNat = 1 from rfl, Nat.reduceMul, Nat.reduceEqDiff, Go.Addr.add, ↓reduceIte] at hx625_0)
  (try simp only [show (1 : Int).toNat = 1 from rfl, Nat.reduceMul, Nat.reduceEqDiff, Go.Addr.add, ↓reduceIte] at hx625_1)
  have qi625 : (1 < t589.length) = True := eq_true (by omega)
  (try rw [show ((1 : Int)).toNat = 1 from rfl] at hx625_0)
  (try rw [show 1 * 2 = 2 from rfl] at hx625_0)
  (try rw [show ((1 : Int)).toNat = 1 from rfl] at hx625_1)
  (try rw [show 1 * 2 = 2 from rfl] at hx625_1)
  replace p625 := eq_true p625
  replace q625 := eq_true q625
  refine start_ (n := 29) (S := fun w' => w'.cell? ⟨gb587, 0, none⟩ = some (.int .i64 t583) ∧ w'.cell? ⟨gb587, 1, none⟩ = some (.int .i64 t584) ∧ w'.cell? ⟨gb588, 0, none⟩ = some (.int .i64 t585) ∧ w'.cell? ⟨gb588, 1, none⟩ = some (.int .i64 t586) ∧ w'.cell? ad620 = some (.int .i64 ((rd_T25 t589 0).f0)) ∧ w'.cell? ⟨ad620.block, ad620.off + 1, none⟩ = some (.int .i64 ((rd_T25 t589 0).f1)) ∧ w'.cell? ⟨ad620.block, ad620.off + 2, none⟩ = some (.int .i64 ((rd_T25 t589 1).f0)) ∧ w'.cell? ⟨ad620.block, ad620.off + 2 + 1, none⟩ = some (.int .i64 ((rd_T25 t589 1).f1)) ∧ w'.cell? ad620 = some (.int .i64 ((rd_T25 t589 0).f0)) ∧ w'.cell? ⟨ad620.block, ad620.off + 1, none⟩ = some (.int .i64 ((rd_T25 t589 0).f1)) ∧ w'.cell? ⟨ad620.block, ad620.off + 2, none⟩ = some (.int .i64 ((rd_T25 t589 1).f0)) ∧ w'.cell? ⟨ad620.block, ad620.off + 2 + 1, none⟩ = some (.int .i64 ((rd_T25 t589 1).f1))) (ds := []) #[F,F,F,F,F,F,F,F,F,F,F,F,F,F,F,F,F,F,F,F,F,F,F,F,F,F,F,F,F] z30_0 rfl rfl ⟨(bkC BK587.out 0).trans rfl, (bkC BK587.out 1).trans rfl, (bkC BK588.out 0).trans rfl, (bkC BK588.out 1).trans rfl, hx620_0, hx620_1, hx621_0, hx621_1, hx623_0, hx623_1, hx625_0, hx625_1⟩ (fun hHeld => ?_); refine with_tabW laws_FnFarey.tab25 laws_FnFarey.bits25 (fun HT_ HW_ => ?_)
  generalize wr.drew = w159 at HO_8 HO_11 HO_13 BK573 BK574 BK579 BK587 BK588 BK594 HB hx620_0 hx620_1 hx621_0 hx621_1 hx623_0 hx623_1 hx625_0 hx625_1 hHeld ⊢
  refine pu (i := 0) (N := some 162) #[T,F,F,F,F,F,F,F,F,F,F,F,F,F,F,F,F,F,F,F,F,F,F,F,F,F,F,F,F] (any_of HT_.out z30_0) ?_
  refine pu (i := 1) (N := some 163) #[T,T,F,F,F,F,F,F,F,F,F,F,F,F,F,F,F,F,F,F,F,F,F,F,F,F,F,F,F] (any_of HT_.out z30_0) ?_
  refine pu (i := 2) (N := some 164) #[T,T,T,F,F,F,F,F,F,F,F,F,F,F,F,F,F,F,F,F,F,F,F,F,F,F,F,F,F] (any_of HT_.out z30_0) ?_
  refine pu (i := 3) (N := some 165) #[T,T,T,T,F,F,F,F,F,F,F,F,F,F,F,F,F,F,F,F,F,F,F,F,F,F,F,F,F] (any_of HT_.out z30_0) ?_
  refine pu (i := 4) (N := some 166) #[T,T,T,T,T,F,F,F,F,F,F,F,F,F,F,F,F,F,F,F,F,F,F,F,F,F,F,F,F] (any_of HT_.out z30_0) ?_
  refine pu (i := 5) (N := some 167) #[T,T,T,T,T,T,F,F,F,F,F,F,F,F,F,F,F,F,F,F,F,F,F,F,F,F,F,F,F] (any_of HT_.out z30_0) ?_
  refine pu (i := 7) (N := some 169) #[T,T,T,T,T,T,F,T,F,F,F,F,F,F,F,F,F,F,F,F,F,F,F,F,F,F,F,F,F] (any_of HT_.out z30_0) ?_
  refine pu (i := 8) (N := some 170) #[T,T,T,T,T,T,F,T,T,F,F,F,F,F,F,F,F,F,F,F,F,F,F,F,F,F,F,F,F] (any_of HT_.out z30_0) ?_
  refine take_ (i := 6) (N := some 168) (v := ?_) (a' := ?_) #[T,T,T,T,T,T,T,T,T,F,F,F,F,F,F,F,F,F,F,F,F,F,F,F,F,F,F,F,F] rfl rfl (take_ofW HT_.out HW_.out z30_0) (fun _ _ _ h => h) (Or.inl ⟨by rfl, ?_⟩) hHeld ?_ ?_
  rotate_left
  ·rintro w' ⟨s0, s1, s2, s3, s4, s5, s6, s7, s8, s9, s10, s11⟩
   go_simp
   with_reducible rfl
  rotate_left
  ·exact acq
  refine take_ (i := 9) (N := some 171) (v := ?_) (a' := ?_) #[T,T,T,T,T,T,T,T,T,T,F,F,F,F,F,F,F,F,F,F,F,F,F,F,F,F,F,F,F] rfl rfl (take_ofW HT_.out HW_.out z30_0) (fun _ _ _ h => h) (Or.inl ⟨by rfl, ?_⟩) hHeld ?_ ?_
  rotate_left
  ·rintro w' ⟨s0, s1, s2, s3, s4, s5, s6, s7, s8, s9, s10, s11⟩
   go_simp
   with_reducible rfl
  rotate_left
  ·exact acq
  refine one_ (i := 10) (N := some 172) #[T,T,T,T,T,T,T,T,T,T,T,F,F,F,F,F,F,F,F,F,F,F,F,F,F,F,F,F,F] rfl rfl (one_of HT_.out z30_0) (by decide) (fun K hK => ?_)
  refine goes_ Try.func18 z30_0 rfl #[.agg #[.int .i64 ((rd_T25 t589 0).f0), .int .i64 ((rd_T25 t589 0).f1)], .agg #[.int .i64 ((rd_T25 t589 1).f0), .int .i64 ((rd_T25 t589 1).f1)]] (by rfl) rfl rfl (by (try simp only [List.map_toArray, List.map_cons, List.map_nil]); first | done | rfl | (simp only [List.length_drop, List.length_take]; rfl)) ?_
  with_reducible refine (spec_CrossNumber.calls k2 ((rd_T25 t589 0).f0) ((rd_T25 t589 0).f1) ((rd_T25 t589 1).f0) ((rd_T25 t589 1).f1) t622 _ A154.out).mono ?_
  rintro e w160 ⟨rfl, hb⟩
  have HS4_ := (hb.cell (World.block_lt_of_cell? _ _ (hHeld.2.2.2.2.1))).trans (hHeld.2.2.2.2.1)
  have HS5_ := (hb.cell (World.block_lt_of_cell? _ _ (hHeld.2.2.2.2.2.1))).trans (hHeld.2.2.2.2.2.1)
  have HS6_ := (hb.cell (World.block_lt_of_cell? _ _ (hHeld.2.2.2.2.2.2.1))).trans (hHeld.2.2.2.2.2.2.1)
  have HS7_ := (hb.cell (World.block_lt_of_cell? _ _ (hHeld.2.2.2.2.2.2.2.1))).trans (hHeld.2.2.2.2.2.2.2.1)
  have HS8_ := (hb.cell (World.block_lt_of_cell? _ _ (hHeld.2.2.2.2.2.2.2.2.1))).trans (hHeld.2.2.2.2.2.2.2.2.1)
  have HS9_ := (hb.cell (World.block_lt_of_cell? _ _ (hHeld.2.2.2.2.2.2.2.2.2.1))).trans (hHeld.2.2.2.2.2.2.2.2.2.1)
  have HS10_ := (hb.cell (World.block_lt_of_cell? _ _ (hHeld.2.2.2.2.2.2.2.2.2.2.1))).trans (hHeld.2.2.2.2.2.2.2.2.2.2.1)
  have HS11_ := (hb.cell (World.block_lt_of_cell? _ _ (hHeld.2.2.2.2.2.2.2.2.2.2.2))).trans (hHeld.2.2.2.2.2.2.2.2.2.2.2)
  refine ⟨_, rfl, ?_⟩
  replace HO_8 := Az.mk (Kd.R_below (by (with_reducible repeat (first | apply Kd.R_alloc | apply Kd.R_drewN | apply Kd.R_drew)); exact HO_8.out) hb); replace HO_11 := Az.mk (Kd.R_below (by (with_reducible repeat (first | apply Kd.R_alloc | apply Kd.R_drewN | apply Kd.R_drew)); exact HO_11.out) hb); replace HO_13 := Az.mk (Kd.R_below (by (with_reducible repeat (first | apply Kd.R_alloc | apply Kd.R_drewN | apply Kd.R_drew)); exact HO_13.out) hb); replace BK573 := bkz BK573 hb; replace BK574 := bkz BK574 hb; replace BK579 := bkz BK579 hb; replace BK587 := bkz BK587 hb; replace BK588 := bkz BK588 hb; replace BK594 := bkz BK594 hb; replace HB := Az.mk (bwT bw_30 hb)
  (try clear hb)
  (try clear hb2)
  (try clear hk)
  (try clear hi)
  refine hK.out _ _ ⟨(bkC BK587.out 0).trans rfl, (bkC BK587.out 1).trans rfl, (bkC BK588.out 0).trans rfl, (bkC BK588.out 1).trans rfl, HS4_, HS5_, HS6_, HS7_, HS8_, HS9_, HS10_, HS11_⟩ (fun hHeld => ?_)
  clear hK K
  refine norm_ (a' := ?_) ?_ ?_
  rotate_left
  ·show Act.put _ (some 172) _ = _
   exact acq
  refine pu (i := 11) (N := some 173) #[T,T,T,T,T,T,T,T,T,T,T,T,F,F,F,F,F,F,F,F,F,F,F,F,F,F,F,F,F] (any_of HT_.out z30_0) ?_
  refine pu (i := 12) (N := some 174) #[T,T,T,T,T,T,T,T,T,T,T,T,T,F,F,F,F,F,F,F,F,F,F,F,F,F,F,F,F] (any_of HT_.out z30_0) ?_
  refine pu (i := 13) (N := some 175) #[T,T,T,T,T,T,T,T,T,T,T,T,T,T,F,F,F,F,F,F,F,F,F,F,F,F,F,F,F] (any_of HT_.out z30_0) ?_
  refine pu (i := 14) (N := some 176) #[T,T,T,T,T,T,T,T,T,T,T,T,T,T,T,F,F,F,F,F,F,F,F,F,F,F,F,F,F] (any_of HT_.out z30_0) ?_
  refine take_ (i := 15) (N := some 177) (v := ?_) (a' := ?_) #[T,T,T,T,T,T,T,T,T,T,T,T,T,T,T,T,F,F,F,F,F,F,F,F,F,F,F,F,F] rfl rfl (take_ofW HT_.out HW_.out z30_0) (fun _ _ _ h => h) (Or.inl ⟨by rfl, ?_⟩) hHeld ?_ ?_
  rotate_left
  ·rintro w' ⟨s0, s1, s2, s3, s4, s5, s6, s7, s8, s9, s10, s11⟩
   go_simp
   with_reducible rfl
  rotate_left
  ·exact acq
  refine take_ (i := 16) (N := some 178) (v := ?_) (a' := ?_) #[T,T,T,T,T,T,T,T,T,T,T,T,T,T,T,T,T,F,F,F,F,F,F,F,F,F,F,F,F] rfl rfl (take_ofW HT_.out HW_.out z30_0) (fun _ _ _ h => h) (Or.inl ⟨by rfl, ?_⟩) hHeld ?_ ?_
  rotate_left
  ·rintro w' ⟨s0, s1, s2, s3, s4, s5, s6, s7, s8, s9, s10, s11⟩
   go_simp
   with_reducible rfl
  rotate_left
  ·exact acq
  refine one_ (i := 17) (N := some 179) #[T,T,T,T,T,T,T,T,T,T,T,T,T,T,T,T,T,T,F,F,F,F,F,F,F,F,F,F,F] rfl rfl (one_of HT_.out z30_0) (by decide) (fun K hK => ?_)
  refine goes_ Try.func18 z30_0 rfl #[.agg #[.int .i64 ((rd_T25 t589 0).f0), .int .i64 ((rd_T25 t589 0).f1)], .agg #[.int .i64 t583, .int .i64 t584]] (by rfl) rfl rfl (by (try simp only [List.map_toArray, List.map_cons, List.map_nil]); first | done | rfl | (simp only [List.length_drop, List.length_take]; rfl)) ?_
  with_reducible refine (spec_CrossNumber.calls k2 ((rd_T25 t589 0).f0) ((rd_T25 t589 0).f1) t583 t584 t624 _ A156.out).mono ?_
  rintro e w161 ⟨rfl, hb⟩
  have HS4_ := (hb.cell (World.block_lt_of_cell? _ _ (hHeld.2.2.2.2.1))).trans (hHeld.2.2.2.2.1)
  have HS5_ := (hb.cell (World.block_lt_of_cell? _ _ (hHeld.2.2.2.2.2.1))).trans (hHeld.2.2.2.2.2.1)
  have HS6_ := (hb.cell (World.block_lt_of_cell? _ _ (hHeld.2.2.2.2.2.2.1))).trans (hHeld.2.2.2.2.2.2.1)
  have HS7_ := (hb.cell (World.block_lt_of_cell? _ _ (hHeld.2.2.2.2.2.2.2.1))).trans (hHeld.2.2.2.2.2.2.2.1)
  have HS8_ := (hb.cell (World.block_lt_of_cell? _ _ (hHeld.2.2.2.2.2.2.2.2.1))).trans (hHeld.2.2.2.2.2.2.2.2.1)
  have HS9_ := (hb.cell (World.block_lt_of_cell? _ _ (hHeld.2.2.2.2.2.2.2.2.2.1))).trans (hHeld.2.2.2.2.2.2.2.2.2.1)
  have HS10_ := (hb.cell (World.block_lt_of_cell? _ _ (hHeld.2.2.2.2.2.2.2.2.2.2.1))).trans (hHeld.2.2.2.2.2.2.2.2.2.2.1)
  have HS11_ := (hb.cell (World.block_lt_of_cell? _ _ (hHeld.2.2.2.2.2.2.2.2.2.2.2))).trans (hHeld.2.2.2.2.2.2.2.2.2.2.2)
  refine ⟨_, rfl, ?_⟩
  replace HO_8 := Az.mk (Kd.R_below (by (with_reducible repeat (first | apply Kd.R_alloc | apply Kd.R_drewN | apply Kd.R_drew)); exact HO_8.out) hb); replace HO_11 := Az.mk (Kd.R_below (by (with_reducible repeat (first | apply Kd.R_alloc | apply Kd.R_drewN | apply Kd.R_drew)); exact HO_11.out) hb); replace HO_13 := Az.mk (Kd.R_below (by (with_reducible repeat (first | apply Kd.R_alloc | apply Kd.R_drewN | apply Kd.R_drew)); exact HO_13.out) hb); replace BK573 := bkz BK573 hb; replace BK574 := bkz BK574 hb; replace BK579 := bkz BK579 hb; replace BK587 := bkz BK587 hb; replace BK588 := bkz BK588 hb; replace BK594 := bkz BK594 hb; replace HB := Az.mk (bwT bw_30 hb)
  (try clear hb)
  (try clear hb2)
  (try clear hk)
  (try clear hi)
  refine hK.out _ _ ⟨(bkC BK587.out 0).trans rfl, (bkC BK587.out 1).trans rfl, (bkC BK588.out 0).trans rfl, (bkC BK588.out 1).trans rfl, HS4_, HS5_, HS6_, HS7_, HS8_, HS9_, HS10_, HS11_⟩ (fun hHeld => ?_)
  clear hK K
  refine norm_ (a' := ?_) ?_ ?_
  rotate_left
  ·show Act.put _ (some 179) _ = _
   exact acq
  refine pu (i := 18) (N := some 180) #[T,T,T,T,T,T,T,T,T,T,T,T,T,T,T,T,T,T,T,F,F,F,F,F,F,F,F,F,F] (any_of HT_.out z30_0) ?_
  refine pu (i := 19) (N := some 181) #[T,T,T,T,T,T,T,T,T,T,T,T,T,T,T,T,T,T,T,T,F,F,F,F,F,F,F,F,F] (any_of HT_.out z30_0) ?_
  refine pu (i := 20) (N := some 182) #[T,T,T,T,T,T,T,T,T,T,T,T,T,T,T,T,T,T,T,T,T,F,F,F,F,F,F,F,F] (any_of HT_.out z30_0) ?_
  refine pu (i := 21) (N := some 183) #[T,T,T,T,T,T,T,T,T,T,T,T,T,T,T,T,T,T,T,T,T,T,F,F,F,F,F,F,F] (any_of HT_.out z30_0) ?_
  refine pu (i := 22) (N := some 184) #[T,T,T,T,T,T,T,T,T,T,T,T,T,T,T,T,T,T,T,T,T,T,T,F,F,F,F,F,F] (any_of HT_.out z30_0) ?_
  refine take_ (i := 23) (N := some 185) (v := ?_) (a' := ?_) #[T,T,T,T,T,T,T,T,T,T,T,T,T,T,T,T,T,T,T,T,T,T,T,T,F,F,F,F,F] rfl rfl (take_ofW HT_.out HW_.out z30_0) (fun _ _ _ h => h) (Or.inl ⟨by rfl, ?_⟩) hHeld ?_ ?_
  rotate_left
  ·rintro w' ⟨s0, s1, s2, s3, s4, s5, s6, s7, s8, s9, s10, s11⟩
   go_simp
   with_reducible rfl
  rotate_left
  ·exact acq
  refine take_ (i := 24) (N := some 186) (v := ?_) (a' := ?_) #[T,T,T,T,T,T,T,T,T,T,T,T,T,T,T,T,T,T,T,T,T,T,T,T,T,F,F,F,F] rfl rfl (take_ofW HT_.out HW_.out z30_0) (fun _ _ _ h => h) (Or.inl ⟨by rfl, ?_⟩) hHeld ?_ ?_
  rotate_left
  ·rintro w' ⟨s0, s1, s2, s3, s4, s5, s6, s7, s8, s9, s10, s11⟩
   go_simp
   with_reducible rfl
  rotate_left
  ·exact acq
  refine one_ (i := 25) (N := some 187) #[T,T,T,T,T,T,T,T,T,T,T,T,T,T,T,T,T,T,T,T,T,T,T,T,T,T,F,F,F] rfl rfl (one_of HT_.out z30_0) (by decide) (fun K hK => ?_)
  refine goes_ Try.func18 z30_0 rfl #[.agg #[.int .i64 ((rd_T25 t589 1).f0), .int .i64 ((rd_T25 t589 1).f1)], .agg #[.int .i64 t585, .int .i64 t586]] (by rfl) rfl rfl (by (try simp only [List.map_toArray, List.map_cons, List.map_nil]); first | done | rfl | (simp only [List.length_drop, List.length_take]; rfl)) ?_
  with_reducible refine (spec_CrossNumber.calls k2 ((rd_T25 t589 1).f0) ((rd_T25 t589 1).f1) t585 t586 t626 _ A158.out).mono ?_
  rintro e w162 ⟨rfl, hb⟩
  have HS4_ := (hb.cell (World.block_lt_of_cell? _ _ (hHeld.2.2.2.2.1))).trans (hHeld.2.2.2.2.1)
  have HS5_ := (hb.cell (World.block_lt_of_cell? _ _ (hHeld.2.2.2.2.2.1))).trans (hHeld.2.2.2.2.2.1)
  have HS6_ := (hb.cell (World.block_lt_of_cell? _ _ (hHeld.2.2.2.2.2.2.1))).trans (hHeld.2.2.2.2.2.2.1)
  have HS7_ := (hb.cell (World.block_lt_of_cell? _ _ (hHeld.2.2.2.2.2.2.2.1))).trans (hHeld.2.2.2.2.2.2.2.1)
  have HS8_ := (hb.cell (World.block_lt_of_cell? _ _ (hHeld.2.2.2.2.2.2.2.2.1))).trans (hHeld.2.2.2.2.2.2.2.2.1)
  have HS9_ := (hb.cell (World.block_lt_of_cell? _ _ (hHeld.2.2.2.2.2.2.2.2.2.1))).trans (hHeld.2.2.2.2.2.2.2.2.2.1)
  have HS10_ := (hb.cell (World.block_lt_of_cell? _ _ (hHeld.2.2.2.2.2.2.2.2.2.2.1))).trans (hHeld.2.2.2.2.2.2.2.2.2.2.1)
  have HS11_ := (hb.cell (World.block_lt_of_cell? _ _ (hHeld.2.2.2.2.2.2.2.2.2.2.2))).trans (hHeld.2.2.2.2.2.2.2.2.2.2.2)
  refine ⟨_, rfl, ?_⟩
  replace HO_8 := Az.mk (Kd.R_below (by (with_reducible repeat (first | apply Kd.R_alloc | apply Kd.R_drewN | apply Kd.R_drew)); exact HO_8.out) hb); replace HO_11 := Az.mk (Kd.R_below (by (with_reducible repeat (first | apply Kd.R_alloc | apply Kd.R_drewN | apply Kd.R_drew)); exact HO_11.out) hb); replace HO_13 := Az.mk (Kd.R_below (by (with_reducible repeat (first | apply Kd.R_alloc | apply Kd.R_drewN | apply Kd.R_drew)); exact HO_13.out) hb); replace BK573 := bkz BK573 hb; replace BK574 := bkz BK574 hb; replace BK579 := bkz BK579 hb; replace BK587 := bkz BK587 hb; replace BK588 := bkz BK588 hb; replace BK594 := bkz BK594 hb; replace HB := Az.mk (bwT bw_30 hb)
  (try clear hb)
  (try clear hb2)
  (try clear hk)
  (try clear hi)
  refine hK.out _ _ ⟨(bkC BK587.out 0).trans rfl, (bkC BK587.out 1).trans rfl, (bkC BK588.out 0).trans rfl, (bkC BK588.out 1).trans rfl, HS4_, HS5_, HS6_, HS7_, HS8_, HS9_, HS10_, HS11_⟩ (fun hHeld => ?_)
  clear hK K
  refine norm_ (a' := ?_) ?_ ?_
  rotate_left
  ·show Act.put _ (some 187) _ = _
   exact acq
  refine pu (i := 26) (N := some 188) #[T,T,T,T,T,T,T,T,T,T,T,T,T,T,T,T,T,T,T,T,T,T,T,T,T,T,T,F,F] (any_of HT_.out z30_0) ?_
  refine pu (i := 27) (N := some 189) #[T,T,T,T,T,T,T,T,T,T,T,T,T,T,T,T,T,T,T,T,T,T,T,T,T,T,T,T,F] (any_of HT_.out z30_0) ?_
  refine pu (i := 28) (N := some 190) #[T,T,T,T,T,T,T,T,T,T,T,T,T,T,T,T,T,T,T,T,T,T,T,T,T,T,T,T,T] (any_of HT_.out z30_0) ?_
  refine done_ (done_of HT_.out z30_0) ?_
  try go_wp2
  go_meet
  case rel => exact ⟨_, ((t626 != 1)), rq2, H', ⟨by have := HJ23.out; have := HK2.out; first | omega | exact Nat.le_refl _⟩, ⟨by (with_reducible repeat (first | apply Kd.R_alloc | apply Kd.R_drewN | apply Kd.R_drew)); exact Kd.R_mono HO_13.out (fun _ hk => ⟨hk.2.2.1, ⟨hk.2.2.2.1, ⟨hk.2.2.2.2.1, ⟨hk.2.2.2.2.2.1, ⟨hk.2.2.2.2.2.2.1, hk.2.2.2.2.2.2.2⟩⟩⟩⟩⟩)⟩, ⟨bk1 BK573⟩, ⟨bk1 BK574⟩, ⟨bk1 BK579⟩, ⟨bk1 BK587⟩, ⟨bk1 BK588⟩, ⟨bk1 BK594⟩, ⟨bw_30⟩⟩
 clear HC150
 try clear c151
 try clear c151b0
 try clear c151b1
 try clear c152
 try clear c153
 try clear c155
 try clear c155b0
 try clear c155b1
 try clear c157
 try clear c157b0
 try clear c157b1
 try clear hx620_0
 try clear hx620_1
 try clear hx621_0
 try clear hx621_1
 try clear hx623_0
 try clear hx623_1
 try clear hx625_0
 try clear hx625_1
 try clear p623
 try clear p625
 try clear q621
 try clear q623
 try clear q625
 obtain ⟨kq, x190_149, rfl, HA, HJ149, HO_13, BK573, BK574, BK579, BK587, BK588, BK594, HB⟩ := hcut
 cases kq with
 | zero => exact absurd HA.out (by simp [laws_FnFarey.j2])
 | succ kj149 =>
  have H := HA.out
  clear HA
  simp only [laws_FnFarey.j2] at H
  by_cases c164 : x190_149 = true
  ·subst c164
   rw [if_pos rfl] at H
   exact absurd H (by simp)
  replace c164 := Bool.eq_false_iff.mpr c164
  subst c164
  rw [if_neg (show ¬ (false = true) by decide)] at H
  have HC165 := Az.mk H
  clear H
  rename_i Kt at_ K0 a0
  have AT := Az.mk at_
  clear at_
  go_wp2
  exact AT.out _ _ (laws_FnFarey.p27 k A0 c0 l0 r w HR0 HC0 t569 t570 t571 t572 t575 t576 t577 t578 t580 t583 t584 t585 t586 t589 t592 t593 t595 t598 t599 t602 gb573 GE573 gb574 GE574 NB573_574 NB574_573 gb579 GE579 NB573_579 NB579_573 NB574_579 NB579_574 gb587 GE587 NB573_587 NB587_573 NB574_587 NB587_574 gb588 GE588 NB573_588 NB588_573 NB574_588 NB588_574 gb594 GE594 NB573_594 NB594_573 NB574_594 NB594_574 Ao67 co67 Ao72 co72 Ao74 co74 Ao75 co75 nd kj23 HJ23 wr u2 u18 u19 x17_2 k2 HK2 wc u30 u31 u32 u33 u34 u35 u36 u37 u38 u39 u40 u41 u42 u43 u44 u45 u46 u47 u48 u49 u50 u51 u52 u53 u54 u55 u56 u57 u58 u59 u60 u61 u62 u63 u64 u65 u66 u67 u68 u69 u70 u71 u72 u73 u74 u75 u76 u77 u78 u79 u80 u81 u82 u83 u84 u85 u86 u87 u88 u89 u90 u91 u92 u93 u94 u95 u96 u97 u98 u99 u100 u101 u102 u103 u104 u105 u106 u107 u108 u109 u110 u111 u112 u113 u114 u115 u116 u117 u118 u119 u120 u121 u122 u123 u124 u125 u126 u127 u128 u129 u130 u131 u132 u133 u134 u135 u136 u137 u138 u139 u140 u141 u142 u143 u144 u145 u146 u147 u148 u149 u150 u151 u152 u153 u154 u155 u156 u157 u158 u159 u160 u161 u162 u163 u164 u165 u166 u167 u168 u169 u170 u171 u172 u173 u174 u175 u176 u177 u178 u179 u180 u181 u182 u183 u184 u185 u186 u187 u188 u189 u191 u192 u193 u194 u195 u196 u197 u198 u199 u200 u201 u202 u203 u204 u205 u206 u207 u208 u209 u210 u211 u212 u213 u214 u215 u216 u217 u218 u219 u220 u221 u222 u223 u224 u225 u226 u227 u228 u229 u230 u231 u232 u233 u234 u235 u236 u237 u238 u239 u240 u241 u242 u243 u244 u245 u246 u247 u248 u249 u250 u251 u252 u253 u254 u255 u256 u257 u258 u259 u260 u261 u262 u263 u264 u265 u266 u267 u268 u269 u270 u271 u272 u273 u274 u275 u276 u277 u278 u279 u280 u281 u282 u283 u284 u285 u286 u287 u288 u289 u290 u291 u292 u293 u294 u295 u296 u297 u298 u299 u300 u301 u302 u303 u304 u305 u306 u307 u308 u309 u310 u311 u312 u313 u314 u315 u316 u317 u318 u319 u320 u321 u322 u323 u324 u325 u326 u327 u328 u329 u330 HO_13 BK573 BK574 BK579 BK587 BK588 BK594 HB kj149 HJ149 HC165)
end Go.Proofs.Ytigcjehokbgclaa.P
