-- By this session's driver (wip/tools/mk.py) of the kit's print program, over several statements at once. Not trusted: Lean checks it.
import Derived.Test.YtigcjehokbgclaaQWZip
import Derived.Test.YtigcjehokbgclaaQPx0
import Derived.Test.YtigcjehokbgclaaQPx2
import Derived.Test.YtigcjehokbgclaaQPx5
import Derived.Test.YtigcjehokbgclaaQPx7
import Derived.Test.YtigcjehokbgclaaQPx8
import Derived.Test.YtigcjehokbgclaaQPx9
import Derived.Test.YtigcjehokbgclaaQPx10
import Derived.Test.YtigcjehokbgclaaQPx11
import Derived.Test.YtigcjehokbgclaaQPx12
import Derived.Test.YtigcjehokbgclaaQPx13
import Derived.Test.YtigcjehokbgclaaQPx15
import Derived.Test.YtigcjehokbgclaaQPx16
import Derived.Test.YtigcjehokbgclaaQPx19
import Derived.Test.YtigcjehokbgclaaQPx20
import Derived.Test.YtigcjehokbgclaaQPx22
import Derived.Test.YtigcjehokbgclaaQPx23
import Derived.Test.YtigcjehokbgclaaQPx24
import Derived.Test.YtigcjehokbgclaaQPx27
namespace Go.Proofs.Ytigcjehokbgclaa.P
open Go.RowKit Go.Proofs.YtigcjehokbgclaaW.PrintWords Go.Proofs.YtigcjehokbgclaaW.PrintLast Go.Proofs.YtigcjehokbgclaaW.PrintMore
attribute [local go_sem] max2_int min2_int max_two min_two max_three min_three max_four min_four   -- for this text's walks alone
set_option linter.unusedVariables false
set_option linter.unusedSimpArgs false
theorem bw_28 {n : Nat} {v v' : World} (h : Below n v v' := by repeat (first | (with_reducible first | exact HB.out | apply bwA | apply pbN | apply bwD | refine bwS ?_ GE573.out | refine bwS ?_ GE574.out | refine bwS ?_ GE579.out | refine bwS ?_ GE587.out | refine bwS ?_ GE588.out | refine bwS ?_ GE594.out | refine bwS ?_ GE641.out | refine bwS ?_ GE642.out | refine bwS ?_ GE646.out | refine bwS ?_ GE650.out) | exact HB.out)) : Below n v v' := h

attribute [local go_sem high] eqA25
set_option maxHeartbeats 8000000 in
set_option maxRecDepth 100000 in
theorem laws_FnFarey.p31 (k : Nat) (A0 : Option Addr) (c0 : Nat) (l0 : List Int) (r : Bool) (w : World) (HR0 : Az (Kd.C (Kd.int IntKind.u8) w A0 (List.length l0) l0)) (HC0 : Az (List.length l0 ≤ c0)) (t569 t570 t571 t572 t575 t576 t577 t578 : Int) (t580 : List S25) (t583 t584 t585 t586 : Int) (t589 : List S25) (t592 t593 : Int) (t595 : List S25) (t598 : Bool) (t599 : List S25) (t602 : Bool) (gb573 : Nat) (GE573 : Az (w.heap.size ≤ gb573)) (gb574 : Nat) (GE574 : Az (w.heap.size ≤ gb574)) (NB573_574 : Az (gb573 ≠ gb574)) (NB574_573 : Az (gb574 ≠ gb573)) (gb579 : Nat) (GE579 : Az (w.heap.size ≤ gb579)) (NB573_579 : Az (gb573 ≠ gb579)) (NB579_573 : Az (gb579 ≠ gb573)) (NB574_579 : Az (gb574 ≠ gb579)) (NB579_574 : Az (gb579 ≠ gb574)) (gb587 : Nat) (GE587 : Az (w.heap.size ≤ gb587)) (NB573_587 : Az (gb573 ≠ gb587)) (NB587_573 : Az (gb587 ≠ gb573)) (NB574_587 : Az (gb574 ≠ gb587)) (NB587_574 : Az (gb587 ≠ gb574)) (gb588 : Nat) (GE588 : Az (w.heap.size ≤ gb588)) (NB573_588 : Az (gb573 ≠ gb588)) (NB588_573 : Az (gb588 ≠ gb573)) (NB574_588 : Az (gb574 ≠ gb588)) (NB588_574 : Az (gb588 ≠ gb574)) (gb594 : Nat) (GE594 : Az (w.heap.size ≤ gb594)) (NB573_594 : Az (gb573 ≠ gb594)) (NB594_573 : Az (gb594 ≠ gb573)) (NB574_594 : Az (gb574 ≠ gb594)) (NB594_574 : Az (gb594 ≠ gb574)) (Ao67 : Option Addr) (co67 : Nat) (Ao72 : Option Addr) (co72 : Nat) (Ao74 : Option Addr) (co74 : Nat) (Ao75 : Option Addr) (co75 nd kj23 : Nat) (HJ23 : Az (kj23 + 1 ≤ k)) (wr : World) (u18 u19 : Value) (x17_2 : Int) (k2 : Nat) (HK2 : Az (k2 + 1 ≤ kj23)) (kj149 : Nat) (HJ149 : Az (kj149 + 1 ≤ k2)) (wc : World) (u2 u20 u21 u30 u31 u32 u33 u34 u35 u36 u37 u38 u39 u40 u41 u42 u43 u44 u45 u46 u47 u48 u49 u50 u51 u52 u53 u54 u55 u56 u57 u58 u59 u60 u61 u62 u63 u64 u65 u66 u67 u68 u69 u70 u71 u72 u73 u74 u75 u76 u77 u78 u79 u80 u81 u82 u83 u84 u85 u86 u87 u88 u89 u90 u91 u92 u93 u94 u95 u96 u97 u98 u99 u100 u101 u102 u103 u104 u105 u106 u107 u108 u109 u110 u111 u112 u113 u114 u115 u116 u117 u118 u119 u120 u121 u122 u123 u124 u125 u126 u127 u128 u129 u130 u131 u132 u133 u134 u135 u136 u137 u138 u139 u140 u141 u142 u143 u144 u145 u146 u147 u148 u149 u150 u151 u152 u153 u154 u155 u156 u157 u158 u159 u160 u161 u162 u163 u164 u165 u166 u167 u168 u169 u170 u171 u172 u173 u174 u175 u176 u177 u178 u179 u180 u181 u182 u183 u184 u185 u186 u187 u188 u189 u190 u191 u192 u193 u194 u195 u196 u197 u198 u199 u200 u201 u202 u203 u204 u205 u206 u207 u208 u209 u210 u211 u212 u213 u214 u215 u216 u217 u218 u219 u220 u221 u222 u223 u224 u225 u226 u227 u228 u229 u230 u231 u232 u233 u234 u235 u236 u237 u238 u239 u240 u241 u242 u243 u244 u245 u246 u247 u248 u249 u250 u251 u252 u253 u254 u255 u256 u257 u258 u259 u260 u261 u262 u263 u264 u265 u266 u267 u268 u269 u270 u271 u272 u273 u274 u275 u276 u277 u278 u279 u280 u281 u282 u283 u284 u285 u286 u287 u288 u289 u290 u291 u292 u293 u294 u295 u296 u297 u298 u299 u300 u301 u302 u303 u304 u305 u306 u307 u308 u309 u310 u311 u312 u313 u314 u315 u316 u317 u318 u319 u320 u321 u322 u323 u324 u325 u326 u327 u328 u329 u330 : Value) (BK573 : Az ((World.heap wc)[gb573]? = some (Obj.cells #[Value.int IntKind.i64 t569, Value.int IntKind.i64 t570] 25))) (BK574 : Az ((World.heap wc)[gb574]? = some (Obj.cells #[Value.int IntKind.i64 t571, Value.int IntKind.i64 t572] 25))) (BK579 : Az ((World.heap wc)[gb579]? = some (Obj.cells #[Value.int IntKind.i64 t576, Value.int IntKind.i64 t577] 25))) (BK587 : Az ((World.heap wc)[gb587]? = some (Obj.cells #[Value.int IntKind.i64 t583, Value.int IntKind.i64 t584] 25))) (BK588 : Az ((World.heap wc)[gb588]? = some (Obj.cells #[Value.int IntKind.i64 t585, Value.int IntKind.i64 t586] 25))) (BK594 : Az ((World.heap wc)[gb594]? = some (Obj.cells #[Value.int IntKind.i64 t592, Value.int IntKind.i64 t593] 25))) (HB : Az (Below (w.heap.size) w wc)) (kj164 : Nat) (HJ164 : Az (kj164 + 1 ≤ kj149)) (t635 t636 t637 t638 t639 t640 : Int) (A181 : Az (spec_DrawMoveSlope.f kj164 l0 = some (t635, t636, t637, t638, t639, t640))) (t643 t644 : Int) (t645 : Bool) (A182 : Az (spec_MoveSlope.f kj164 t635 t636 t637 t638 t569 t570 = some (t643, t644, t645))) (t647 t648 : Int) (t649 : Bool) (A183 : Az (spec_MoveSlope.f kj164 t635 t636 t637 t638 t571 t572 = some (t647, t648, t649))) (HC184 : Az ((if t645 = true then if t649 = true then Option.bind (impl_SlopeDistance.f kj164 t643 t644 t647 t648) fun (t651 : Int) => laws_FnFarey.j4 kj164 t575 t645 (t651 != t575) t569 t570 t571 t572 t639 t640 else laws_FnFarey.j4 kj164 t575 t645 false t569 t570 t571 t572 t639 t640 else laws_FnFarey.j4 kj164 t575 t645 false t569 t570 t571 t572 t639 t640) = some r)) :
  Code.wp Try.prog (tailOf (Try.f3.body.getD .skip) 16) (bodyPost Try.prog Try.f3 (fun e w' => e = .returned (.bool r) ∧ Below w.heap.size w w')) ⟨#[Value.slice A0 (List.length l0) c0, undef, u2, Value.pointer (some ⟨gb573, 0, none⟩), Value.pointer (some ⟨gb574, 0, none⟩), Value.int IntKind.i64 t575, Value.pointer (some ⟨gb579, 0, none⟩), Value.int IntKind.i64 t578, Value.slice Ao67 (List.length t580) co67, Value.pointer (some ⟨gb587, 0, none⟩), Value.pointer (some ⟨gb588, 0, none⟩), Value.slice Ao72 (List.length t589) co72, Value.pointer (some ⟨gb594, 0, none⟩), Value.slice Ao74 (List.length t595) co74, Value.bool t598, Value.slice Ao75 (List.length t599) co75, Value.bool t602, Value.int IntKind.i64 x17_2, u18, u19, u20, u21, undef, undef, undef, undef, undef, undef, undef, undef, u30, u31, u32, u33, u34, u35, u36, u37, u38, u39, u40, u41, u42, u43, u44, u45, u46, u47, u48, u49, u50, u51, u52, u53, u54, u55, u56, u57, u58, u59, u60, u61, u62, u63, u64, u65, u66, u67, u68, u69, u70, u71, u72, u73, u74, u75, u76, u77, u78, u79, u80, u81, u82, u83, u84, u85, u86, u87, u88, u89, u90, u91, u92, u93, u94, u95, u96, u97, u98, u99, u100, u101, u102, u103, u104, u105, u106, u107, u108, u109, u110, u111, u112, u113, u114, u115, u116, u117, u118, u119, u120, u121, u122, u123, u124, u125, u126, u127, u128, u129, u130, u131, u132, u133, u134, u135, u136, u137, u138, u139, u140, u141, u142, u143, u144, u145, u146, u147, u148, u149, u150, u151, u152, u153, u154, u155, u156, u157, u158, u159, u160, u161, u162, u163, u164, u165, u166, u167, u168, u169, u170, u171, u172, u173, u174, u175, u176, u177, u178, u179, u180, u181, u182, u183, u184, u185, u186, u187, u188, u189, u190, u191, u192, u193, u194, u195, u196, u197, u198, u199, u200, u201, u202, u203, u204, u205, u206, u207, u208, u209, u210, u211, u212, u213, u214, u215, u216, u217, u218, u219, u220, u221, u222, u223, u224, u225, u226, u227, u228, u229, u230, u231, u232, u233, u234, u235, u236, u237, u238, u239, u240, u241, u242, u243, u244, u245, u246, u247, u248, u249, u250, u251, u252, u253, u254, u255, u256, u257, u258, u259, u260, u261, u262, u263, u264, u265, u266, u267, u268, u269, u270, u271, u272, u273, u274, u275, u276, u277, u278, u279, u280, u281, u282, u283, u284, u285, u286, u287, u288, u289, u290, u291, u292, u293, u294, u295, u296, u297, u298, u299, u300, u301, u302, u303, u304, u305, u306, u307, u308, u309, u310, u311, u312, u313, u314, u315, u316, u317, u318, u319, u320, u321, u322, u323, u324, u325, u326, u327, u328, u329, u330], []⟩ wc := by
 (try dsimp only)
 conv => arg 2; whnf
 go_upto_region 34 with (first | ((with_reducible refine gtC (f := 20) rfl ?_); refine clz Try.func20 (some 225) #[.slice A0 l0.length c0] ?_; (with_reducible refine (spec_DrawMoveSlope.calls kj164 _ _ l0 t635 t636 t637 t638 t639 t640 _ ?side1 ?side2 A181.out).mono ?_); (case side1 => repeat (first | exact (Kd.C_below HR0.out HB.out) | (with_reducible refine Kd.C_alloc ?_ _) | (with_reducible refine Kd.C_drewN ?_ _) | (with_reducible refine Kd.C_drew ?_))); (case side2 => exact HC0.out); rintro e w185 ⟨rfl, hb⟩; refine ⟨_, rfl, ?_⟩; replace BK573 := bkz BK573 hb; replace BK574 := bkz BK574 hb; replace BK579 := bkz BK579 hb; replace BK587 := bkz BK587 hb; replace BK588 := bkz BK588 hb; replace BK594 := bkz BK594 hb; replace HB := Az.mk (bwT bw_28 hb); (try clear hb)) | ((with_reducible refine gtD (N := 22) rfl ?_); (try (refine gate_guard (by rfl) ?_; dsimp only)); refine bx (N := 22) (cs := #[.int .i64 0, .int .i64 0, .int .i64 0, .int .i64 0]) (t := 41) ?_; intro gb641 hg w186 hbox hb; have BK641 := Az.mk (hbox); have GW641 := gwz hg bw_28; have GE641 := gwz hg bw_28; replace HB := Az.mk (bwT bw_28 hb); have NB573_641 := nlt BK573 hg; have NB641_573 := ngt BK573 hg; replace BK573 := bkz BK573 hb; have NB574_641 := nlt BK574 hg; have NB641_574 := ngt BK574 hg; replace BK574 := bkz BK574 hb; have NB579_641 := nlt BK579 hg; have NB641_579 := ngt BK579 hg; replace BK579 := bkz BK579 hb; have NB587_641 := nlt BK587 hg; have NB641_587 := ngt BK587 hg; replace BK587 := bkz BK587 hb; have NB588_641 := nlt BK588 hg; have NB641_588 := ngt BK588 hg; replace BK588 := bkz BK588 hb; have NB594_641 := nlt BK594 hg; have NB641_594 := ngt BK594 hg; replace BK594 := bkz BK594 hb; clear hb hbox hg) | ((with_reducible refine gtD (N := 23) rfl ?_); (try (refine gate_guard (by rfl) ?_; dsimp only)); refine bx (N := 23) (cs := #[.int .i64 0, .int .i64 0]) (t := 25) ?_; intro gb642 hg w187 hbox hb; have BK642 := Az.mk (hbox); have GW642 := gwz hg bw_28; have GE642 := gwz hg bw_28; replace HB := Az.mk (bwT bw_28 hb); have NB573_642 := nlt BK573 hg; have NB642_573 := ngt BK573 hg; replace BK573 := bkz BK573 hb; have NB574_642 := nlt BK574 hg; have NB642_574 := ngt BK574 hg; replace BK574 := bkz BK574 hb; have NB579_642 := nlt BK579 hg; have NB642_579 := ngt BK579 hg; replace BK579 := bkz BK579 hb; have NB587_642 := nlt BK587 hg; have NB642_587 := ngt BK587 hg; replace BK587 := bkz BK587 hb; have NB588_642 := nlt BK588 hg; have NB642_588 := ngt BK588 hg; replace BK588 := bkz BK588 hb; have NB594_642 := nlt BK594 hg; have NB642_594 := ngt BK594 hg; replace BK594 := bkz BK594 hb; have NB641_642 := nlt BK641 hg; have NB642_641 := ngt BK641 hg; replace BK641 := bkz BK641 hb; clear hb hbox hg; have hnb188 := NB641_573.out; have hnc188 := NB573_641.out; have hnb189 := NB641_574.out; have hnc189 := NB574_641.out; have hnb190 := NB641_579.out; have hnc190 := NB579_641.out; have hnb191 := NB641_587.out; have hnc191 := NB587_641.out; have hnb192 := NB641_588.out; have hnc192 := NB588_641.out; have hnb193 := NB641_594.out; have hnc193 := NB594_641.out; have hnb194 := NB641_642.out; have hnc194 := NB642_641.out; obtain ⟨hcz195_0, hcz195_1, hcz195_2, hcz195_3, hfz195_0, hfz195_1, hfz195_2, hfz195_3⟩ := bq4 BK641; have hnb196 := NB642_573.out; have hnc196 := NB573_642.out; have hnb197 := NB642_574.out; have hnc197 := NB574_642.out; have hnb198 := NB642_579.out; have hnc198 := NB579_642.out; have hnb199 := NB642_587.out; have hnc199 := NB587_642.out; have hnb200 := NB642_588.out; have hnc200 := NB588_642.out; have hnb201 := NB642_594.out; have hnc201 := NB594_642.out; obtain ⟨hcz202_0, hcz202_1, hfz202_0, hfz202_1⟩ := bq2 BK642; have hnb203 := NB573_574.out; have hnc203 := NB574_573.out; have hnb204 := NB573_579.out; have hnc204 := NB579_573.out; have hnb205 := NB573_587.out; have hnc205 := NB587_573.out; have hnb206 := NB573_588.out; have hnc206 := NB588_573.out; have hnb207 := NB573_594.out; have hnc207 := NB594_573.out; obtain ⟨hcz208_0, hcz208_1, hfz208_0, hfz208_1⟩ := bq2 BK573) | ((with_reducible refine gtC (f := 21) rfl ?_); refine clz Try.func21 (some 231) #[.agg #[.int .i64 t635, .int .i64 t636, .int .i64 t637, .int .i64 t638], .agg #[.int .i64 t569, .int .i64 t570]] ?_; (with_reducible refine (spec_MoveSlope.calls kj164 t635 t636 t637 t638 t569 t570 t643 t644 t645 _ A182.out).mono ?_); rintro e w209 ⟨rfl, hb⟩; refine ⟨_, rfl, ?_⟩; replace BK573 := Az.mk (bkB (g := gb573) (o := .cells #[.int .i64 t569, .int .i64 t570] 25 (0, 0)) bkv hb); replace BK574 := Az.mk (bkB (g := gb574) (o := .cells #[.int .i64 t571, .int .i64 t572] 25 (0, 0)) bkv hb); replace BK579 := Az.mk (bkB (g := gb579) (o := .cells #[.int .i64 t576, .int .i64 t577] 25 (0, 0)) bkv hb); replace BK587 := Az.mk (bkB (g := gb587) (o := .cells #[.int .i64 t583, .int .i64 t584] 25 (0, 0)) bkv hb); replace BK588 := Az.mk (bkB (g := gb588) (o := .cells #[.int .i64 t585, .int .i64 t586] 25 (0, 0)) bkv hb); replace BK594 := Az.mk (bkB (g := gb594) (o := .cells #[.int .i64 t592, .int .i64 t593] 25 (0, 0)) bkv hb); replace BK641 := Az.mk (bkB (g := gb641) (o := .cells #[.int .i64 t635, .int .i64 t636, .int .i64 t637, .int .i64 t638] 41 (0, 0)) bkv hb); replace BK642 := Az.mk (bkB (g := gb642) (o := .cells #[.int .i64 t639, .int .i64 t640] 25 (0, 0)) bkv hb); replace HB := Az.mk (bwT bw_28 hb); (try clear hb)) | ((with_reducible refine gtD (N := 24) rfl ?_); (try (refine gate_guard (by rfl) ?_; dsimp only)); refine bx (N := 24) (cs := #[.int .i64 0, .int .i64 0]) (t := 25) ?_; intro gb646 hg w210 hbox hb; have BK646 := Az.mk (hbox); have GW646 := gwz hg bw_28; have GE646 := gwz hg bw_28; replace HB := Az.mk (bwT bw_28 hb); have NB573_646 := nlt BK573 hg; have NB646_573 := ngt BK573 hg; replace BK573 := bkz BK573 hb; have NB574_646 := nlt BK574 hg; have NB646_574 := ngt BK574 hg; replace BK574 := bkz BK574 hb; have NB579_646 := nlt BK579 hg; have NB646_579 := ngt BK579 hg; replace BK579 := bkz BK579 hb; have NB587_646 := nlt BK587 hg; have NB646_587 := ngt BK587 hg; replace BK587 := bkz BK587 hb; have NB588_646 := nlt BK588 hg; have NB646_588 := ngt BK588 hg; replace BK588 := bkz BK588 hb; have NB594_646 := nlt BK594 hg; have NB646_594 := ngt BK594 hg; replace BK594 := bkz BK594 hb; have NB641_646 := nlt BK641 hg; have NB646_641 := ngt BK641 hg; replace BK641 := bkz BK641 hb; have NB642_646 := nlt BK642 hg; have NB646_642 := ngt BK642 hg; replace BK642 := bkz BK642 hb; clear hb hbox hg; have hnb211 := NB646_573.out; have hnc211 := NB573_646.out; have hnb212 := NB646_574.out; have hnc212 := NB574_646.out; have hnb213 := NB646_579.out; have hnc213 := NB579_646.out; have hnb214 := NB646_587.out; have hnc214 := NB587_646.out; have hnb215 := NB646_588.out; have hnc215 := NB588_646.out; have hnb216 := NB646_594.out; have hnc216 := NB594_646.out; have hnb217 := NB646_641.out; have hnc217 := NB641_646.out; have hnb218 := NB646_642.out; have hnc218 := NB642_646.out; obtain ⟨hcz219_0, hcz219_1, hfz219_0, hfz219_1⟩ := bq2 BK646; obtain ⟨hcz220_0, hcz220_1, hcz220_2, hcz220_3, hfz220_0, hfz220_1, hfz220_2, hfz220_3⟩ := bq4 BK641; have hnb221 := NB574_579.out; have hnc221 := NB579_574.out; have hnb222 := NB574_587.out; have hnc222 := NB587_574.out; have hnb223 := NB574_588.out; have hnc223 := NB588_574.out; have hnb224 := NB574_594.out; have hnc224 := NB594_574.out; obtain ⟨hcz225_0, hcz225_1, hfz225_0, hfz225_1⟩ := bq2 BK574) | ((with_reducible refine gtC (f := 21) rfl ?_); refine clz Try.func21 (some 237) #[.agg #[.int .i64 t635, .int .i64 t636, .int .i64 t637, .int .i64 t638], .agg #[.int .i64 t571, .int .i64 t572]] ?_; (with_reducible refine (spec_MoveSlope.calls kj164 t635 t636 t637 t638 t571 t572 t647 t648 t649 _ A183.out).mono ?_); rintro e w226 ⟨rfl, hb⟩; refine ⟨_, rfl, ?_⟩; replace BK573 := Az.mk (bkB (g := gb573) (o := .cells #[.int .i64 t569, .int .i64 t570] 25 (0, 0)) bkv hb); replace BK574 := Az.mk (bkB (g := gb574) (o := .cells #[.int .i64 t571, .int .i64 t572] 25 (0, 0)) bkv hb); replace BK579 := Az.mk (bkB (g := gb579) (o := .cells #[.int .i64 t576, .int .i64 t577] 25 (0, 0)) bkv hb); replace BK587 := Az.mk (bkB (g := gb587) (o := .cells #[.int .i64 t583, .int .i64 t584] 25 (0, 0)) bkv hb); replace BK588 := Az.mk (bkB (g := gb588) (o := .cells #[.int .i64 t585, .int .i64 t586] 25 (0, 0)) bkv hb); replace BK594 := Az.mk (bkB (g := gb594) (o := .cells #[.int .i64 t592, .int .i64 t593] 25 (0, 0)) bkv hb); replace BK641 := Az.mk (bkB (g := gb641) (o := .cells #[.int .i64 t635, .int .i64 t636, .int .i64 t637, .int .i64 t638] 41 (0, 0)) bkv hb); replace BK642 := Az.mk (bkB (g := gb642) (o := .cells #[.int .i64 t639, .int .i64 t640] 25 (0, 0)) bkv hb); replace BK646 := Az.mk (bkB (g := gb646) (o := .cells #[.int .i64 t643, .int .i64 t644] 25 (0, 0)) bkv hb); replace HB := Az.mk (bwT bw_28 hb); (try clear hb)) | ((with_reducible refine gtD (N := 26) rfl ?_); (try (refine gate_guard (by rfl) ?_; dsimp only)); refine bx (N := 26) (cs := #[.int .i64 0, .int .i64 0]) (t := 25) ?_; intro gb650 hg w227 hbox hb; have BK650 := Az.mk (hbox); have GW650 := gwz hg bw_28; have GE650 := gwz hg bw_28; replace HB := Az.mk (bwT bw_28 hb); have NB573_650 := nlt BK573 hg; have NB650_573 := ngt BK573 hg; replace BK573 := bkz BK573 hb; have NB574_650 := nlt BK574 hg; have NB650_574 := ngt BK574 hg; replace BK574 := bkz BK574 hb; have NB579_650 := nlt BK579 hg; have NB650_579 := ngt BK579 hg; replace BK579 := bkz BK579 hb; have NB587_650 := nlt BK587 hg; have NB650_587 := ngt BK587 hg; replace BK587 := bkz BK587 hb; have NB588_650 := nlt BK588 hg; have NB650_588 := ngt BK588 hg; replace BK588 := bkz BK588 hb; have NB594_650 := nlt BK594 hg; have NB650_594 := ngt BK594 hg; replace BK594 := bkz BK594 hb; have NB641_650 := nlt BK641 hg; have NB650_641 := ngt BK641 hg; replace BK641 := bkz BK641 hb; have NB642_650 := nlt BK642 hg; have NB650_642 := ngt BK642 hg; replace BK642 := bkz BK642 hb; have NB646_650 := nlt BK646 hg; have NB650_646 := ngt BK646 hg; replace BK646 := bkz BK646 hb; clear hb hbox hg; have hnb228 := NB650_573.out; have hnc228 := NB573_650.out; have hnb229 := NB650_574.out; have hnc229 := NB574_650.out; have hnb230 := NB650_579.out; have hnc230 := NB579_650.out; have hnb231 := NB650_587.out; have hnc231 := NB587_650.out; have hnb232 := NB650_588.out; have hnc232 := NB588_650.out; have hnb233 := NB650_594.out; have hnc233 := NB594_650.out; have hnb234 := NB650_641.out; have hnc234 := NB641_650.out; have hnb235 := NB650_642.out; have hnc235 := NB642_650.out; have hnb236 := NB650_646.out; have hnc236 := NB646_650.out; obtain ⟨hcz237_0, hcz237_1, hfz237_0, hfz237_1⟩ := bq2 BK650))
 (try simp only [Act.put, List.setIfInBounds_toArray, List.set_cons_zero, List.set_cons_succ])
 go_cut [250] (fun v250 wc => ∃ (kq : Nat) (x250_183 : Bool), v250 = .bool x250_183 ∧ Az (laws_FnFarey.j4 kq t575 t645 x250_183 t569 t570 t571 t572 t639 t640 = some r) ∧ Az (kq ≤ kj164) ∧ Az (wc.heap[gb573]? = some (.cells #[.int .i64 t569, .int .i64 t570] 25 (0, 0))) ∧ Az (wc.heap[gb574]? = some (.cells #[.int .i64 t571, .int .i64 t572] 25 (0, 0))) ∧ Az (wc.heap[gb579]? = some (.cells #[.int .i64 t576, .int .i64 t577] 25 (0, 0))) ∧ Az (wc.heap[gb587]? = some (.cells #[.int .i64 t583, .int .i64 t584] 25 (0, 0))) ∧ Az (wc.heap[gb588]? = some (.cells #[.int .i64 t585, .int .i64 t586] 25 (0, 0))) ∧ Az (wc.heap[gb594]? = some (.cells #[.int .i64 t592, .int .i64 t593] 25 (0, 0))) ∧ Az (wc.heap[gb641]? = some (.cells #[.int .i64 t635, .int .i64 t636, .int .i64 t637, .int .i64 t638] 41 (0, 0))) ∧ Az (wc.heap[gb642]? = some (.cells #[.int .i64 t639, .int .i64 t640] 25 (0, 0))) ∧ Az (wc.heap[gb646]? = some (.cells #[.int .i64 t643, .int .i64 t644] 25 (0, 0))) ∧ Az (wc.heap[gb650]? = some (.cells #[.int .i64 t647, .int .i64 t648] 25 (0, 0))) ∧ Az (Below w.heap.size w wc))
 case first =>
  have H := HC184.out
  clear HC184
  by_cases c238 : t645 = true
  rotate_left
  ·replace c238 := Bool.eq_false_iff.mpr c238
   subst c238
   rw [if_neg (show ¬ (false = true) by decide)] at H
   have H' := Az.mk H
   clear H
   go_wp2
   go_meet
   case rel => exact ⟨_, (false), rq2, H', ⟨by have := HJ23.out; have := HK2.out; have := HJ149.out; have := HJ164.out; first | omega | exact Nat.le_refl _⟩, ⟨bkv⟩, ⟨bkv⟩, ⟨bkv⟩, ⟨bkv⟩, ⟨bkv⟩, ⟨bkv⟩, ⟨bkv⟩, ⟨bkv⟩, ⟨bkv⟩, ⟨bkv⟩, ⟨bw_28⟩⟩
  subst c238
  rw [if_pos rfl] at H
  by_cases c239 : t649 = true
  rotate_left
  ·replace c239 := Bool.eq_false_iff.mpr c239
   subst c239
   rw [if_neg (show ¬ (false = true) by decide)] at H
   have H' := Az.mk H
   clear H
   go_wp2
   go_meet
   case rel => exact ⟨_, (false), rq2, H', ⟨by have := HJ23.out; have := HK2.out; have := HJ149.out; have := HJ164.out; first | omega | exact Nat.le_refl _⟩, ⟨bkv⟩, ⟨bkv⟩, ⟨bkv⟩, ⟨bkv⟩, ⟨bkv⟩, ⟨bkv⟩, ⟨bkv⟩, ⟨bkv⟩, ⟨bkv⟩, ⟨bkv⟩, ⟨bw_28⟩⟩
  subst c239
  rw [if_pos rfl] at H
  replace H := bez H
  obtain ⟨t651, A240, H⟩ := H
  try dsimp only at H
  have H' := Az.mk H
  clear H
  have hnb241 := NB646_573.out
  have hnc241 := NB573_646.out
  have hnb242 := NB646_574.out
  have hnc242 := NB574_646.out
  have hnb243 := NB646_579.out
  have hnc243 := NB579_646.out
  have hnb244 := NB646_587.out
  have hnc244 := NB587_646.out
  have hnb245 := NB646_588.out
  have hnc245 := NB588_646.out
  have hnb246 := NB646_594.out
  have hnc246 := NB594_646.out
  have hnb247 := NB646_641.out
  have hnc247 := NB641_646.out
  have hnb248 := NB646_642.out
  have hnc248 := NB642_646.out
  have hnb249 := NB646_650.out
  have hnc249 := NB650_646.out
  have hcz250_0 := bkc0 BK646
  have hcz250_1 := bkc1 BK646
  have hfz250_0 := bkF BK646.out 0
  have hfz250_1 := bkF BK646.out 1
  have hnb251 := NB650_573.out
  have hnc251 := NB573_650.out
  have hnb252 := NB650_574.out
  have hnc252 := NB574_650.out
  have hnb253 := NB650_579.out
  have hnc253 := NB579_650.out
  have hnb254 := NB650_587.out
  have hnc254 := NB587_650.out
  have hnb255 := NB650_588.out
  have hnc255 := NB588_650.out
  have hnb256 := NB650_594.out
  have hnc256 := NB594_650.out
  have hnb257 := NB650_641.out
  have hnc257 := NB641_650.out
  have hnb258 := NB650_642.out
  have hnc258 := NB642_650.out
  have hcz259_0 := bkc0 BK650
  have hcz259_1 := bkc1 BK650
  have hfz259_0 := bkF BK650.out 0
  have hfz259_1 := bkF BK650.out 1
  go_wp2_with (first | (go_at_call 6; (with_reducible refine (impl_SlopeDistance.calls kj164 t643 t644 t647 t648 t651 _ A240.out).mono ?_); rintro e w260 ⟨rfl, hb⟩; replace BK573 := Az.mk (bkB (g := gb573) (o := .cells #[.int .i64 t569, .int .i64 t570] 25 (0, 0)) bkv hb); replace BK574 := Az.mk (bkB (g := gb574) (o := .cells #[.int .i64 t571, .int .i64 t572] 25 (0, 0)) bkv hb); replace BK579 := Az.mk (bkB (g := gb579) (o := .cells #[.int .i64 t576, .int .i64 t577] 25 (0, 0)) bkv hb); replace BK587 := Az.mk (bkB (g := gb587) (o := .cells #[.int .i64 t583, .int .i64 t584] 25 (0, 0)) bkv hb); replace BK588 := Az.mk (bkB (g := gb588) (o := .cells #[.int .i64 t585, .int .i64 t586] 25 (0, 0)) bkv hb); replace BK594 := Az.mk (bkB (g := gb594) (o := .cells #[.int .i64 t592, .int .i64 t593] 25 (0, 0)) bkv hb); replace BK641 := Az.mk (bkB (g := gb641) (o := .cells #[.int .i64 t635, .int .i64 t636, .int .i64 t637, .int .i64 t638] 41 (0, 0)) bkv hb); replace BK642 := Az.mk (bkB (g := gb642) (o := .cells #[.int .i64 t639, .int .i64 t640] 25 (0, 0)) bkv hb); replace BK646 := Az.mk (bkB (g := gb646) (o := .cells #[.int .i64 t643, .int .i64 t644] 25 (0, 0)) bkv hb); replace BK650 := Az.mk (bkB (g := gb650) (o := .cells #[.int .i64 t647, .int .i64 t648] 25 (0, 0)) bkv hb); replace HB := Az.mk (bwT bw_28 hb); (try clear hb)))
  go_meet
  case rel => exact ⟨_, ((t651 != t575)), rq2, H', ⟨by have := HJ23.out; have := HK2.out; have := HJ149.out; have := HJ164.out; first | omega | exact Nat.le_refl _⟩, ⟨bk1 BK573⟩, ⟨bk1 BK574⟩, ⟨bk1 BK579⟩, ⟨bk1 BK587⟩, ⟨bk1 BK588⟩, ⟨bk1 BK594⟩, ⟨bk1 BK641⟩, ⟨bk1 BK642⟩, ⟨bk1 BK646⟩, ⟨bk1 BK650⟩, ⟨bw_28⟩⟩
 clear HC184
 try clear c238
 try clear c239
 try clear hcz195_0
 try clear hcz195_1
 try clear hcz195_2
 try clear hcz195_3
 try clear hcz202_0
 try clear hcz202_1
 try clear hcz208_0
 try clear hcz208_1
 try clear hcz219_0
 try clear hcz219_1
 try clear hcz220_0
 try clear hcz220_1
 try clear hcz220_2
 try clear hcz220_3
 try clear hcz225_0
 try clear hcz225_1
 try clear hcz237_0
 try clear hcz237_1
 try clear hcz250_0
 try clear hcz250_1
 try clear hcz259_0
 try clear hcz259_1
 try clear hfz195_0
 try clear hfz195_1
 try clear hfz195_2
 try clear hfz195_3
 try clear hfz202_0
 try clear hfz202_1
 try clear hfz208_0
 try clear hfz208_1
 try clear hfz219_0
 try clear hfz219_1
 try clear hfz220_0
 try clear hfz220_1
 try clear hfz220_2
 try clear hfz220_3
 try clear hfz225_0
 try clear hfz225_1
 try clear hfz237_0
 try clear hfz237_1
 try clear hfz250_0
 try clear hfz250_1
 try clear hfz259_0
 try clear hfz259_1
 obtain ⟨kq, x250_183, rfl, HA, HJ183, BK573, BK574, BK579, BK587, BK588, BK594, BK641, BK642, BK646, BK650, HB⟩ := hcut
 cases kq with
 | zero => exact absurd HA.out (by simp [laws_FnFarey.j4])
 | succ kj183 =>
  have H := HA.out
  clear HA
  simp only [laws_FnFarey.j4] at H
  by_cases c261 : x250_183 = true
  ·subst c261
   rw [if_pos rfl] at H
   exact absurd H (by simp)
  replace c261 := Bool.eq_false_iff.mpr c261
  subst c261
  rw [if_neg (show ¬ (false = true) by decide)] at H
  have HC262 := Az.mk H
  clear H
  rename_i Kt at_ K0 a0
  have AT := Az.mk at_
  clear at_
  go_wp2
  exact AT.out _ _ (laws_FnFarey.p36 k A0 c0 l0 r w t569 t570 t571 t572 t575 t576 t577 t578 t580 t583 t584 t585 t586 t589 t592 t593 t595 t598 t599 t602 gb573 GE573 gb574 GE574 NB573_574 NB574_573 gb579 GE579 NB573_579 NB579_573 NB574_579 NB579_574 gb587 GE587 NB573_587 NB587_573 NB574_587 NB587_574 gb588 GE588 NB573_588 NB588_573 NB574_588 NB588_574 gb594 GE594 NB573_594 NB594_573 NB574_594 NB594_574 Ao67 co67 Ao72 co72 Ao74 co74 Ao75 co75 nd kj23 HJ23 wr u18 u19 x17_2 k2 HK2 kj149 HJ149 u2 u20 u21 kj164 HJ164 t635 t636 t637 t638 t639 t640 t643 t644 t645 t647 t648 t649 gb641 GE641 NB573_641 NB641_573 NB574_641 NB641_574 gb642 GE642 NB573_642 NB642_573 NB574_642 NB642_574 NB579_642 NB642_579 NB587_642 NB642_587 NB588_642 NB642_588 NB594_642 NB642_594 NB641_642 NB642_641 gb646 GE646 NB573_646 NB646_573 NB574_646 NB646_574 NB642_646 NB646_642 gb650 GE650 NB573_650 NB650_573 NB574_650 NB650_574 NB642_650 NB650_642 wc u30 u31 u32 u33 u34 u35 u36 u37 u38 u39 u40 u41 u42 u43 u44 u45 u46 u47 u48 u49 u50 u51 u52 u53 u54 u55 u56 u57 u58 u59 u60 u61 u62 u63 u64 u65 u66 u67 u68 u69 u70 u71 u72 u73 u74 u75 u76 u77 u78 u79 u80 u81 u82 u83 u84 u85 u86 u87 u88 u89 u90 u91 u92 u93 u94 u95 u96 u97 u98 u99 u100 u101 u102 u103 u104 u105 u106 u107 u108 u109 u110 u111 u112 u113 u114 u115 u116 u117 u118 u119 u120 u121 u122 u123 u124 u125 u126 u127 u128 u129 u130 u131 u132 u133 u134 u135 u136 u137 u138 u139 u140 u141 u142 u143 u144 u145 u146 u147 u148 u149 u150 u151 u152 u153 u154 u155 u156 u157 u158 u159 u160 u161 u162 u163 u164 u165 u166 u167 u168 u169 u170 u171 u172 u173 u174 u175 u176 u177 u178 u179 u180 u181 u182 u183 u184 u185 u186 u187 u188 u189 u190 u191 u192 u193 u194 u195 u196 u197 u198 u199 u200 u201 u202 u203 u204 u205 u206 u207 u208 u209 u210 u211 u212 u213 u214 u215 u216 u217 u218 u219 u220 u221 u222 u223 u224 u225 u226 u227 u228 u229 u230 u231 u232 u233 u234 u235 u236 u237 u238 u239 u240 u241 u242 u243 u244 u245 u246 u247 u248 u249 u251 u252 u253 u254 u255 u256 u257 u258 u259 u260 u261 u262 u263 u264 u265 u266 u267 u268 u269 u270 u271 u272 u273 u274 u275 u276 u277 u278 u279 u280 u281 u282 u283 u284 u285 u286 u287 u288 u289 u290 u291 u292 u293 u294 u295 u296 u297 u298 u299 u300 u301 u302 u303 u304 u305 u306 u307 u308 u309 u310 u311 u312 u313 u314 u315 u316 u317 u318 u319 u320 u321 u322 u323 u324 u325 u326 u327 u328 u329 u330 BK573 BK574 BK579 BK587 BK588 BK594 BK641 BK642 BK646 BK650 HB kj183 HJ183 HC262)
end Go.Proofs.Ytigcjehokbgclaa.P
