-- By this session's driver (wip/tools/mk.py) of the kit's print program, over several statements at once. Not trusted: Lean checks it.
import Derived.Test.YtkmjcdlhlhefdaaQWZip
import Derived.Test.YtkmjcdlhlhefdaaQPx0
import Derived.Test.YtkmjcdlhlhefdaaQPx1
import Derived.Test.YtkmjcdlhlhefdaaQPx2
import Derived.Test.YtkmjcdlhlhefdaaQPx5
import Derived.Test.YtkmjcdlhlhefdaaQPx10
import Derived.Test.YtkmjcdlhlhefdaaQPx12
import Derived.Test.YtkmjcdlhlhefdaaQPx15
import Derived.Test.YtkmjcdlhlhefdaaQPx16
import Derived.Test.YtkmjcdlhlhefdaaQPx17
import Derived.Test.YtkmjcdlhlhefdaaQPx18
import Derived.Test.YtkmjcdlhlhefdaaQPx21
import Derived.Test.YtkmjcdlhlhefdaaQPx22
import Derived.Test.YtkmjcdlhlhefdaaQPx23
import Derived.Test.YtkmjcdlhlhefdaaQPx24
import Derived.Test.YtkmjcdlhlhefdaaQPx25
import Derived.Test.YtkmjcdlhlhefdaaQPx26
import Derived.Test.YtkmjcdlhlhefdaaQPx28
namespace Go.Proofs.Ytkmjcdlhlhefdaa.P
open Go.RowKit Go.Proofs.YtkmjcdlhlhefdaaW.PrintWords Go.Proofs.YtkmjcdlhlhefdaaW.PrintLast Go.Proofs.YtkmjcdlhlhefdaaW.PrintMore
attribute [local go_sem] max2_int min2_int max_two min_two max_three min_three max_four min_four   -- for this text's walks alone
set_option linter.unusedVariables false
set_option linter.unusedSimpArgs false

theorem bw_29 {n : Nat} {v v' : World} (h : Below n v v' := by repeat (first | (with_reducible first | exact HB.out | apply bwA | apply pbN | apply bwD) | exact HB.out)) : Below n v v' := h

set_option maxHeartbeats 8000000 in
set_option maxRecDepth 100000 in
theorem laws_FnGauss.p27 (A0 : Option Addr) (c0 : Nat) (l0 : List Int) (r : Bool) (w : World) (t607 : List Int) (t610 : Int) (t611 : List Int) (t612 t613 : Int) (t616 : List Int) (t617 : Int) (t620 : List Int) (t621 : Bool) (t624 : List Int) (t625 : Bool) (t628 : List Int) (t629 : Int) (t632 : List Int) (t633 : Bool) (t636 : List Int) (t637 : Bool) (t640 t643 : List Int) (Ao39 : Option Addr) (co39 : Nat) (Ao43 : Option Addr) (co43 : Nat) (Ao47 : Option Addr) (co47 : Nat) (Ao53 : Option Addr) (co53 : Nat) (Ao55 : Option Addr) (co55 : Nat) (Ao56 : Option Addr) (co56 : Nat) (Ao57 : Option Addr) (co57 : Nat) (Ao58 : Option Addr) (co58 : Nat) (Ao60 : Option Addr) (co60 : Nat) (Ao63 : Option Addr) (co63 : Nat) (u23 u24 u25 u26 u27 u28 u29 u30 u31 u32 u33 u34 u35 u36 u37 u38 u39 u40 u41 u42 u43 u44 u45 u46 u47 u48 u49 u50 u51 u52 u53 u54 u55 u56 u57 u58 u59 u60 u61 u62 u63 u64 u65 u66 u67 u68 u69 u70 u71 u72 u73 u74 u75 u76 u77 u78 u79 u80 u81 u82 u83 u84 u85 u86 u87 u88 u89 u90 u91 u92 u93 u94 u95 u96 u97 u98 u99 u100 u101 u102 u103 u104 u105 u106 u107 u108 u109 u110 u111 u112 u113 u114 u115 u116 u117 u118 u119 u120 u121 u122 u123 u124 u125 u126 u127 u128 u129 u130 u131 u132 u133 u134 u135 u136 u137 u138 u139 u140 u141 u142 u143 u144 u145 u146 u147 u148 u149 u150 u151 u152 u153 u154 u155 u156 u157 u158 u159 u160 u161 u162 u163 u164 u165 u166 u167 u168 u169 u170 u171 u172 u173 u174 u175 u176 u177 u178 u179 u180 u181 u186 u187 u188 u189 u190 u191 u192 u209 u210 u211 u212 u213 u214 u215 u216 u217 u218 u219 u220 u221 u222 u223 u224 u225 u226 u227 u228 u229 u230 u231 u232 u233 : Value) (nd : Nat) (wc : World) (u2 u22 u193 u194 u195 u196 u197 u198 u199 u200 u201 u202 u203 u204 u205 u206 u207 u208 : Value) (HO_3 : Az (Kd.R (Kd.int IntKind.i64) 3 wc (w.heap.size) (fun (k_ : Nat) => some k_ ≠ Value.ownBlock (Value.slice Ao60 (List.length t640) co60) ∧ some k_ ≠ Value.ownBlock (Value.slice Ao63 (List.length t643) co63)) (Value.slice Ao39 (List.length t607) co39) t607)) (HO_20 : Az (Kd.R (Kd.int IntKind.i64) 3 wc (w.heap.size) (fun (k_ : Nat) => some k_ ≠ Value.ownBlock (Value.slice Ao39 (List.length t607) co39) ∧ some k_ ≠ Value.ownBlock (Value.slice Ao63 (List.length t643) co63)) (Value.slice Ao60 (List.length t640) co60) t640)) (HO_21 : Az (Kd.R (Kd.int IntKind.i64) 3 wc (w.heap.size) (fun (k_ : Nat) => some k_ ≠ Value.ownBlock (Value.slice Ao39 (List.length t607) co39) ∧ some k_ ≠ Value.ownBlock (Value.slice Ao60 (List.length t640) co60)) (Value.slice Ao63 (List.length t643) co63) t643)) (HB : Az (Below (w.heap.size) w wc)) (kj91 : Nat) (t672 : Int) (H : (if Int.tmod t672 2 = 0 then Option.bind (spec_TurnWord.f kj91 t607 1) fun (t673 : List Int) => Option.bind (impl_CurveGenus.f kj91 t673) fun (t676 : Int) => if t676 = t610 then Option.bind (impl_CurveGenus.f kj91 t643) fun (t677 : Int) => if t677 = t610 then some (Decidable.decide (t610 ≤ wrap64 (wrap64 ((↑(List.length t607) : Int) / 4) + 1))) else none else none else none) = some r) (A99 : Az (laws_total.f kj91 t640 = some t672)) :
  Code.wp Try.prog (tailOf (Try.f3.body.getD .skip) 18) (bodyPost Try.prog Try.f3 (fun e w' => e = .returned (.bool r) ∧ Below w.heap.size w w')) ⟨#[Value.slice A0 (List.length l0) c0, undef, u2, Value.slice Ao39 (List.length t607) co39, Value.int IntKind.i64 t610, Value.slice Ao53 (List.length t611) co53, Value.int IntKind.i64 t612, Value.int IntKind.i64 t613, Value.slice Ao43 (List.length t616) co43, Value.int IntKind.i64 t617, Value.slice Ao55 (List.length t620) co55, Value.bool t621, Value.slice Ao56 (List.length t624) co56, Value.bool t625, Value.slice Ao47 (List.length t628) co47, Value.int IntKind.i64 t629, Value.slice Ao57 (List.length t632) co57, Value.bool t633, Value.slice Ao58 (List.length t636) co58, Value.bool t637, Value.slice Ao60 (List.length t640) co60, Value.slice Ao63 (List.length t643) co63, u22, u23, u24, u25, u26, u27, u28, u29, u30, u31, u32, u33, u34, u35, u36, u37, u38, u39, u40, u41, u42, u43, u44, u45, u46, u47, u48, u49, u50, u51, u52, u53, u54, u55, u56, u57, u58, u59, u60, u61, u62, u63, u64, u65, u66, u67, u68, u69, u70, u71, u72, u73, u74, u75, u76, u77, u78, u79, u80, u81, u82, u83, u84, u85, u86, u87, u88, u89, u90, u91, u92, u93, u94, u95, u96, u97, u98, u99, u100, u101, u102, u103, u104, u105, u106, u107, u108, u109, u110, u111, u112, u113, u114, u115, u116, u117, u118, u119, u120, u121, u122, u123, u124, u125, u126, u127, u128, u129, u130, u131, u132, u133, u134, u135, u136, u137, u138, u139, u140, u141, u142, u143, u144, u145, u146, u147, u148, u149, u150, u151, u152, u153, u154, u155, u156, u157, u158, u159, u160, u161, u162, u163, u164, u165, u166, u167, u168, u169, u170, u171, u172, u173, u174, u175, u176, u177, u178, u179, u180, u181, Value.bool false, Value.slice Ao39 (List.length t607) co39, Value.bool true, Value.bool false, u186, u187, u188, u189, u190, u191, u192, u193, u194, u195, u196, u197, u198, u199, u200, u201, u202, u203, u204, u205, u206, u207, u208, u209, u210, u211, u212, u213, u214, u215, u216, u217, u218, u219, u220, u221, u222, u223, u224, u225, u226, u227, u228, u229, u230, u231, u232, u233], []⟩ wc := by
 (try dsimp only)
 conv => arg 2; whnf
 by_cases c100 : (Int.tmod t672 2) = 0
 rotate_left
 ·rw [if_neg c100] at H
  exact absurd H (by simp)
 rw [if_pos c100] at H
 have c100b0 : ((Int.tmod t672 2) == 0) = true := beq_iff_eq.mpr c100
 have c100b1 : ((Int.tmod t672 2) != 0) = false := bne_eq_false_iff_eq.mpr c100
 clear c100
 replace H := bez H
 obtain ⟨t673, A101, H⟩ := H
 try dsimp only at H
 replace H := bez H
 obtain ⟨t676, A102, H⟩ := H
 try dsimp only at H
 by_cases c103 : t676 = t610
 rotate_left
 ·rw [if_neg c103] at H
  exact absurd H (by simp)
 rw [if_pos c103] at H
 have c103b0 : (t676 == t610) = true := beq_iff_eq.mpr c103
 have c103b1 : (t676 != t610) = false := bne_eq_false_iff_eq.mpr c103
 clear c103
 replace H := bez H
 obtain ⟨t677, A104, H⟩ := H
 try dsimp only at H
 by_cases c105 : t677 = t610
 rotate_left
 ·rw [if_neg c105] at H
  exact absurd H (by simp)
 rw [if_pos c105] at H
 have c105b0 : (t677 == t610) = true := beq_iff_eq.mpr c105
 have c105b1 : (t677 != t610) = false := bne_eq_false_iff_eq.mpr c105
 clear c105
 obtain rfl := Option.some.inj H
 go_wp2_with (first | ((with_reducible refine gtC (f := 28) rfl ?_); refine clz Try.func28 (some 210) #[.slice Ao60 t640.length co60] ?_; (with_reducible refine (laws_total.calls kj91 _ _ t640 t672 _ ?side1 ?side2 A99.out).mono ?_); (case side1 => exact kC (Kd.R_reads' HO_20.out).2.2); (case side2 => exact (Kd.R_reads' HO_20.out).2.1); rintro e w' ⟨rfl, ⟨nd, rfl⟩⟩; refine ⟨_, rfl, ?_⟩) | (go_at_call 29; (with_reducible refine (spec_TurnWord.calls kj91 _ _ t607 1 t673 _ ?side1 ?side2 A101.out).mono ?_); (case side1 => exact kC (Kd.R_reads' HO_3.out).2.2); (case side2 => exact (Kd.R_reads' HO_3.out).2.1); rintro e w106 ⟨v674, rfl, ho0, hb⟩; have HO675 := Az.mk (Kd.R_lower (Kd.R_new' (Kd.R_new' (Kd.R_new' ho0 (Kd.R_lt (kR HO_3.out))) (Kd.R_lt (kR HO_20.out))) (Kd.R_lt (kR HO_21.out))) (bwZ bw_29)); replace HO_3 := Az.mk (Kd.R_elder' (kR HO_3.out) (Kd.R_base ho0) hb); replace HO_20 := Az.mk (Kd.R_elder' (kR HO_20.out) (Kd.R_base ho0) hb); replace HO_21 := Az.mk (Kd.R_elder' (kR HO_21.out) (Kd.R_base ho0) hb); replace HB := Az.mk (bwT bw_29 hb); (try clear hb); (try clear ho0); obtain ⟨Ao107, co107, eo107⟩ := Kd.R_slice HO675.out; subst eo107) | (go_at_call 6; (with_reducible refine (impl_CurveGenus.calls kj91 _ _ t673 t676 _ ?side1 ?side2 A102.out).mono ?_); (case side1 => exact kC (Kd.R_reads' HO675.out).2.2); (case side2 => exact (Kd.R_reads' HO675.out).2.1); rintro e w108 ⟨rfl, hb⟩; replace HO_3 := Az.mk (Kd.R_below (kR HO_3.out) hb); replace HO_20 := Az.mk (Kd.R_below (kR HO_20.out) hb); replace HO_21 := Az.mk (Kd.R_below (kR HO_21.out) hb); replace HO675 := Az.mk (Kd.R_below (kR HO675.out) hb); replace HB := Az.mk (bwT bw_29 hb); (try clear hb)) | (go_at_call 6; (with_reducible refine (impl_CurveGenus.calls kj91 _ _ t643 t677 _ ?side1 ?side2 A104.out).mono ?_); (case side1 => exact kC (Kd.R_reads' HO_21.out).2.2); (case side2 => exact (Kd.R_reads' HO_21.out).2.1); rintro e w109 ⟨rfl, hb⟩; replace HO_3 := Az.mk (Kd.R_below (kR HO_3.out) hb); replace HO_20 := Az.mk (Kd.R_below (kR HO_20.out) hb); replace HO_21 := Az.mk (Kd.R_below (kR HO_21.out) hb); replace HO675 := Az.mk (Kd.R_below (kR HO675.out) hb); replace HB := Az.mk (bwT bw_29 hb); (try clear hb)))
 go_ret
 exact ⟨rq1, bw_29⟩
end Go.Proofs.Ytkmjcdlhlhefdaa.P
