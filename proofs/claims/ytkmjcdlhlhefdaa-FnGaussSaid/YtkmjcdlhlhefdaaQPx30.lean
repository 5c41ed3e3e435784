-- By this session's driver (wip/tools/mk.py) of the kit's print program, over several statements at once. Not trusted: Lean checks it.
import Derived.Test.YtkmjcdlhlhefdaaQWZip
import Derived.Test.YtkmjcdlhlhefdaaQPx0
import Derived.Test.YtkmjcdlhlhefdaaQPx1
import Derived.Test.YtkmjcdlhlhefdaaQPx2
import Derived.Test.YtkmjcdlhlhefdaaQPx5
import Derived.Test.YtkmjcdlhlhefdaaQPx10
import Derived.Test.YtkmjcdlhlhefdaaQPx12
import Derived.Test.YtkmjcdlhlhefdaaQPx15
import Derived.Test.YtkmjcdlhlhefdaaQPx16
import Derived.Test.YtkmjcdlhlhefdaaQPx17
import Derived.Test.YtkmjcdlhlhefdaaQPx18
import Derived.Test.YtkmjcdlhlhefdaaQPx21
import Derived.Test.YtkmjcdlhlhefdaaQPx22
import Derived.Test.YtkmjcdlhlhefdaaQPx23
import Derived.Test.YtkmjcdlhlhefdaaQPx24
import Derived.Test.YtkmjcdlhlhefdaaQPx25
import Derived.Test.YtkmjcdlhlhefdaaQPx26
import Derived.Test.YtkmjcdlhlhefdaaQPx28
import Derived.Test.YtkmjcdlhlhefdaaQPx29
namespace Go.Proofs.Ytkmjcdlhlhefdaa.P
open Go.RowKit Go.Proofs.YtkmjcdlhlhefdaaW.PrintWords Go.Proofs.YtkmjcdlhlhefdaaW.PrintLast Go.Proofs.YtkmjcdlhlhefdaaW.PrintMore
attribute [local go_sem] max2_int min2_int max_two min_two max_three min_three max_four min_four   -- for this text's walks alone
set_option linter.unusedVariables false
set_option linter.unusedSimpArgs false

theorem bw_30 {n : Nat} {v v' : World} (h : Below n v v' := by repeat (first | (with_reducible first | exact HB.out | apply bwA | apply pbN | apply bwD) | exact HB.out)) : Below n v v' := h

set_option maxHeartbeats 8000000 in
set_option maxRecDepth 100000 in
theorem laws_FnGauss.p20 (k : Nat) (A0 : Option Addr) (c0 : Nat) (l0 : List Int) (r : Bool) (w : World) (t607 : List Int) (t610 : Int) (t611 : List Int) (t612 t613 : Int) (t616 : List Int) (t617 : Int) (t620 : List Int) (t621 : Bool) (t624 : List Int) (t625 : Bool) (t628 : List Int) (t629 : Int) (t632 : List Int) (t633 : Bool) (t636 : List Int) (t637 : Bool) (t640 t643 : List Int) (Ao39 : Option Addr) (co39 : Nat) (Ao43 : Option Addr) (co43 : Nat) (Ao47 : Option Addr) (co47 : Nat) (Ao53 : Option Addr) (co53 : Nat) (Ao55 : Option Addr) (co55 : Nat) (Ao56 : Option Addr) (co56 : Nat) (Ao57 : Option Addr) (co57 : Nat) (Ao58 : Option Addr) (co58 : Nat) (Ao60 : Option Addr) (co60 : Nat) (Ao63 : Option Addr) (co63 nd kj36 : Nat) (HJ36 : Az (kj36 + 1 ≤ k)) (wc : World) (u23 u24 u25 u26 u27 u28 u29 u30 u31 u32 u33 u34 u35 u36 u37 u38 u39 u40 u41 u42 u43 u44 u45 u46 u47 u48 u49 u50 u51 u52 u53 u54 u55 u56 u57 u58 u59 u60 u61 u62 u63 u64 u65 u66 u67 u68 u69 u70 u71 u72 u73 u74 u75 u76 u77 u78 u79 u80 u81 u82 u83 u84 u85 u86 u87 u88 u89 u90 u91 u92 u93 u94 u95 u96 u97 u98 u99 u100 u101 u102 u103 u104 u105 u106 u107 u108 u109 u110 u111 u112 u113 u114 u115 u116 u117 u118 u119 u120 u121 u122 u123 u124 u125 u126 u127 u128 u129 u130 u131 u132 u133 u134 u135 u136 u137 u138 u139 u140 u141 u142 u143 u144 u145 u146 u147 u148 u149 u150 u151 u152 u153 u154 u155 u156 u157 u158 u159 u160 u161 u162 u163 u164 u165 u166 u167 u168 u169 u170 u171 u172 u173 u174 u175 u176 u177 u178 u179 u180 u181 u183 u184 u185 u186 u187 u188 u189 u190 u191 u192 u193 u194 u195 u196 u197 u198 u199 u200 u201 u202 u203 u204 u205 u206 u207 u208 u209 u210 u211 u212 u213 u214 u215 u216 u217 u218 u219 u220 u221 u222 u223 u224 u225 u226 u227 u228 u229 u230 u231 u232 u233 : Value) (HO_3 : Az (Kd.R (Kd.int IntKind.i64) 3 wc (w.heap.size) (fun (k_ : Nat) => some k_ ≠ Value.ownBlock (Value.slice Ao60 (List.length t640) co60) ∧ some k_ ≠ Value.ownBlock (Value.slice Ao63 (List.length t643) co63)) (Value.slice Ao39 (List.length t607) co39) t607)) (HO_20 : Az (Kd.R (Kd.int IntKind.i64) 3 wc (w.heap.size) (fun (k_ : Nat) => some k_ ≠ Value.ownBlock (Value.slice Ao39 (List.length t607) co39) ∧ some k_ ≠ Value.ownBlock (Value.slice Ao63 (List.length t643) co63)) (Value.slice Ao60 (List.length t640) co60) t640)) (HO_21 : Az (Kd.R (Kd.int IntKind.i64) 3 wc (w.heap.size) (fun (k_ : Nat) => some k_ ≠ Value.ownBlock (Value.slice Ao39 (List.length t607) co39) ∧ some k_ ≠ Value.ownBlock (Value.slice Ao60 (List.length t640) co60)) (Value.slice Ao63 (List.length t643) co63) t643)) (HB : Az (Below (w.heap.size) w wc)) (kj84 : Nat) (HJ84 : Az (kj84 + 1 ≤ kj36)) (t670 : Bool) (H : (if t670 = true then laws_FnGauss.l0 kj84 t607 t610 t640 t643 0 else if t610 = -1 then some ((↑(List.length t640) : Int) == 0) else none) = some r) (A90 : Az (spec_IsCrossingWord.f kj84 t607 = some t670)) :
  Code.wp Try.prog (tailOf (Try.f3.body.getD .skip) 16) (bodyPost Try.prog Try.f3 (fun e w' => e = .returned (.bool r) ∧ Below w.heap.size w w')) ⟨#[Value.slice A0 (List.length l0) c0, undef, Value.bool false, Value.slice Ao39 (List.length t607) co39, Value.int IntKind.i64 t610, Value.slice Ao53 (List.length t611) co53, Value.int IntKind.i64 t612, Value.int IntKind.i64 t613, Value.slice Ao43 (List.length t616) co43, Value.int IntKind.i64 t617, Value.slice Ao55 (List.length t620) co55, Value.bool t621, Value.slice Ao56 (List.length t624) co56, Value.bool t625, Value.slice Ao47 (List.length t628) co47, Value.int IntKind.i64 t629, Value.slice Ao57 (List.length t632) co57, Value.bool t633, Value.slice Ao58 (List.length t636) co58, Value.bool t637, Value.slice Ao60 (List.length t640) co60, Value.slice Ao63 (List.length t643) co63, undef, u23, u24, u25, u26, u27, u28, u29, u30, u31, u32, u33, u34, u35, u36, u37, u38, u39, u40, u41, u42, u43, u44, u45, u46, u47, u48, u49, u50, u51, u52, u53, u54, u55, u56, u57, u58, u59, u60, u61, u62, u63, u64, u65, u66, u67, u68, u69, u70, u71, u72, u73, u74, u75, u76, u77, u78, u79, u80, u81, u82, u83, u84, u85, u86, u87, u88, u89, u90, u91, u92, u93, u94, u95, u96, u97, u98, u99, u100, u101, u102, u103, u104, u105, u106, u107, u108, u109, u110, u111, u112, u113, u114, u115, u116, u117, u118, u119, u120, u121, u122, u123, u124, u125, u126, u127, u128, u129, u130, u131, u132, u133, u134, u135, u136, u137, u138, u139, u140, u141, u142, u143, u144, u145, u146, u147, u148, u149, u150, u151, u152, u153, u154, u155, u156, u157, u158, u159, u160, u161, u162, u163, u164, u165, u166, u167, u168, u169, u170, u171, u172, u173, u174, u175, u176, u177, u178, u179, u180, u181, Value.bool false, u183, u184, u185, u186, u187, u188, u189, u190, u191, u192, u193, u194, u195, u196, u197, u198, u199, u200, u201, u202, u203, u204, u205, u206, u207, u208, u209, u210, u211, u212, u213, u214, u215, u216, u217, u218, u219, u220, u221, u222, u223, u224, u225, u226, u227, u228, u229, u230, u231, u232, u233], []⟩ wc := by
 (try dsimp only)
 conv => arg 2; whnf
 by_cases c91 : t670 = true
 rotate_left
 ·replace c91 := Bool.eq_false_iff.mpr c91
  subst c91
  rw [if_neg ff] at H
  by_cases c110 : t610 = (-1)
  rotate_left
  ·rw [if_neg c110] at H
   exact absurd H (by simp)
  rw [if_pos c110] at H
  have c110b0 : (t610 == (-1)) = true := beq_iff_eq.mpr c110
  have c110b1 : (t610 != (-1)) = false := bne_eq_false_iff_eq.mpr c110
  clear c110
  obtain rfl := Option.some.inj H
  go_wp2_with (first | ((with_reducible refine gtC (f := 23) rfl ?_); refine clz Try.func23 (some 184) #[.slice Ao39 t607.length co39] ?_; (with_reducible refine (spec_IsCrossingWord.calls kj84 _ _ t607 false _ ?side1 ?side2 A90.out).mono ?_); (case side1 => exact kC (Kd.R_reads' HO_3.out).2.2); (case side2 => exact (Kd.R_reads' HO_3.out).2.1); rintro e w' ⟨rfl, ⟨nd, rfl⟩⟩; refine ⟨_, rfl, ?_⟩))
  go_ret
  exact ⟨rq1, bw_30⟩
 subst c91
 rw [if_pos rfl] at H
 have HC92 := Az.mk H
 clear H
 go_upto_block 0 with (first | ((with_reducible refine gtC (f := 23) rfl ?_); refine clz Try.func23 (some 184) #[.slice Ao39 t607.length co39] ?_; (with_reducible refine (spec_IsCrossingWord.calls kj84 _ _ t607 true _ ?side1 ?side2 A90.out).mono ?_); (case side1 => exact kC (Kd.R_reads' HO_3.out).2.2); (case side2 => exact (Kd.R_reads' HO_3.out).2.1); rintro e w' ⟨rfl, ⟨nd, rfl⟩⟩; refine ⟨_, rfl, ?_⟩))
 (try simp only [Act.put, List.setIfInBounds_toArray, List.set_cons_zero, List.set_cons_succ])
 go_cut [] (fun wc => ∃ (kq : Nat), Az (laws_FnGauss.j4 kq t607 t610 t640 t643 = some r) ∧ Az (kq ≤ kj84) ∧ Az (Kd.R (Kd.int .i64) 3 wc w.heap.size (fun k_ => some k_ ≠ ((.slice Ao60 t640.length co60) : Value).ownBlock ∧ some k_ ≠ ((.slice Ao63 t643.length co63) : Value).ownBlock) (.slice Ao39 t607.length co39) t607) ∧ Az (Kd.R (Kd.int .i64) 3 wc w.heap.size (fun k_ => some k_ ≠ ((.slice Ao39 t607.length co39) : Value).ownBlock ∧ some k_ ≠ ((.slice Ao63 t643.length co63) : Value).ownBlock) (.slice Ao60 t640.length co60) t640) ∧ Az (Kd.R (Kd.int .i64) 3 wc w.heap.size (fun k_ => some k_ ≠ ((.slice Ao39 t607.length co39) : Value).ownBlock ∧ some k_ ≠ ((.slice Ao60 t640.length co60) : Value).ownBlock) (.slice Ao63 t643.length co63) t643) ∧ Az (Below w.heap.size w wc))
 case first =>
  have H := HC92.out
  clear HC92
  have H' := Az.mk H
  clear H
  go_wp2
  go_loopg [22] kj84 (fun kq v22 w' => ∃ (x22_3 : Int), v22 = .int .i64 x22_3 ∧ Az (laws_FnGauss.l0 kq t607 t610 t640 t643 x22_3 = some r) ∧ Az (kq ≤ kj84) ∧ Az (Kd.R (Kd.int .i64) 3 w' w.heap.size (fun k_ => some k_ ≠ ((.slice Ao60 t640.length co60) : Value).ownBlock ∧ some k_ ≠ ((.slice Ao63 t643.length co63) : Value).ownBlock) (.slice Ao39 t607.length co39) t607) ∧ Az (Kd.R (Kd.int .i64) 3 w' w.heap.size (fun k_ => some k_ ≠ ((.slice Ao39 t607.length co39) : Value).ownBlock ∧ some k_ ≠ ((.slice Ao63 t643.length co63) : Value).ownBlock) (.slice Ao60 t640.length co60) t640) ∧ Az (Kd.R (Kd.int .i64) 3 w' w.heap.size (fun k_ => some k_ ≠ ((.slice Ao39 t607.length co39) : Value).ownBlock ∧ some k_ ≠ ((.slice Ao60 t640.length co60) : Value).ownBlock) (.slice Ao63 t643.length co63) t643) ∧ Az (Below w.heap.size w w'))
  case atStart => exact ⟨(0), rq2, H', ⟨Nat.le_refl _⟩, ⟨kR HO_3.out⟩, ⟨kR HO_20.out⟩, ⟨kR HO_21.out⟩, ⟨bw_30⟩⟩
  clear H'
  try clear c91
  obtain ⟨x22_3, rfl, HA, HK3, HO_3, HO_20, HO_21, HB⟩ := hrel
  cases gk with
  | zero => exact absurd HA.out (by simp [laws_FnGauss.l0])
  | succ k3 =>
   have H := HA.out
   clear HA
   simp only [laws_FnGauss.l0] at H
   have HC93 := Az.mk H
   clear H
   go_upto_region 23 with (fail)
   go_cut [200] (fun v200 wc => ∃ (kq : Nat) (x200_92 : Bool), v200 = .bool x200_92 ∧ Az (laws_FnGauss.j3 kq t607 t610 t640 t643 x22_3 x200_92 = some r) ∧ Az (kq ≤ k3) ∧ Az (Kd.R (Kd.int .i64) 3 wc w.heap.size (fun k_ => some k_ ≠ ((.slice Ao60 t640.length co60) : Value).ownBlock ∧ some k_ ≠ ((.slice Ao63 t643.length co63) : Value).ownBlock) (.slice Ao39 t607.length co39) t607) ∧ Az (Kd.R (Kd.int .i64) 3 wc w.heap.size (fun k_ => some k_ ≠ ((.slice Ao39 t607.length co39) : Value).ownBlock ∧ some k_ ≠ ((.slice Ao63 t643.length co63) : Value).ownBlock) (.slice Ao60 t640.length co60) t640) ∧ Az (Kd.R (Kd.int .i64) 3 wc w.heap.size (fun k_ => some k_ ≠ ((.slice Ao39 t607.length co39) : Value).ownBlock ∧ some k_ ≠ ((.slice Ao60 t640.length co60) : Value).ownBlock) (.slice Ao63 t643.length co63) t643) ∧ Az (Below w.heap.size w wc))
   case first =>
    have H := HC93.out
    clear HC93
    by_cases c94 : x22_3 < (t640.length : Int)
    ·rw [if_pos c94] at H
     have c94b0 : decide (x22_3 < (t640.length : Int)) = true := decide_eq_true c94
     clear c94
     (first | rw [c94b0] | (simp only [i64_w, i32_w]; rw [c94b0]) | skip)
     have H' := Az.mk H
     clear H
     go_wp2
     go_meet
     case rel => exact ⟨_, ((t610 == 0)), rq2, H', ⟨by have := HJ36.out; have := HJ84.out; have := HK3.out; first | omega | exact Nat.le_refl _⟩, ⟨kR HO_3.out⟩, ⟨kR HO_20.out⟩, ⟨kR HO_21.out⟩, ⟨bw_30⟩⟩
    rw [if_neg c94] at H
    have c94b0 : decide (x22_3 < (t640.length : Int)) = false := decide_eq_false c94
    clear c94
    (first | rw [c94b0] | (simp only [i64_w, i32_w]; rw [c94b0]) | skip)
    have H' := Az.mk H
    clear H
    go_wp2
    go_meet
    case rel => exact ⟨_, (false), rq2, H', ⟨by have := HJ36.out; have := HJ84.out; have := HK3.out; first | omega | exact Nat.le_refl _⟩, ⟨kR HO_3.out⟩, ⟨kR HO_20.out⟩, ⟨kR HO_21.out⟩, ⟨bw_30⟩⟩
   clear HC93
   try clear c91
   try clear c94
   try clear c94b0
   obtain ⟨kq, x200_92, rfl, HA, HJ92, HO_3, HO_20, HO_21, HB⟩ := hcut
   cases kq with
   | zero => exact absurd HA.out (by simp [laws_FnGauss.j3])
   | succ kj92 =>
    have H := HA.out
    clear HA
    simp only [laws_FnGauss.j3] at H
    by_cases c95 : x200_92 = true
    rotate_left
    ·replace c95 := Bool.eq_false_iff.mpr c95
     subst c95
     rw [if_neg ff] at H
     have H' := Az.mk H
     clear H
     go_wp2
     go_meet
     case rel => exact ⟨_, H', ⟨by have := HJ36.out; have := HJ84.out; have := HK3.out; have := HJ92.out; first | omega | exact Nat.le_refl _⟩, ⟨kR HO_3.out⟩, ⟨kR HO_20.out⟩, ⟨kR HO_21.out⟩, ⟨bw_30⟩⟩
    subst c95
    rw [if_pos rfl] at H
    by_cases c96 : 0 ≤ x22_3
    rotate_left
    ·rw [if_neg c96] at H
     exact absurd H (by simp)
    rw [if_pos c96] at H
    have c96b0 : decide (0 ≤ x22_3) = true := decide_eq_true c96
    clear c96
    by_cases c97 : x22_3 < (t640.length : Int)
    rotate_left
    ·rw [if_neg c97] at H
     exact absurd H (by simp)
    rw [if_pos c97] at H
    have c97b0 : decide (x22_3 < (t640.length : Int)) = true := decide_eq_true c97
    clear c97
    by_cases c98 : (Int.tmod (rd t640 x22_3) 2) = 0
    rotate_left
    ·rw [if_neg c98] at H
     exact absurd H (by simp)
    rw [if_pos c98] at H
    have c98b0 : ((Int.tmod (rd t640 x22_3) 2) == 0) = true := beq_iff_eq.mpr c98
    have c98b1 : ((Int.tmod (rd t640 x22_3) 2) != 0) = false := bne_eq_false_iff_eq.mpr c98
    clear c98
    have H' := Az.mk H
    clear H
    have p671 : 0 ≤ (x22_3 : Int) := of_decide_eq_true am
    have q671 : x22_3 < (t640.length : Int) := of_decide_eq_true am
    obtain ⟨ad671, e671, hx671_0⟩ := Kd.at_int (Kd.R_reads' HO_20.out).2.2 x22_3 p671 q671
    cases e671
    replace p671 := eq_true p671
    replace q671 := eq_true q671
    go_wp2
    go_roundg kj92
    case measure => have := HJ36.out; have := HJ84.out; have := HK3.out; have := HJ92.out; omega
    case rel => exact ⟨(wrap64 (x22_3 + 1)), rq2, H', ⟨by have := HJ36.out; have := HJ84.out; have := HK3.out; have := HJ92.out; omega⟩, ⟨kR HO_3.out⟩, ⟨kR HO_20.out⟩, ⟨kR HO_21.out⟩, ⟨bw_30⟩⟩
 clear HC92
 try clear c91
 try clear c94
 try clear c94b0
 try clear c95
 try clear c96
 try clear c96b0
 try clear c97
 try clear c97b0
 try clear c98
 try clear c98b0
 try clear c98b1
 try clear hx671_0
 try clear p671
 try clear q671
 obtain ⟨kq, HA, HJ91, HO_3, HO_20, HO_21, HB⟩ := hcut
 cases kq with
 | zero => exact absurd HA.out (by simp [laws_FnGauss.j4])
 | succ kj91 =>
  have H := HA.out
  clear HA
  simp only [laws_FnGauss.j4] at H
  replace H := bez H
  obtain ⟨t672, A99, H⟩ := H
  try dsimp only at H
  rename_i Kt at_
  have AT := Az.mk at_
  clear at_
  exact AT.out _ _ (laws_FnGauss.p27 A0 c0 l0 r w t607 t610 t611 t612 t613 t616 t617 t620 t621 t624 t625 t628 t629 t632 t633 t636 t637 t640 t643 Ao39 co39 Ao43 co43 Ao47 co47 Ao53 co53 Ao55 co55 Ao56 co56 Ao57 co57 Ao58 co58 Ao60 co60 Ao63 co63 u23 u24 u25 u26 u27 u28 u29 u30 u31 u32 u33 u34 u35 u36 u37 u38 u39 u40 u41 u42 u43 u44 u45 u46 u47 u48 u49 u50 u51 u52 u53 u54 u55 u56 u57 u58 u59 u60 u61 u62 u63 u64 u65 u66 u67 u68 u69 u70 u71 u72 u73 u74 u75 u76 u77 u78 u79 u80 u81 u82 u83 u84 u85 u86 u87 u88 u89 u90 u91 u92 u93 u94 u95 u96 u97 u98 u99 u100 u101 u102 u103 u104 u105 u106 u107 u108 u109 u110 u111 u112 u113 u114 u115 u116 u117 u118 u119 u120 u121 u122 u123 u124 u125 u126 u127 u128 u129 u130 u131 u132 u133 u134 u135 u136 u137 u138 u139 u140 u141 u142 u143 u144 u145 u146 u147 u148 u149 u150 u151 u152 u153 u154 u155 u156 u157 u158 u159 u160 u161 u162 u163 u164 u165 u166 u167 u168 u169 u170 u171 u172 u173 u174 u175 u176 u177 u178 u179 u180 u181 u186 u187 u188 u189 u190 u191 u192 u209 u210 u211 u212 u213 u214 u215 u216 u217 u218 u219 u220 u221 u222 u223 u224 u225 u226 u227 u228 u229 u230 u231 u232 u233 nd wc u2 u22 u193 u194 u195 u196 u197 u198 u199 u200 u201 u202 u203 u204 u205 u206 u207 u208 HO_3 HO_20 HO_21 HB kj91 t672 H A99)
end Go.Proofs.Ytkmjcdlhlhefdaa.P
