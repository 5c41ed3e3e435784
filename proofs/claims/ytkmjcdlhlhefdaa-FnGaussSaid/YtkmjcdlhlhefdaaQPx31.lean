-- By this session's driver (wip/tools/mk.py) of the kit's print program, over several statements at once. Not trusted: Lean checks it.
import Derived.Test.YtkmjcdlhlhefdaaQWZip
import Derived.Test.YtkmjcdlhlhefdaaQPx0
import Derived.Test.YtkmjcdlhlhefdaaQPx1
import Derived.Test.YtkmjcdlhlhefdaaQPx2
import Derived.Test.YtkmjcdlhlhefdaaQPx5
import Derived.Test.YtkmjcdlhlhefdaaQPx10
import Derived.Test.YtkmjcdlhlhefdaaQPx12
import Derived.Test.YtkmjcdlhlhefdaaQPx15
import Derived.Test.YtkmjcdlhlhefdaaQPx16
import Derived.Test.YtkmjcdlhlhefdaaQPx17
import Derived.Test.YtkmjcdlhlhefdaaQPx18
import Derived.Test.YtkmjcdlhlhefdaaQPx21
import Derived.Test.YtkmjcdlhlhefdaaQPx22
import Derived.Test.YtkmjcdlhlhefdaaQPx23
import Derived.Test.YtkmjcdlhlhefdaaQPx24
import Derived.Test.YtkmjcdlhlhefdaaQPx25
import Derived.Test.YtkmjcdlhlhefdaaQPx26
import Derived.Test.YtkmjcdlhlhefdaaQPx28
import Derived.Test.YtkmjcdlhlhefdaaQPx30
namespace Go.Proofs.Ytkmjcdlhlhefdaa.P
open Go.RowKit Go.Proofs.YtkmjcdlhlhefdaaW.PrintWords Go.Proofs.YtkmjcdlhlhefdaaW.PrintLast Go.Proofs.YtkmjcdlhlhefdaaW.PrintMore
attribute [local go_sem] max2_int min2_int max_two min_two max_three min_three max_four min_four   -- for this text's walks alone
set_option linter.unusedVariables false
set_option linter.unusedSimpArgs false

theorem bw_31 {n : Nat} {v v' : World} (h : Below n v v' := by repeat (first | (with_reducible first | exact HB.out | apply bwA | apply pbN | apply bwD) | exact HB.out)) : Below n v v' := h

set_option maxHeartbeats 8000000 in
set_option maxRecDepth 100000 in
theorem laws_FnGauss.p18 (k : Nat) (A0 : Option Addr) (c0 : Nat) (l0 : List Int) (r : Bool) (w : World) (t607 : List Int) (t610 : Int) (t611 : List Int) (t612 t613 : Int) (t616 : List Int) (t617 : Int) (t620 : List Int) (t621 : Bool) (t624 : List Int) (t625 : Bool) (t628 : List Int) (t629 : Int) (t632 : List Int) (t633 : Bool) (t636 : List Int) (t637 : Bool) (t640 t643 : List Int) (Ao39 : Option Addr) (co39 : Nat) (Ao43 : Option Addr) (co43 : Nat) (Ao47 : Option Addr) (co47 : Nat) (Ao53 : Option Addr) (co53 : Nat) (Ao55 : Option Addr) (co55 : Nat) (Ao56 : Option Addr) (co56 : Nat) (Ao57 : Option Addr) (co57 : Nat) (Ao58 : Option Addr) (co58 : Nat) (Ao60 : Option Addr) (co60 : Nat) (Ao63 : Option Addr) (co63 nd : Nat) (wc : World) (u23 u24 u25 u26 u27 u28 u29 u30 u31 u32 u33 u34 u35 u36 u37 u38 u39 u40 u41 u42 u43 u44 u45 u46 u47 u48 u49 u50 u51 u52 u53 u54 u55 u56 u57 u58 u59 u60 u61 u62 u63 u64 u65 u66 u67 u68 u69 u70 u71 u72 u73 u74 u75 u76 u77 u78 u79 u80 u81 u82 u83 u84 u85 u86 u87 u88 u89 u90 u91 u92 u93 u94 u95 u96 u97 u98 u99 u100 u101 u102 u103 u104 u105 u106 u107 u108 u109 u110 u111 u112 u113 u114 u115 u116 u117 u118 u119 u120 u121 u122 u123 u124 u125 u126 u127 u128 u129 u130 u131 u132 u133 u134 u135 u136 u137 u138 u139 u140 u141 u142 u143 u144 u145 u146 u147 u148 u149 u150 u151 u152 u153 u154 u155 u156 u157 u158 u159 u160 u161 u162 u163 u164 u165 u166 u167 u169 u170 u171 u172 u173 u174 u175 u176 u177 u178 u179 u180 u181 u182 u183 u184 u185 u186 u187 u188 u189 u190 u191 u192 u193 u194 u195 u196 u197 u198 u199 u200 u201 u202 u203 u204 u205 u206 u207 u208 u209 u210 u211 u212 u213 u214 u215 u216 u217 u218 u219 u220 u221 u222 u223 u224 u225 u226 u227 u228 u229 u230 u231 u232 u233 : Value) (HO_3 : Az (Kd.R (Kd.int IntKind.i64) 3 wc (w.heap.size) (fun (k_ : Nat) => some k_ ≠ Value.ownBlock (Value.slice Ao47 (List.length t628) co47) ∧ some k_ ≠ Value.ownBlock (Value.slice Ao57 (List.length t632) co57) ∧ some k_ ≠ Value.ownBlock (Value.slice Ao60 (List.length t640) co60) ∧ some k_ ≠ Value.ownBlock (Value.slice Ao63 (List.length t643) co63)) (Value.slice Ao39 (List.length t607) co39) t607)) (HO_16 : Az (Kd.R (Kd.int IntKind.i64) 3 wc (w.heap.size) (fun (k_ : Nat) => some k_ ≠ Value.ownBlock (Value.slice Ao39 (List.length t607) co39) ∧ some k_ ≠ Value.ownBlock (Value.slice Ao47 (List.length t628) co47) ∧ some k_ ≠ Value.ownBlock (Value.slice Ao60 (List.length t640) co60) ∧ some k_ ≠ Value.ownBlock (Value.slice Ao63 (List.length t643) co63)) (Value.slice Ao57 (List.length t632) co57) t632)) (HO_20 : Az (Kd.R (Kd.int IntKind.i64) 3 wc (w.heap.size) (fun (k_ : Nat) => some k_ ≠ Value.ownBlock (Value.slice Ao39 (List.length t607) co39) ∧ some k_ ≠ Value.ownBlock (Value.slice Ao47 (List.length t628) co47) ∧ some k_ ≠ Value.ownBlock (Value.slice Ao57 (List.length t632) co57) ∧ some k_ ≠ Value.ownBlock (Value.slice Ao63 (List.length t643) co63)) (Value.slice Ao60 (List.length t640) co60) t640)) (HO_21 : Az (Kd.R (Kd.int IntKind.i64) 3 wc (w.heap.size) (fun (k_ : Nat) => some k_ ≠ Value.ownBlock (Value.slice Ao39 (List.length t607) co39) ∧ some k_ ≠ Value.ownBlock (Value.slice Ao47 (List.length t628) co47) ∧ some k_ ≠ Value.ownBlock (Value.slice Ao57 (List.length t632) co57) ∧ some k_ ≠ Value.ownBlock (Value.slice Ao60 (List.length t640) co60)) (Value.slice Ao63 (List.length t643) co63) t643)) (HB : Az (Below (w.heap.size) w wc)) (kj36 : Nat) (HJ36 : Az (kj36 + 1 ≤ k)) (HC85 : Az ((if t633 = true then Option.bind (spec_IsCrossingWord.f kj36 t632) fun (t669 : Bool) => if t669 = true then laws_FnGauss.j1 kj36 t607 t610 t640 t643 ((↑(List.length t632) : Int) != wrap64 ((↑(List.length t628) : Int) - 2)) else none else laws_FnGauss.j1 kj36 t607 t610 t640 t643 false) = some r)) :
  Code.wp Try.prog (tailOf (Try.f3.body.getD .skip) 15) (bodyPost Try.prog Try.f3 (fun e w' => e = .returned (.bool r) ∧ Below w.heap.size w w')) ⟨#[Value.slice A0 (List.length l0) c0, undef, Value.bool false, Value.slice Ao39 (List.length t607) co39, Value.int IntKind.i64 t610, Value.slice Ao53 (List.length t611) co53, Value.int IntKind.i64 t612, Value.int IntKind.i64 t613, Value.slice Ao43 (List.length t616) co43, Value.int IntKind.i64 t617, Value.slice Ao55 (List.length t620) co55, Value.bool t621, Value.slice Ao56 (List.length t624) co56, Value.bool t625, Value.slice Ao47 (List.length t628) co47, Value.int IntKind.i64 t629, Value.slice Ao57 (List.length t632) co57, Value.bool t633, Value.slice Ao58 (List.length t636) co58, Value.bool t637, Value.slice Ao60 (List.length t640) co60, Value.slice Ao63 (List.length t643) co63, undef, u23, u24, u25, u26, u27, u28, u29, u30, u31, u32, u33, u34, u35, u36, u37, u38, u39, u40, u41, u42, u43, u44, u45, u46, u47, u48, u49, u50, u51, u52, u53, u54, u55, u56, u57, u58, u59, u60, u61, u62, u63, u64, u65, u66, u67, u68, u69, u70, u71, u72, u73, u74, u75, u76, u77, u78, u79, u80, u81, u82, u83, u84, u85, u86, u87, u88, u89, u90, u91, u92, u93, u94, u95, u96, u97, u98, u99, u100, u101, u102, u103, u104, u105, u106, u107, u108, u109, u110, u111, u112, u113, u114, u115, u116, u117, u118, u119, u120, u121, u122, u123, u124, u125, u126, u127, u128, u129, u130, u131, u132, u133, u134, u135, u136, u137, u138, u139, u140, u141, u142, u143, u144, u145, u146, u147, u148, u149, u150, u151, u152, u153, u154, u155, u156, u157, u158, u159, u160, u161, u162, u163, u164, u165, u166, u167, Value.bool false, u169, u170, u171, u172, u173, u174, u175, u176, u177, u178, u179, u180, u181, u182, u183, u184, u185, u186, u187, u188, u189, u190, u191, u192, u193, u194, u195, u196, u197, u198, u199, u200, u201, u202, u203, u204, u205, u206, u207, u208, u209, u210, u211, u212, u213, u214, u215, u216, u217, u218, u219, u220, u221, u222, u223, u224, u225, u226, u227, u228, u229, u230, u231, u232, u233], []⟩ wc := by
 (try dsimp only)
 conv => arg 2; whnf
 go_upto_region 18 with (fail)
 go_cut [182] (fun v182 wc => ∃ (kq : Nat) (x182_84 : Bool), v182 = .bool x182_84 ∧ Az (laws_FnGauss.j1 kq t607 t610 t640 t643 x182_84 = some r) ∧ Az (kq ≤ kj36) ∧ Az (Kd.R (Kd.int .i64) 3 wc w.heap.size (fun k_ => some k_ ≠ ((.slice Ao60 t640.length co60) : Value).ownBlock ∧ some k_ ≠ ((.slice Ao63 t643.length co63) : Value).ownBlock) (.slice Ao39 t607.length co39) t607) ∧ Az (Kd.R (Kd.int .i64) 3 wc w.heap.size (fun k_ => some k_ ≠ ((.slice Ao39 t607.length co39) : Value).ownBlock ∧ some k_ ≠ ((.slice Ao63 t643.length co63) : Value).ownBlock) (.slice Ao60 t640.length co60) t640) ∧ Az (Kd.R (Kd.int .i64) 3 wc w.heap.size (fun k_ => some k_ ≠ ((.slice Ao39 t607.length co39) : Value).ownBlock ∧ some k_ ≠ ((.slice Ao60 t640.length co60) : Value).ownBlock) (.slice Ao63 t643.length co63) t643) ∧ Az (Below w.heap.size w wc))
 case first =>
  have H := HC85.out
  clear HC85
  by_cases c86 : t633 = true
  rotate_left
  ·replace c86 := Bool.eq_false_iff.mpr c86
   subst c86
   rw [if_neg ff] at H
   have H' := Az.mk H
   clear H
   go_wp2
   go_meet
   case rel => exact ⟨_, (false), rq2, H', ⟨by have := HJ36.out; first | omega | exact Nat.le_refl _⟩, ⟨by (with_reducible repeat (first | apply Kd.R_alloc | apply Kd.R_drewN | apply Kd.R_drew)); exact Kd.R_mono HO_3.out (fun _ hk => ⟨hk.2.2.1, hk.2.2.2⟩)⟩, ⟨by (with_reducible repeat (first | apply Kd.R_alloc | apply Kd.R_drewN | apply Kd.R_drew)); exact Kd.R_mono HO_20.out (fun _ hk => ⟨hk.1, hk.2.2.2⟩)⟩, ⟨by (with_reducible repeat (first | apply Kd.R_alloc | apply Kd.R_drewN | apply Kd.R_drew)); exact Kd.R_mono HO_21.out (fun _ hk => ⟨hk.1, hk.2.2.2⟩)⟩, ⟨bw_31⟩⟩
  subst c86
  rw [if_pos rfl] at H
  replace H := bez H
  obtain ⟨t669, A87, H⟩ := H
  try dsimp only at H
  by_cases c88 : t669 = true
  rotate_left
  ·replace c88 := Bool.eq_false_iff.mpr c88
   subst c88
   rw [if_neg ff] at H
   exact absurd H (by simp)
  subst c88
  rw [if_pos rfl] at H
  have H' := Az.mk H
  clear H
  go_wp2_with (first | (go_at_call 23; (with_reducible refine (spec_IsCrossingWord.calls kj36 _ _ t632 true _ ?side1 ?side2 A87.out).mono ?_); (case side1 => exact kC (Kd.R_reads' HO_16.out).2.2); (case side2 => exact (Kd.R_reads' HO_16.out).2.1); rintro e w' ⟨rfl, ⟨nd, rfl⟩⟩))
  go_meet
  case rel => exact ⟨_, (((t632.length : Int) != (wrap64 ((t628.length : Int) - 2)))), rq2, H', ⟨by have := HJ36.out; first | omega | exact Nat.le_refl _⟩, ⟨by (with_reducible repeat (first | apply Kd.R_alloc | apply Kd.R_drewN | apply Kd.R_drew)); exact Kd.R_mono HO_3.out (fun _ hk => ⟨hk.2.2.1, hk.2.2.2⟩)⟩, ⟨by (with_reducible repeat (first | apply Kd.R_alloc | apply Kd.R_drewN | apply Kd.R_drew)); exact Kd.R_mono HO_20.out (fun _ hk => ⟨hk.1, hk.2.2.2⟩)⟩, ⟨by (with_reducible repeat (first | apply Kd.R_alloc | apply Kd.R_drewN | apply Kd.R_drew)); exact Kd.R_mono HO_21.out (fun _ hk => ⟨hk.1, hk.2.2.2⟩)⟩, ⟨bw_31⟩⟩
 clear HC85
 try clear c86
 try clear c88
 obtain ⟨kq, x182_84, rfl, HA, HJ84, HO_3, HO_20, HO_21, HB⟩ := hcut
 cases kq with
 | zero => exact absurd HA.out (by simp [laws_FnGauss.j1])
 | succ kj84 =>
  have H := HA.out
  clear HA
  simp only [laws_FnGauss.j1] at H
  by_cases c89 : x182_84 = true
  ·subst c89
   rw [if_pos rfl] at H
   exact absurd H (by simp)
  replace c89 := Bool.eq_false_iff.mpr c89
  subst c89
  rw [if_neg ff] at H
  replace H := bez H
  obtain ⟨t670, A90, H⟩ := H
  try dsimp only at H
  rename_i Kt at_ K0 a0
  have AT := Az.mk at_
  clear at_
  go_wp2
  exact AT.out _ _ (laws_FnGauss.p20 k A0 c0 l0 r w t607 t610 t611 t612 t613 t616 t617 t620 t621 t624 t625 t628 t629 t632 t633 t636 t637 t640 t643 Ao39 co39 Ao43 co43 Ao47 co47 Ao53 co53 Ao55 co55 Ao56 co56 Ao57 co57 Ao58 co58 Ao60 co60 Ao63 co63 nd kj36 HJ36 wc u23 u24 u25 u26 u27 u28 u29 u30 u31 u32 u33 u34 u35 u36 u37 u38 u39 u40 u41 u42 u43 u44 u45 u46 u47 u48 u49 u50 u51 u52 u53 u54 u55 u56 u57 u58 u59 u60 u61 u62 u63 u64 u65 u66 u67 u68 u69 u70 u71 u72 u73 u74 u75 u76 u77 u78 u79 u80 u81 u82 u83 u84 u85 u86 u87 u88 u89 u90 u91 u92 u93 u94 u95 u96 u97 u98 u99 u100 u101 u102 u103 u104 u105 u106 u107 u108 u109 u110 u111 u112 u113 u114 u115 u116 u117 u118 u119 u120 u121 u122 u123 u124 u125 u126 u127 u128 u129 u130 u131 u132 u133 u134 u135 u136 u137 u138 u139 u140 u141 u142 u143 u144 u145 u146 u147 u148 u149 u150 u151 u152 u153 u154 u155 u156 u157 u158 u159 u160 u161 u162 u163 u164 u165 u166 u167 u168 u169 u170 u171 u172 u173 u174 u175 u176 u177 u178 u179 u180 u181 u183 u184 u185 u186 u187 u188 u189 u190 u191 u192 u193 u194 u195 u196 u197 u198 u199 u200 u201 u202 u203 u204 u205 u206 u207 u208 u209 u210 u211 u212 u213 u214 u215 u216 u217 u218 u219 u220 u221 u222 u223 u224 u225 u226 u227 u228 u229 u230 u231 u232 u233 HO_3 HO_20 HO_21 HB kj84 HJ84 t670 H A90)
end Go.Proofs.Ytkmjcdlhlhefdaa.P
