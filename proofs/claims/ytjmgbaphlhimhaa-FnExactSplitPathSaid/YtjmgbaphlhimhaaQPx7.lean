-- By this session's driver (wip/tools/mk.py) of the kit's print program, over several statements at once. Not trusted: Lean checks it.
import Derived.Test.YtjmgbaphlhimhaaQPx0
import Derived.Test.YtjmgbaphlhimhaaQPx3
import Derived.Test.YtjmgbaphlhimhaaQPx4
import Derived.Test.YtjmgbaphlhimhaaQPx5
namespace Go.Proofs.Ytjmgbaphlhimhaa.P
open Go.RowKit Go.Proofs.YtjmgbaphlhimhaaW.PrintWords Go.Proofs.YtjmgbaphlhimhaaW.PrintLast Go.Proofs.YtjmgbaphlhimhaaW.PrintMore
attribute [local go_sem] max2_int min2_int max_two min_two max_three min_three max_four min_four   -- for this text's walks alone
set_option linter.unusedVariables false
set_option linter.unusedSimpArgs false
theorem bw_7 {n : Nat} {v v' : World} (h : Below n v v' := by repeat (first | (with_reducible first | exact HB.out | apply bwA | apply pbN | apply bwD) | exact HB.out)) : Below n v v' := h
theorem ln_7 {P : Prop} (h : P := by (try simp only [List.map_toArray, List.map_cons, List.map_nil]); first | done | rfl | (simp only [List.length_drop, List.length_take]; rfl)) : P := h

/-! ### spec_l15Around: function 75 -/
def spec_l15Around.l0 : Nat → List (List Int) → List Int → Int → List Int → Int → Option (List Int)
 | 0, _, _, _, _, _ => none
 | k + 1, x0, x7, x9, x10, x11 => if x11 ≤ (wrap64 (Int.tdiv (wrap64 (3 * (x0.length : Int))) 2)) then ((spec_l3Find.f k x7 (wrap64 (2 * x11))).bind fun t172 => ((spec_l1Bit.f (t172 == x9)).bind fun t173 => ((spec_l3Find.f k x7 (wrap64 ((wrap64 (2 * x11)) + 1))).bind fun t174 => ((spec_l1Bit.f (t174 == x9)).bind fun t175 => (if x10.length < 17592186044416 then (spec_l15Around.l0 k x0 x7 x9 (x10 ++ [wrap64 (t173 + t175)]) (wrap64 (x11 + 1))) else (none)))))) else (some x10)
def spec_l15Around.f (k : Nat) (l0 : List (List Int)) (a1 : Int) (a2 : Int) : Option (List Int) := (spec_l15Ends.f k l0).bind fun t161 => (if 0 ≤ a1 then (if a1 < (l0.length : Int) then (if 0 ≤ a2 then (if a2 < ((rd_L1 l0 a1).length : Int) then ((spec_l3Abs.f (rd (rd_L1 l0 a1) a2)).bind fun t166 => ((spec_l1Bit.f (decide ((rd (rd_L1 l0 a1) a2) > 0))).bind fun t167 => ((spec_l3Find.f k t161 (wrap64 ((wrap64 (2 * t166)) + t167))).bind fun t168 => (spec_l15Around.l0 k l0 t161 t168 (([] : List Int)) 1)))) else (none)) else (none)) else (none)) else (none))
theorem spec_l15Around.mono_l : ∀ k, (∀ y0 y1 y2 y3 y4, LeO (spec_l15Around.l0 k y0 y1 y2 y3 y4) (spec_l15Around.l0 (k + 1) y0 y1 y2 y3 y4))
 | 0 => fun _ _ _ _ _ r h => by simp [spec_l15Around.l0] at h
 | k + 1 => by
  have ih0 := spec_l15Around.mono_l k
  ·intro y0 y1 y2 y3 y4
   unfold spec_l15Around.l0
   repeat' first
   | (with_reducible exact ih0 _ _ _ _ _)
   | (with_reducible exact spec_l15Ends.mono _ _)
   | (with_reducible exact spec_l3Find.mono _ _ _)
   | (with_reducible exact LeO.refl _)
   | (with_reducible exact LeO.none _)
   | (with_reducible refine LeO.ite ?_ ?_)
   | (with_reducible refine LeO.bind ?_ (fun _ => ?_))
   | exact ih0 _ _ _ _ _
   | exact spec_l15Ends.mono _ _
   | exact spec_l3Find.mono _ _ _
   | exact LeO.none _
   | refine LeO.ite ?_ ?_
   | refine LeO.bind ?_ (fun _ => ?_)
theorem spec_l15Around.mono : ∀ a0 a1 a2 k, LeO (spec_l15Around.f k a0 a1 a2) (spec_l15Around.f (k + 1) a0 a1 a2) := by
 intro a0 a1 a2 k
 have ih0 := spec_l15Around.mono_l k
 unfold spec_l15Around.f
 repeat' first
   | (with_reducible exact ih0 _ _ _ _ _)
   | (with_reducible exact spec_l15Ends.mono _ _)
   | (with_reducible exact spec_l3Find.mono _ _ _)
   | (with_reducible exact LeO.refl _)
   | (with_reducible exact LeO.none _)
   | (with_reducible refine LeO.ite ?_ ?_)
   | (with_reducible refine LeO.bind ?_ (fun _ => ?_))
   | exact ih0 _ _ _ _ _
   | exact spec_l15Ends.mono _ _
   | exact spec_l3Find.mono _ _ _
   | exact LeO.none _
   | refine LeO.ite ?_ ?_
   | refine LeO.bind ?_ (fun _ => ?_)
set_option maxHeartbeats 8000000 in
set_option maxRecDepth 100000 in
theorem spec_l15Around.calls (k : Nat) (A0 : Option Addr) (c0 : Nat) (l0 : List (List Int)) (a1 : Int) (a2 : Int) (r : List Int) (w : World) (hr0 : Kd.C (Kd.slice 3 (Kd.int .i64)) w A0 l0.length l0) (hc0 : l0.length ≤ c0) (h : spec_l15Around.f k l0 a1 a2 = some r) :
  Calls Try.prog 75 #[.slice A0 l0.length c0, .int .i64 a1, .int .i64 a2] w fun e w' => ∃ v0_ : Value, e = .returned (v0_) ∧ Kd.R (Kd.int .i64) 3 w' w.heap.size (fun _ => True) v0_ r ∧ Below w.heap.size w w' := by
 have HR0 := Az.mk hr0
 have HC0 := Az.mk hc0
 clear hr0 hc0
 have HB := Az.mk (Below.refl w.heap.size w)
 have H : ((spec_l15Ends.f k l0).bind fun t161 => (if 0 ≤ a1 then (if a1 < (l0.length : Int) then (if 0 ≤ a2 then (if a2 < ((rd_L1 l0 a1).length : Int) then ((spec_l3Abs.f (rd (rd_L1 l0 a1) a2)).bind fun t166 => ((spec_l1Bit.f (decide ((rd (rd_L1 l0 a1) a2) > 0))).bind fun t167 => ((spec_l3Find.f k t161 (wrap64 ((wrap64 (2 * t166)) + t167))).bind fun t168 => (spec_l15Around.l0 k l0 t161 t168 (([] : List Int)) 1)))) else (none)) else (none)) else (none)) else (none))) = some r := h
 clear h
 replace H := Option.bind_eq_some_iff.mp H
 obtain ⟨t161, A40, H⟩ := H
 try dsimp only at H
 have A4 := Az.mk A40
 clear A40
 by_cases c5 : 0 ≤ a1
 rotate_left
 ·rw [if_neg c5] at H
  exact absurd H (by simp)
 rw [if_pos c5] at H
 have c5b0 : decide (0 ≤ a1) = true := decide_eq_true c5
 clear c5
 by_cases c6 : a1 < (l0.length : Int)
 rotate_left
 ·rw [if_neg c6] at H
  exact absurd H (by simp)
 rw [if_pos c6] at H
 have c6b0 : decide (a1 < (l0.length : Int)) = true := decide_eq_true c6
 clear c6
 by_cases c7 : 0 ≤ a2
 rotate_left
 ·rw [if_neg c7] at H
  exact absurd H (by simp)
 rw [if_pos c7] at H
 have c7b0 : decide (0 ≤ a2) = true := decide_eq_true c7
 clear c7
 by_cases c8 : a2 < ((rd_L1 l0 a1).length : Int)
 rotate_left
 ·rw [if_neg c8] at H
  exact absurd H (by simp)
 rw [if_pos c8] at H
 have c8b0 : decide (a2 < ((rd_L1 l0 a1).length : Int)) = true := decide_eq_true c8
 clear c8
 replace H := Option.bind_eq_some_iff.mp H
 obtain ⟨t166, A90, H⟩ := H
 try dsimp only at H
 have A9 := Az.mk A90
 clear A90
 replace H := Option.bind_eq_some_iff.mp H
 obtain ⟨t167, A100, H⟩ := H
 try dsimp only at H
 have A10 := Az.mk A100
 clear A100
 replace H := Option.bind_eq_some_iff.mp H
 obtain ⟨t168, A110, H⟩ := H
 try dsimp only at H
 have A11 := Az.mk A110
 clear A110
 obtain ⟨y169, hy169⟩ : ∃ y_ : List Int, y_ = (([] : List Int)) := ⟨_, rfl⟩
 replace H : (spec_l15Around.l0 k l0 t161 t168 y169 1) = some r := by first | (rw [hy169]; with_reducible exact H) | (have H2_ := (Option.bind_some _ _).symm.trans H; rw [hy169]; with_reducible exact H2_) | (have H2_ := (Option.bind_some _ _).symm.trans H; with_reducible exact H2_) | with_reducible exact H | (rw [hy169]; exact H) | exact H
 have Ny169 := Az.mk hy169
 clear hy169
 have H' := Az.mk H
 clear H
 go_enter Try.func75, Try.ntmps75
 go_wp2_with (first | ((with_reducible refine gtC (f := 107) rfl ?_); refine goesL_ (some 13) rfl rfl Try.func107 (by kernel_rfl) rfl #[.slice A0 l0.length c0] rfl ln_7 ?_; (with_reducible refine (spec_l15Ends.calls k _ _ l0 t161 _ ?side1 ?side2 A4.out).mono ?_); (case side1 => repeat (first | exact HR0.out | (with_reducible refine Kd.C_alloc ?_ _) | (with_reducible refine Kd.C_drewN ?_ _) | (with_reducible refine Kd.C_drew ?_))); (case side2 => exact HC0.out); rintro e w12 ⟨v162, rfl, ho0, hb⟩; refine ⟨_, rfl, ?_⟩; have n0_ := Az.mk (Kd.R_lower ho0 (bwZ bw_7)); have n1_ := Az.mk (bwT bw_7 hb); clear HB; have HO163 := n0_; have HB := n1_; clear n0_ n1_; (try clear hb); (try clear hb2); (try clear hk); (try clear hi); (try clear ho0); have p164 : 0 ≤ (a1 : Int) := of_decide_eq_true (by first | (with_reducible assumption) | assumption); have q164 : a1 < (l0.length : Int) := of_decide_eq_true (by first | (with_reducible assumption) | assumption); obtain ⟨ad164, A164_0, c164_0, e164, hx164_0, hl164_0, hi164_0⟩ := at_L1 HR0.out a1 p164 q164; cases e164; replace hx164_0 := (HB.out.cell (World.block_lt_of_cell? w _ hx164_0)).trans hx164_0; have HR164_0 := Az.mk hi164_0; have HC164_0 := Az.mk hl164_0; clear hi164_0 hl164_0; replace p164 := eq_true p164; replace q164 := eq_true q164; have p165 : 0 ≤ (a2 : Int) := of_decide_eq_true (by first | (with_reducible assumption) | assumption); have q165 : a2 < ((rd_L1 l0 a1).length : Int) := of_decide_eq_true (by first | (with_reducible assumption) | assumption); obtain ⟨ad165, e165, hx165_0⟩ := Kd.at_int HR164_0.out a2 p165 q165; cases e165; replace hx165_0 := (HB.out.cell (World.block_lt_of_cell? w _ hx165_0)).trans hx165_0; replace p165 := eq_true p165; replace q165 := eq_true q165) | ((with_reducible refine gtC (f := 84) rfl ?_); refine goesL_ (some 23) rfl rfl Try.func84 (by kernel_rfl) rfl #[.int .i64 (rd (rd_L1 l0 a1) a2)] rfl ln_7 ?_; (with_reducible refine (spec_l3Abs.calls (rd (rd_L1 l0 a1) a2) t166 _ A9.out).mono ?_); rintro e w' ⟨rfl, ⟨nd, rfl⟩⟩; refine ⟨_, rfl, ?_⟩) | ((with_reducible refine gtC (f := 43) rfl ?_); refine goesL_ (some 27) rfl rfl Try.func43 (by kernel_rfl) rfl #[.bool (decide ((rd (rd_L1 l0 a1) a2) > 0))] rfl ln_7 ?_; (with_reducible refine (spec_l1Bit.calls (decide ((rd (rd_L1 l0 a1) a2) > 0)) t167 _ A10.out).mono ?_); rintro e w' ⟨rfl, ⟨nd, rfl⟩⟩; refine ⟨_, rfl, ?_⟩; obtain ⟨Ao13, co13, eo13⟩ := Kd.R_slice HO163.out; subst eo13) | ((with_reducible refine gtC (f := 108) rfl ?_); refine goesL_ (some 29) rfl rfl Try.func108 (by kernel_rfl) rfl #[.slice Ao13 t161.length co13, .int .i64 (wrap64 ((wrap64 (2 * t166)) + t167))] rfl ln_7 ?_; (with_reducible refine (spec_l3Find.calls k _ _ t161 (wrap64 ((wrap64 (2 * t166)) + t167)) t168 _ ?side1 ?side2 A11.out).mono ?_); (case side1 => repeat (first | exact (Kd.R_reads' HO163.out).2.2 | (with_reducible refine Kd.C_alloc ?_ _) | (with_reducible refine Kd.C_drewN ?_ _) | (with_reducible refine Kd.C_drew ?_))); (case side2 => exact (Kd.R_reads' HO163.out).2.1); rintro e w' ⟨rfl, ⟨nd, rfl⟩⟩; refine ⟨_, rfl, ?_⟩) | ((with_reducible refine gtD (N := 30) rfl ?_); refine Kd.R_lit (Kd.int .i64) _ 3 ?hg (N := 30) ?hd (xs := ([] : List Int)) (inner := []) (ok := fun _ => True) (okp := fun _ => True) ?hr ?hp (fun _ hk => hk) trivial (Below.refl _ _) (Nat.le_refl _) (by simp) ?_; (case hd => rfl); (case hg => rfl); (case hr => first | (go_simp; done) | (go_simp; rfl)); (case hp => exact (Reps.none _ _)); intro v170 w14 ho15 hb hg_ hnew_; clear hg_ hnew_; (first | rw [← Ny169.out] at ho15 | (simp only [Int.reduceToNat] at ho15; rw [← Ny169.out] at ho15)); have n0_ := Az.mk (Kd.R_elder' (by (with_reducible repeat (first | apply Kd.R_alloc | apply Kd.R_drewN | apply Kd.R_drew)); exact HO163.out) (Kd.R_base ho15) hb); have n1_ := Az.mk (Kd.R_lower (Kd.R_new' ho15 (Kd.R_lt (by (with_reducible repeat (first | apply Kd.R_alloc | apply Kd.R_drewN | apply Kd.R_drew)); exact HO163.out))) (bwZ bw_7)); have n2_ := Az.mk (bwT bw_7 hb); clear HO163; clear HB; have HO163 := n0_; have HO171 := n1_; have HB := n2_; clear n0_ n1_ n2_; clear hb ho15))
 go_loopg [10, 11] k (fun kq v10 v11 w' => ∃ (x10_1 : List Int) (x11_1 : Int), v11 = .int .i64 x11_1 ∧ Az (spec_l15Around.l0 kq l0 t161 t168 x10_1 x11_1 = some r) ∧ Az (kq ≤ k) ∧ Az (Kd.R (Kd.int .i64) 3 w' w.heap.size (fun k_ => some k_ ≠ (v10 : Value).ownBlock) (.slice Ao13 t161.length co13) t161) ∧ Az (Kd.R (Kd.int .i64) 3 w' w.heap.size (fun k_ => some k_ ≠ ((.slice Ao13 t161.length co13) : Value).ownBlock) v10 x10_1) ∧ Az (Below w.heap.size w w'))
 case atStart => exact ⟨(y169), (1), (by first | rfl | (simp; done) | (simp [*]; done)), H', ⟨Nat.le_refl _⟩, ⟨by (with_reducible repeat (first | apply Kd.R_alloc | apply Kd.R_drewN | apply Kd.R_drew)); exact Kd.R_mono HO163.out (fun _ hk => hk.2)⟩, ⟨by (with_reducible repeat (first | apply Kd.R_alloc | apply Kd.R_drewN | apply Kd.R_drew)); exact Kd.R_mono HO171.out (fun _ hk => hk.2)⟩, ⟨by repeat (first | (with_reducible first | exact HB.out | apply bwA | apply pbN | apply bwD) | exact HB.out)⟩⟩
 case round =>
  clear H'
  try clear c1
  try clear p1
  try clear q1
  try clear hx1
  try clear p2
  try clear c4
  try clear c5
  try clear c5b0
  try clear c6
  try clear c6b0
  try clear p6
  try clear c7
  try clear c7b0
  try clear c8
  try clear c8b0
  try clear c10
  try clear hx164_0
  try clear hx165_0
  try clear p164
  try clear p165
  try clear q164
  try clear q165
  obtain ⟨x10_1, x11_1, rfl, HA, HK1, HO_7, HO_10, HB⟩ := hrel
  cases gk with
  | zero => exact absurd HA.out (by simp [spec_l15Around.l0])
  | succ k1 =>
   have H := HA.out
   clear HA
   simp only [spec_l15Around.l0] at H
   by_cases c16 : x11_1 ≤ (wrap64 (Int.tdiv (wrap64 (3 * (l0.length : Int))) 2))
   rotate_left
   ·rw [if_neg c16] at H
    have c16b0 : decide (x11_1 ≤ (wrap64 (Int.tdiv (wrap64 (3 * (l0.length : Int))) 2))) = false := decide_eq_false c16
    clear c16
    obtain rfl := Option.some.inj H
    go_wp2
    go_ret
    exact ⟨_, by first | rfl | (simp [eWn, eWs] <;> rfl) | (simp [*, eWn, eWs] <;> rfl), by (with_reducible repeat (first | apply Kd.R_alloc | apply Kd.R_drewN | apply Kd.R_drew)); exact Kd.R_mono HO_10.out (fun _ hk => trivial), bw_7⟩
   rw [if_pos c16] at H
   have c16b0 : decide (x11_1 ≤ (wrap64 (Int.tdiv (wrap64 (3 * (l0.length : Int))) 2))) = true := decide_eq_true c16
   clear c16
   replace H := Option.bind_eq_some_iff.mp H
   obtain ⟨t172, A170, H⟩ := H
   try dsimp only at H
   have A17 := Az.mk A170
   clear A170
   replace H := Option.bind_eq_some_iff.mp H
   obtain ⟨t173, A180, H⟩ := H
   try dsimp only at H
   have A18 := Az.mk A180
   clear A180
   replace H := Option.bind_eq_some_iff.mp H
   obtain ⟨t174, A190, H⟩ := H
   try dsimp only at H
   have A19 := Az.mk A190
   clear A190
   replace H := Option.bind_eq_some_iff.mp H
   obtain ⟨t175, A200, H⟩ := H
   try dsimp only at H
   have A20 := Az.mk A200
   clear A200
   by_cases c21 : x10_1.length < 17592186044416
   rotate_left
   ·rw [if_neg c21] at H
    exact absurd H (by simp)
   rw [if_pos c21] at H
   have LMc21 := Az.mk c21
   clear c21
   obtain ⟨y176, hy176⟩ : ∃ y_ : List Int, y_ = (x10_1 ++ [wrap64 (t173 + t175)]) := ⟨_, rfl⟩
   replace H : (spec_l15Around.l0 k1 l0 t161 t168 y176 (wrap64 (x11_1 + 1))) = some r := by first | (rw [hy176]; with_reducible exact H) | (have H2_ := (Option.bind_some _ _).symm.trans H; rw [hy176]; with_reducible exact H2_) | (have H2_ := (Option.bind_some _ _).symm.trans H; with_reducible exact H2_) | with_reducible exact H | (rw [hy176]; exact H) | exact H
   have Ny176 := Az.mk hy176
   clear hy176
   have H' := Az.mk H
   clear H
   go_wp2_with (first | ((with_reducible refine gtC (f := 108) rfl ?_); refine goesL_ (some 43) rfl rfl Try.func108 (by kernel_rfl) rfl #[.slice Ao13 t161.length co13, .int .i64 (wrap64 (2 * x11_1))] rfl ln_7 ?_; (with_reducible refine (spec_l3Find.calls k1 _ _ t161 (wrap64 (2 * x11_1)) t172 _ ?side1 ?side2 A17.out).mono ?_); (case side1 => repeat (first | exact (Kd.R_reads' HO_7.out).2.2 | (with_reducible refine Kd.C_alloc ?_ _) | (with_reducible refine Kd.C_drewN ?_ _) | (with_reducible refine Kd.C_drew ?_))); (case side2 => exact (Kd.R_reads' HO_7.out).2.1); rintro e w' ⟨rfl, ⟨nd, rfl⟩⟩; refine ⟨_, rfl, ?_⟩) | ((with_reducible refine gtC (f := 43) rfl ?_); refine goesL_ (some 46) rfl rfl Try.func43 (by kernel_rfl) rfl #[.bool (t172 == t168)] rfl ln_7 ?_; (with_reducible refine (spec_l1Bit.calls (t172 == t168) t173 _ A18.out).mono ?_); rintro e w' ⟨rfl, ⟨nd, rfl⟩⟩; refine ⟨_, rfl, ?_⟩) | ((with_reducible refine gtC (f := 108) rfl ?_); refine goesL_ (some 51) rfl rfl Try.func108 (by kernel_rfl) rfl #[.slice Ao13 t161.length co13, .int .i64 (wrap64 ((wrap64 (2 * x11_1)) + 1))] rfl ln_7 ?_; (with_reducible refine (spec_l3Find.calls k1 _ _ t161 (wrap64 ((wrap64 (2 * x11_1)) + 1)) t174 _ ?side1 ?side2 A19.out).mono ?_); (case side1 => repeat (first | exact (Kd.R_reads' HO_7.out).2.2 | (with_reducible refine Kd.C_alloc ?_ _) | (with_reducible refine Kd.C_drewN ?_ _) | (with_reducible refine Kd.C_drew ?_))); (case side2 => exact (Kd.R_reads' HO_7.out).2.1); rintro e w' ⟨rfl, ⟨nd, rfl⟩⟩; refine ⟨_, rfl, ?_⟩) | ((with_reducible refine gtC (f := 43) rfl ?_); refine goesL_ (some 54) rfl rfl Try.func43 (by kernel_rfl) rfl #[.bool (t174 == t168)] rfl ln_7 ?_; (with_reducible refine (spec_l1Bit.calls (t174 == t168) t175 _ A20.out).mono ?_); rintro e w' ⟨rfl, ⟨nd, rfl⟩⟩; refine ⟨_, rfl, ?_⟩) | ((with_reducible refine gate_builtin (b := .append) (xs := #[.tmp 39, .tmp 56]) rfl ?_); at_builtin; refine Kd.R_append (Kd.int .i64) (w0 := w) w.heap.size rfl (.tmp 39) (.tmp 56) 22 3 (.int .i64 0) 8 rfl Try.underlying22 info3 rfl (by decide) (by omega) u10 x10_1 (wrap64 (t173 + t175)) [.int .i64 (wrap64 (t173 + t175))] (fun k_ => some k_ ≠ (.slice Ao13 t161.length co13 : Value).ownBlock) (fun _ => False) rfl rfl ?aP (fun _ hk => hk.elim) ?aF ?aO ?aB ?aS ?aL ?_; (case aP => exact rfl); (case aB => exact bw_7); (case aF => exact (fun k_ hk => Kd.fresh' (Kd.R_lt (by (with_reducible repeat (first | apply Kd.R_alloc | apply Kd.R_drewN | apply Kd.R_drew)); exact HO_7.out)) k_ hk)); (case aO => exact (by (with_reducible repeat (first | apply Kd.R_alloc | apply Kd.R_drewN | apply Kd.R_drew)); exact HO_10.out)); (case aS => exact (bwZ bw_7)); (case aL => have := LMc21.out; omega); intro v177 w22 ho hb hg hat; rw [← Ny176.out] at ho; have n0_ := Az.mk (Kd.R_after (ok := (fun _ => True)) (by (with_reducible repeat (first | apply Kd.R_alloc | apply Kd.R_drewN | apply Kd.R_drew)); exact Kd.R_mono HO_7.out (fun _ hk => ⟨trivial, hk⟩)) hg hat); have n1_ := Az.mk (hb); have n2_ := Az.mk (ho); clear HO_7; clear HB; clear HO_10; have HO_7 := n0_; have HB := n1_; have HO178 := n2_; clear n0_ n1_ n2_; clear ho hb hg hat))
   go_roundg k1
   case measure => have := HK1.out; omega
   case rel => exact ⟨(y176), (wrap64 (x11_1 + 1)), (by first | rfl | (simp; done) | (simp [*]; done)), H', ⟨by have := HK1.out; omega⟩, ⟨by (with_reducible repeat (first | apply Kd.R_alloc | apply Kd.R_drewN | apply Kd.R_drew)); exact Kd.R_mono HO_7.out (fun _ hk => hk.2)⟩, ⟨by (with_reducible repeat (first | apply Kd.R_alloc | apply Kd.R_drewN | apply Kd.R_drew)); exact HO178.out⟩, ⟨by repeat (first | (with_reducible first | exact HB.out | apply bwA | apply pbN | apply bwD) | exact HB.out)⟩⟩

end Go.Proofs.Ytjmgbaphlhimhaa.P
