-- By this session's driver (wip/tools/mk.py) of the kit's print program, over several statements at once. Not trusted: Lean checks it.
import Derived.Test.YtolmicnapemljaaQPx0
import Derived.Test.YtolmicnapemljaaQPx10
import Derived.Test.YtolmicnapemljaaQPx22
import Derived.Test.YtolmicnapemljaaQPx34
namespace Go.Proofs.Ytolmicnapemljaa.P
open Go.RowKit Go.Proofs.YtolmicnapemljaaW.PrintWords Go.Proofs.YtolmicnapemljaaW.PrintLast Go.Proofs.YtolmicnapemljaaW.PrintMore
attribute [local go_sem] max2_int min2_int max_two min_two max_three min_three max_four min_four   -- for this text's walks alone
set_option linter.unusedVariables false
set_option linter.unusedSimpArgs false
theorem bw_35 {n : Nat} {v v' : World} (h : Below n v v' := by repeat (first | (with_reducible first | exact HB.out | apply bwA | apply pbN | apply bwD) | exact HB.out)) : Below n v v' := h
theorem ln_35 {P : Prop} (h : P := by (try simp only [List.map_toArray, List.map_cons, List.map_nil]); first | done | rfl | (simp only [List.length_drop, List.length_take]; rfl)) : P := h

/-! ### impl_BestFlip: function 31 -/
def impl_BestFlip.l0 : Nat → List (List Int) → List Int → Int → Int → Int → Option (Int)
 | 0, _, _, _, _, _ => none
 | k + 1, x0, x1, x5, x6, x7 => if x7 ≤ (x1.length : Int) then ((impl_FlipCurve.f k x0 x1 x7).bind fun bt551 => (if bt551.2 = true then ((impl_CrossSum.f k bt551.1).bind fun t555 => (if t555 < x6 then ((impl_CrossSum.f k bt551.1).bind fun t556 => (impl_BestFlip.l0 k x0 x1 x7 t556 (wrap64 (x7 + 1)))) else (impl_BestFlip.l0 k x0 x1 x5 x6 (wrap64 (x7 + 1))))) else (impl_BestFlip.l0 k x0 x1 x5 x6 (wrap64 (x7 + 1))))) else (some x5)
def impl_BestFlip.f (k : Nat) (l0 : List (List Int)) (l1 : List Int) : Option (Int) := (impl_IsFair.f k l0 l1).bind fun t549 => (if t549 = true then ((impl_CrossSum.f k l1).bind fun t550 => (impl_BestFlip.l0 k l0 l1 0 t550 1)) else (some 0))
theorem impl_BestFlip.mono_l : ∀ k, (∀ y0 y1 y2 y3 y4, LeO (impl_BestFlip.l0 k y0 y1 y2 y3 y4) (impl_BestFlip.l0 (k + 1) y0 y1 y2 y3 y4))
 | 0 => fun _ _ _ _ _ r h => by simp [impl_BestFlip.l0] at h
 | k + 1 => by
  have ih0 := impl_BestFlip.mono_l k
  ·intro y0 y1 y2 y3 y4
   unfold impl_BestFlip.l0
   repeat' first
   | (with_reducible exact ih0 _ _ _ _ _)
   | (with_reducible exact impl_CrossSum.mono _ _)
   | (with_reducible exact impl_FlipCurve.mono _ _ _ _)
   | (with_reducible exact impl_IsFair.mono _ _ _)
   | (with_reducible exact LeO.refl _)
   | (with_reducible exact LeO.none _)
   | (with_reducible refine LeO.ite ?_ ?_)
   | (with_reducible refine LeO.bind ?_ (fun _ => ?_))
   | exact ih0 _ _ _ _ _
   | exact impl_CrossSum.mono _ _
   | exact impl_FlipCurve.mono _ _ _ _
   | exact impl_IsFair.mono _ _ _
   | exact LeO.none _
   | refine LeO.ite ?_ ?_
   | refine LeO.bind ?_ (fun _ => ?_)
theorem impl_BestFlip.mono : ∀ a0 a1 k, LeO (impl_BestFlip.f k a0 a1) (impl_BestFlip.f (k + 1) a0 a1) := by
 intro a0 a1 k
 have ih0 := impl_BestFlip.mono_l k
 unfold impl_BestFlip.f
 repeat' first
   | (with_reducible exact ih0 _ _ _ _ _)
   | (with_reducible exact impl_CrossSum.mono _ _)
   | (with_reducible exact impl_FlipCurve.mono _ _ _ _)
   | (with_reducible exact impl_IsFair.mono _ _ _)
   | (with_reducible exact LeO.refl _)
   | (with_reducible exact LeO.none _)
   | (with_reducible refine LeO.ite ?_ ?_)
   | (with_reducible refine LeO.bind ?_ (fun _ => ?_))
   | exact ih0 _ _ _ _ _
   | exact impl_CrossSum.mono _ _
   | exact impl_FlipCurve.mono _ _ _ _
   | exact impl_IsFair.mono _ _ _
   | exact LeO.none _
   | refine LeO.ite ?_ ?_
   | refine LeO.bind ?_ (fun _ => ?_)
set_option maxHeartbeats 8000000 in
set_option maxRecDepth 100000 in
theorem impl_BestFlip.calls (k : Nat) (A0 : Option Addr) (c0 : Nat) (l0 : List (List Int)) (A1 : Option Addr) (c1 : Nat) (l1 : List Int) (r : Int) (w : World) (hr0 : Kd.C (Kd.slice 3 (Kd.int .i64)) w A0 l0.length l0) (hc0 : l0.length ≤ c0) (hr1 : Kd.C (Kd.int .i64) w A1 l1.length l1) (hc1 : l1.length ≤ c1) (h : impl_BestFlip.f k l0 l1 = some r) :
  Calls Try.prog 31 #[.slice A0 l0.length c0, .slice A1 l1.length c1] w fun e w' => e = .returned (.int .i64 r) ∧ Below w.heap.size w w' := by
 have HR0 := Az.mk hr0
 have HC0 := Az.mk hc0
 clear hr0 hc0
 have HR1 := Az.mk hr1
 have HC1 := Az.mk hc1
 clear hr1 hc1
 have HB := Az.mk (Below.refl w.heap.size w)
 have H : ((impl_IsFair.f k l0 l1).bind fun t549 => (if t549 = true then ((impl_CrossSum.f k l1).bind fun t550 => (impl_BestFlip.l0 k l0 l1 0 t550 1)) else (some 0))) = some r := h
 clear h
 replace H := Option.bind_eq_some_iff.mp H
 obtain ⟨t549, A30, H⟩ := H
 try dsimp only at H
 have A3 := Az.mk A30
 clear A30
 by_cases c4 : t549 = true
 rotate_left
 ·replace c4 := Bool.eq_false_iff.mpr c4
  subst c4
  have H1 : (some 0) = some r := by rw [if_neg (show ¬ (false = true) by decide)] at H; exact H
  clear H
  have H := H1
  clear H1
  obtain rfl := Option.some.inj H
  go_enter Try.func31, Try.ntmps31
  go_wp2_with (first | ((with_reducible refine gtC (f := 69) rfl ?_); refine goesL_ (some 12) rfl rfl Try.func69 (by kernel_rfl) rfl #[.slice A0 l0.length c0, .slice A1 l1.length c1] rfl ln_35 ?_; (with_reducible refine (impl_IsFair.calls k _ _ l0 _ _ l1 false _ ?side1 ?side2 ?side3 ?side4 A3.out).mono ?_); (case side1 => repeat (first | exact HR0.out | (with_reducible refine Kd.C_alloc ?_ _) | (with_reducible refine Kd.C_drewN ?_ _) | (with_reducible refine Kd.C_drew ?_))); (case side2 => exact HC0.out); (case side3 => repeat (first | exact HR1.out | (with_reducible refine Kd.C_alloc ?_ _) | (with_reducible refine Kd.C_drewN ?_ _) | (with_reducible refine Kd.C_drew ?_))); (case side4 => exact HC1.out); rintro e w18 ⟨rfl, hb⟩; refine ⟨_, rfl, ?_⟩; have n0_ := Az.mk (bwT bw_35 hb); clear HB; have HB := n0_; clear n0_; (try clear hb); (try clear hb2); (try clear hk); (try clear hi)))
  go_ret
  exact ⟨by first | rfl | (simp [eWn, eWs] <;> rfl) | (simp [*, eWn, eWs] <;> rfl), bw_35⟩
 subst c4
 have H1 : ((impl_CrossSum.f k l1).bind fun t550 => (impl_BestFlip.l0 k l0 l1 0 t550 1)) = some r := by rw [if_pos rfl] at H; exact H
 clear H
 have H := H1
 clear H1
 replace H := Option.bind_eq_some_iff.mp H
 obtain ⟨t550, A50, H⟩ := H
 try dsimp only at H
 have A5 := Az.mk A50
 clear A50
 have H' := Az.mk H
 clear H
 go_enter Try.func31, Try.ntmps31
 go_wp2_with (first | ((with_reducible refine gtC (f := 69) rfl ?_); refine goesL_ (some 12) rfl rfl Try.func69 (by kernel_rfl) rfl #[.slice A0 l0.length c0, .slice A1 l1.length c1] rfl ln_35 ?_; (with_reducible refine (impl_IsFair.calls k _ _ l0 _ _ l1 true _ ?side1 ?side2 ?side3 ?side4 A3.out).mono ?_); (case side1 => repeat (first | exact HR0.out | (with_reducible refine Kd.C_alloc ?_ _) | (with_reducible refine Kd.C_drewN ?_ _) | (with_reducible refine Kd.C_drew ?_))); (case side2 => exact HC0.out); (case side3 => repeat (first | exact HR1.out | (with_reducible refine Kd.C_alloc ?_ _) | (with_reducible refine Kd.C_drewN ?_ _) | (with_reducible refine Kd.C_drew ?_))); (case side4 => exact HC1.out); rintro e w6 ⟨rfl, hb⟩; refine ⟨_, rfl, ?_⟩; have n0_ := Az.mk (bwT bw_35 hb); clear HB; have HB := n0_; clear n0_; (try clear hb); (try clear hb2); (try clear hk); (try clear hi)) | ((with_reducible refine gtC (f := 54) rfl ?_); refine goesL_ (some 15) rfl rfl Try.func54 (by kernel_rfl) rfl #[.slice A1 l1.length c1] rfl ln_35 ?_; (with_reducible refine (impl_CrossSum.calls k _ _ l1 t550 _ ?side1 ?side2 A5.out).mono ?_); (case side1 => repeat (first | exact (Kd.C_below HR1.out HB.out) | (with_reducible refine Kd.C_alloc ?_ _) | (with_reducible refine Kd.C_drewN ?_ _) | (with_reducible refine Kd.C_drew ?_))); (case side2 => exact HC1.out); rintro e w' ⟨rfl, ⟨nd, rfl⟩⟩; refine ⟨_, rfl, ?_⟩))
 go_loopg [5, 6, 7] k (fun kq v5 v6 v7 w' => ∃ (x5_1 : Int) (x6_1 : Int) (x7_1 : Int), v5 = .int .i64 x5_1 ∧ v6 = .int .i64 x6_1 ∧ v7 = .int .i64 x7_1 ∧ Az (impl_BestFlip.l0 kq l0 l1 x5_1 x6_1 x7_1 = some r) ∧ Az (kq ≤ k) ∧ Az (Below w.heap.size w w'))
 case atStart => exact ⟨(0), (t550), (1), (by first | rfl | (simp; done) | (simp [*]; done)), (by first | rfl | (simp; done) | (simp [*]; done)), (by first | rfl | (simp; done) | (simp [*]; done)), H', ⟨Nat.le_refl _⟩, ⟨by repeat (first | (with_reducible first | exact HB.out | apply bwA | apply pbN | apply bwD) | exact HB.out)⟩⟩
 case round =>
  clear H'
  try clear c1
  try clear p2
  try clear c3
  try clear c4
  try clear c5
  try clear c6
  obtain ⟨x5_1, x6_1, x7_1, rfl, rfl, rfl, HA, HK1, HB⟩ := hrel
  cases gk with
  | zero => exact absurd HA.out (by simp [impl_BestFlip.l0])
  | succ k1 =>
   have H := HA.out
   clear HA
   simp only [impl_BestFlip.l0] at H
   by_cases c7 : x7_1 ≤ (l1.length : Int)
   rotate_left
   ·rw [if_neg c7] at H
    have c7b0 : decide (x7_1 ≤ (l1.length : Int)) = false := decide_eq_false c7
    clear c7
    obtain rfl := Option.some.inj H
    go_wp2
    go_ret
    exact ⟨by first | rfl | (simp [eWn, eWs] <;> rfl) | (simp [*, eWn, eWs] <;> rfl), bw_35⟩
   rw [if_pos c7] at H
   have c7b0 : decide (x7_1 ≤ (l1.length : Int)) = true := decide_eq_true c7
   clear c7
   replace H := Option.bind_eq_some_iff.mp H
   obtain ⟨⟨t551, t552⟩, A80, H⟩ := H
   try dsimp only at H
   have A8 := Az.mk A80
   clear A80
   by_cases c9 : t552 = true
   rotate_left
   ·replace c9 := Bool.eq_false_iff.mpr c9
    subst c9
    have H1 : (impl_BestFlip.l0 k1 l0 l1 x5_1 x6_1 (wrap64 (x7_1 + 1))) = some r := by rw [if_neg (show ¬ (false = true) by decide)] at H; exact H
    clear H
    have H := H1
    clear H1
    have H' := Az.mk H
    clear H
    go_wp2_with (first | ((with_reducible refine gtC (f := 24) rfl ?_); refine goesL_ (some 26) rfl rfl Try.func24 (by kernel_rfl) rfl #[.slice A0 l0.length c0, .slice A1 l1.length c1, .int .i64 x7_1] rfl ln_35 ?_; (with_reducible refine (impl_FlipCurve.calls k1 _ _ l0 _ _ l1 x7_1 t551 false _ ?side1 ?side2 ?side3 ?side4 A8.out).mono ?_); (case side1 => repeat (first | exact (Kd.C_below HR0.out HB.out) | (with_reducible refine Kd.C_alloc ?_ _) | (with_reducible refine Kd.C_drewN ?_ _) | (with_reducible refine Kd.C_drew ?_))); (case side2 => exact HC0.out); (case side3 => repeat (first | exact (Kd.C_below HR1.out HB.out) | (with_reducible refine Kd.C_alloc ?_ _) | (with_reducible refine Kd.C_drewN ?_ _) | (with_reducible refine Kd.C_drew ?_))); (case side4 => exact HC1.out); rintro e w17 ⟨v553, rfl, ho0, hb⟩; refine ⟨_, rfl, ?_⟩; have n0_ := Az.mk (Kd.R_lower ho0 (bwZ bw_35)); have n1_ := Az.mk (bwT bw_35 hb); clear HB; have HO554 := n0_; have HB := n1_; clear n0_ n1_; (try clear hb); (try clear hb2); (try clear hk); (try clear hi); (try clear ho0)))
    go_roundg k1
    case measure => have := HK1.out; omega
    case rel => exact ⟨(x5_1), (x6_1), (wrap64 (x7_1 + 1)), (by first | rfl | (simp; done) | (simp [*]; done)), (by first | rfl | (simp; done) | (simp [*]; done)), (by first | rfl | (simp; done) | (simp [*]; done)), H', ⟨by have := HK1.out; omega⟩, ⟨by repeat (first | (with_reducible first | exact HB.out | apply bwA | apply pbN | apply bwD) | exact HB.out)⟩⟩
   subst c9
   have H1 : ((impl_CrossSum.f k1 t551).bind fun t555 => (if t555 < x6_1 then ((impl_CrossSum.f k1 t551).bind fun t556 => (impl_BestFlip.l0 k1 l0 l1 x7_1 t556 (wrap64 (x7_1 + 1)))) else (impl_BestFlip.l0 k1 l0 l1 x5_1 x6_1 (wrap64 (x7_1 + 1))))) = some r := by rw [if_pos rfl] at H; exact H
   clear H
   have H := H1
   clear H1
   replace H := Option.bind_eq_some_iff.mp H
   obtain ⟨t555, A100, H⟩ := H
   try dsimp only at H
   have A10 := Az.mk A100
   clear A100
   by_cases c11 : t555 < x6_1
   rotate_left
   ·rw [if_neg c11] at H
    have c11b0 : decide (t555 < x6_1) = false := decide_eq_false c11
    clear c11
    have H' := Az.mk H
    clear H
    go_wp2_with (first | ((with_reducible refine gtC (f := 24) rfl ?_); refine goesL_ (some 26) rfl rfl Try.func24 (by kernel_rfl) rfl #[.slice A0 l0.length c0, .slice A1 l1.length c1, .int .i64 x7_1] rfl ln_35 ?_; (with_reducible refine (impl_FlipCurve.calls k1 _ _ l0 _ _ l1 x7_1 t551 true _ ?side1 ?side2 ?side3 ?side4 A8.out).mono ?_); (case side1 => repeat (first | exact (Kd.C_below HR0.out HB.out) | (with_reducible refine Kd.C_alloc ?_ _) | (with_reducible refine Kd.C_drewN ?_ _) | (with_reducible refine Kd.C_drew ?_))); (case side2 => exact HC0.out); (case side3 => repeat (first | exact (Kd.C_below HR1.out HB.out) | (with_reducible refine Kd.C_alloc ?_ _) | (with_reducible refine Kd.C_drewN ?_ _) | (with_reducible refine Kd.C_drew ?_))); (case side4 => exact HC1.out); rintro e w15 ⟨v553, rfl, ho0, hb⟩; refine ⟨_, rfl, ?_⟩; have n0_ := Az.mk (Kd.R_lower ho0 (bwZ bw_35)); have n1_ := Az.mk (bwT bw_35 hb); clear HB; have HO554 := n0_; have HB := n1_; clear n0_ n1_; (try clear hb); (try clear hb2); (try clear hk); (try clear hi); (try clear ho0); obtain ⟨Ao16, co16, eo16⟩ := Kd.R_slice HO554.out; subst eo16) | (go_at_call 54; (with_reducible refine (impl_CrossSum.calls k1 _ _ t551 t555 _ ?side1 ?side2 A10.out).mono ?_); (case side1 => repeat (first | exact (Kd.R_reads' HO554.out).2.2 | (with_reducible refine Kd.C_alloc ?_ _) | (with_reducible refine Kd.C_drewN ?_ _) | (with_reducible refine Kd.C_drew ?_))); (case side2 => exact (Kd.R_reads' HO554.out).2.1); rintro e w' ⟨rfl, ⟨nd, rfl⟩⟩))
    go_roundg k1
    case measure => have := HK1.out; omega
    case rel => exact ⟨(x5_1), (x6_1), (wrap64 (x7_1 + 1)), (by first | rfl | (simp; done) | (simp [*]; done)), (by first | rfl | (simp; done) | (simp [*]; done)), (by first | rfl | (simp; done) | (simp [*]; done)), H', ⟨by have := HK1.out; omega⟩, ⟨by repeat (first | (with_reducible first | exact HB.out | apply bwA | apply pbN | apply bwD) | exact HB.out)⟩⟩
   rw [if_pos c11] at H
   have c11b0 : decide (t555 < x6_1) = true := decide_eq_true c11
   clear c11
   replace H := Option.bind_eq_some_iff.mp H
   obtain ⟨t556, A120, H⟩ := H
   try dsimp only at H
   have A12 := Az.mk A120
   clear A120
   have H' := Az.mk H
   clear H
   go_wp2_with (first | ((with_reducible refine gtC (f := 24) rfl ?_); refine goesL_ (some 26) rfl rfl Try.func24 (by kernel_rfl) rfl #[.slice A0 l0.length c0, .slice A1 l1.length c1, .int .i64 x7_1] rfl ln_35 ?_; (with_reducible refine (impl_FlipCurve.calls k1 _ _ l0 _ _ l1 x7_1 t551 true _ ?side1 ?side2 ?side3 ?side4 A8.out).mono ?_); (case side1 => repeat (first | exact (Kd.C_below HR0.out HB.out) | (with_reducible refine Kd.C_alloc ?_ _) | (with_reducible refine Kd.C_drewN ?_ _) | (with_reducible refine Kd.C_drew ?_))); (case side2 => exact HC0.out); (case side3 => repeat (first | exact (Kd.C_below HR1.out HB.out) | (with_reducible refine Kd.C_alloc ?_ _) | (with_reducible refine Kd.C_drewN ?_ _) | (with_reducible refine Kd.C_drew ?_))); (case side4 => exact HC1.out); rintro e w13 ⟨v553, rfl, ho0, hb⟩; refine ⟨_, rfl, ?_⟩; have n0_ := Az.mk (Kd.R_lower ho0 (bwZ bw_35)); have n1_ := Az.mk (bwT bw_35 hb); clear HB; have HO554 := n0_; have HB := n1_; clear n0_ n1_; (try clear hb); (try clear hb2); (try clear hk); (try clear hi); (try clear ho0); obtain ⟨Ao14, co14, eo14⟩ := Kd.R_slice HO554.out; subst eo14) | (go_at_call 54; (with_reducible refine (impl_CrossSum.calls k1 _ _ t551 t555 _ ?side1 ?side2 A10.out).mono ?_); (case side1 => repeat (first | exact (Kd.R_reads' HO554.out).2.2 | (with_reducible refine Kd.C_alloc ?_ _) | (with_reducible refine Kd.C_drewN ?_ _) | (with_reducible refine Kd.C_drew ?_))); (case side2 => exact (Kd.R_reads' HO554.out).2.1); rintro e w' ⟨rfl, ⟨nd, rfl⟩⟩) | ((with_reducible refine gtC (f := 54) rfl ?_); refine goesL_ (some 38) rfl rfl Try.func54 (by kernel_rfl) rfl #[.slice Ao14 t551.length co14] rfl ln_35 ?_; (with_reducible refine (impl_CrossSum.calls k1 _ _ t551 t556 _ ?side1 ?side2 A12.out).mono ?_); (case side1 => repeat (first | exact (Kd.R_reads' HO554.out).2.2 | (with_reducible refine Kd.C_alloc ?_ _) | (with_reducible refine Kd.C_drewN ?_ _) | (with_reducible refine Kd.C_drew ?_))); (case side2 => exact (Kd.R_reads' HO554.out).2.1); rintro e w' ⟨rfl, ⟨nd, rfl⟩⟩; refine ⟨_, rfl, ?_⟩))
   go_roundg k1
   case measure => have := HK1.out; omega
   case rel => exact ⟨(x7_1), (t556), (wrap64 (x7_1 + 1)), (by first | rfl | (simp; done) | (simp [*]; done)), (by first | rfl | (simp; done) | (simp [*]; done)), (by first | rfl | (simp; done) | (simp [*]; done)), H', ⟨by have := HK1.out; omega⟩, ⟨by repeat (first | (with_reducible first | exact HB.out | apply bwA | apply pbN | apply bwD) | exact HB.out)⟩⟩

end Go.Proofs.Ytolmicnapemljaa.P
