-- By this session's driver (wip/tools/mk.py) of the kit's print program, over several statements at once. Not trusted: Lean checks it.
import Derived.Test.YtkmjcdlhlhefdaaQWZip
import Derived.Test.YtkmjcdlhlhefdaaQPx0
import Derived.Test.YtkmjcdlhlhefdaaQPx12
import Derived.Test.YtkmjcdlhlhefdaaQPx13
namespace Go.Proofs.Ytkmjcdlhlhefdaa.P
open Go.RowKit Go.Proofs.YtkmjcdlhlhefdaaW.PrintWords Go.Proofs.YtkmjcdlhlhefdaaW.PrintLast Go.Proofs.YtkmjcdlhlhefdaaW.PrintMore
attribute [local go_sem] max2_int min2_int max_two min_two max_three min_three max_four min_four   -- for this text's walks alone
set_option linter.unusedVariables false
set_option linter.unusedSimpArgs false
open Bool renaming true → T, false → F
theorem z14_0 {p : Prop} (h : p := by kernel_rfl) : p := h

theorem bw_14 {n : Nat} {v v' : World} (h : Below n v v' := by repeat (first | (with_reducible first | exact HB.out | apply bwA | apply pbN | apply bwD) | exact HB.out)) : Below n v v' := h

theorem ln_14 {P : Prop} (h : P := by (try simp only [List.map_toArray, List.map_cons, List.map_nil]); first | done | rfl | (simp only [List.length_drop, List.length_take]; rfl)) : P := h

/-! ### spec_l18Map: function 38 -/
def spec_l18Map.l0 : Nat → List Int → Int → Int → List Int → Int → Option (List Int)
 | 0, _, _, _, _, _ => none
 | k + 1, x0, x1, x5, x6, x7 => if x7 ≤ 8 then ((spec_l18Places.f k x0 x7).bind fun bt340 => (if bt340.1 < 0 then (spec_l18Map.l0 k x0 x1 x5 x6 (wrap64 (x7 + 1))) else (if x5 = 0 then (none) else ((some (([wrap64 (2 * bt340.1), wrap64 (2 * bt340.2), wrap64 ((wrap64 (2 * (Int.tmod (wrap64 ((wrap64 (bt340.1 + x5)) - 1)) x5))) + 1), wrap64 ((wrap64 (2 * (Int.tmod (wrap64 ((wrap64 (bt340.2 + x5)) - 1)) x5))) + 1)] : List Int) : List Int)).bind fun y342 => (if 0 ≤ (IntKind.u64.wrap (wrap64 (x7 - 1))) then (if (Go.bits .and .i64 (shr .i64 x1 (IntKind.u64.wrap (wrap64 (x7 - 1)))) 1) = 1 then (if 3 < (y342.length : Int) then (if 2 < (y342.length : Int) then (if 1 < (y342.length : Int) then (if 0 < (y342.length : Int) then ((spec_l7Ring.f k x6 (([rd y342 3, rd y342 2, rd y342 1, rd y342 0] : List Int))).bind fun t352 => (spec_l18Map.l0 k x0 x1 x5 t352 (wrap64 (x7 + 1)))) else (none)) else (none)) else (none)) else (none)) else ((spec_l7Ring.f k x6 y342).bind fun t353 => (spec_l18Map.l0 k x0 x1 x5 t353 (wrap64 (x7 + 1))))) else (none)))))) else (some x6)
def spec_l18Map.f (k : Nat) (l0 : List Int) (a1 : Int) : Option (List Int) := if 0 ≤ (wrap64 (2 * (l0.length : Int))) then (if (wrap64 (2 * (l0.length : Int)) : Int).toNat ≤ 35184372088832 then (spec_l18Map.l0 k l0 a1 (l0.length : Int) (List.replicate (wrap64 (2 * (l0.length : Int)) : Int).toNat 0) 1) else (none)) else (none)
def spec_l18Map.T8 : Bool × List (List Nat × List Nat) := (true, [([], []), ([0], [0]), ([], []), ([2], [2]), ([], []), ([], []), ([4, 5], [4, 5]), ([6], [6]), ([], []), ([7, 8], [7, 8]), ([9], [9]), ([10], [10]), ([], []), ([], []), ([12, 13], [12, 13]), ([14], [14]), ([], []), ([15, 16], [15, 16]), ([17], [17]), ([18], [18]), ([1, 3, 11, 19], [1, 3, 11, 19]), ([20, 0, 1, 2, 3, 4, 5, 6, 7, 8, 9, 10, 11, 12, 13, 14, 15, 16, 17, 18, 19, 20], [20])])
def spec_l18Map.B8 : List Nat := [0, 1, 0, 4, 0, 0, 48, 112, 0, 496, 1008, 2032, 0, 0, 12288, 28672, 0, 126976, 258048, 520192, 1048575, 2097151]
theorem spec_l18Map.tab8 : rtab .any (opsOf Try.f38 8) = spec_l18Map.T8 := by kernel_rfl
theorem spec_l18Map.bits8 : waitsOk spec_l18Map.T8.2 spec_l18Map.B8 = true := by kernel_rfl
def spec_l18Map.T10 : Bool × List (List Nat × List Nat) := (true, [([], []), ([0], [0]), ([1], [1]), ([], []), ([3], [3]), ([4], [4]), ([], []), ([6], [6]), ([7], [7]), ([], []), ([9], [9]), ([10], [10]), ([2, 5, 8, 11], [2, 5, 8, 11]), ([12, 0, 1, 2, 3, 4, 5, 6, 7, 8, 9, 10, 11, 12], [0, 3, 6, 9, 12])])
def spec_l18Map.B10 : List Nat := [0, 1, 3, 0, 8, 24, 0, 64, 192, 0, 512, 1536, 4095, 8191]
theorem spec_l18Map.tab10 : rtab .any (opsOf Try.f38 10) = spec_l18Map.T10 := by kernel_rfl
theorem spec_l18Map.bits10 : waitsOk spec_l18Map.T10.2 spec_l18Map.B10 = true := by kernel_rfl
set_option maxHeartbeats 8000000 in
set_option maxRecDepth 100000 in
theorem spec_l18Map.calls (k : Nat) (A0 : Option Addr) (c0 : Nat) (l0 : List Int) (a1 : Int) (r : List Int) (w : World) (hr0 : Kd.C (Kd.int .i64) w A0 l0.length l0) (hc0 : l0.length ≤ c0) (h : spec_l18Map.f k l0 a1 = some r) :
  Calls Try.prog 38 #[.slice A0 l0.length c0, .int .i64 a1] w fun e w' => ∃ v0_ : Value, e = .returned (v0_) ∧ Kd.R (Kd.int .i64) 3 w' w.heap.size (fun _ => True) v0_ r ∧ Below w.heap.size w w' := by
 have HR0 := Az.mk hr0
 have HC0 := Az.mk hc0
 clear hr0 hc0
 have HB := Az.mk (Below.refl w.heap.size w)
 have H : (if 0 ≤ (wrap64 (2 * (l0.length : Int))) then (if (wrap64 (2 * (l0.length : Int)) : Int).toNat ≤ 35184372088832 then (spec_l18Map.l0 k l0 a1 (l0.length : Int) (List.replicate (wrap64 (2 * (l0.length : Int)) : Int).toNat 0) 1) else (none)) else (none)) = some r := h
 clear h
 obtain ⟨ji3, hji3⟩ : ∃ j_ : Int, (wrap64 (2 * (l0.length : Int))) = j_ := ⟨_, rfl⟩
 replace H : (if 0 ≤ (ji3) then (if (ji3 : Int).toNat ≤ 35184372088832 then (spec_l18Map.l0 k l0 a1 (l0.length : Int) (List.replicate (ji3 : Int).toNat 0) 1) else (none)) else (none)) = some r := by first | (rw [hji3] at H; exact H) | (simp only [hji3] at H ⊢; exact H)
 have hji3w : (IntKind.i64.wrap (2 * (l0.length : Int))) = ji3 := (i64_w _).trans hji3
 by_cases c4 : 0 ≤ (ji3)
 rotate_left
 ·rw [if_neg c4] at H
  exact absurd H (by simp)
 rw [if_pos c4] at H
 have c4b0 := eq_true c4
 have c4b1 : decide (0 ≤ (ji3)) = true := decide_eq_true c4
 clear c4
 by_cases c5 : (ji3 : Int).toNat ≤ 35184372088832
 rotate_left
 ·rw [if_neg c5] at H
  exact absurd H (by simp)
 rw [if_pos c5] at H
 have c5b0 := eq_true c5
 have c5b1 : decide ((ji3 : Int).toNat ≤ 35184372088832) = true := decide_eq_true c5
 clear c5
 obtain ⟨y337, hy⟩ : ∃ y_ : List Int, y_ = (List.replicate (ji3 : Int).toNat 0) := ⟨_, rfl⟩
 replace H : (spec_l18Map.l0 k l0 a1 (l0.length : Int) y337 1) = some r := rh
 have Ny337 := Az.mk hy
 clear hy
 have H' := Az.mk H
 clear H
 go_enter Try.func38, Try.ntmps38
 go_wp2_with (first | ((with_reducible refine gtD (N := 15) rfl ?_); refine Kd.R_make (Kd.int .i64) _ 3 rfl (N := 15) rfl 24 _ _ rfl ji3 rfl rfl Try.underlying24 (.int .i64 0) 8 info3 rfl (by decide) (by omega) 0 (ok := fun _ => True) (okp := fun _ => True) rfl (fun _ hk => hk) trivial (of_decide_eq_true am) (Nat.le_trans (Nat.mul_le_mul_right _ (of_decide_eq_true am : ji3.toNat ≤ 35184372088832)) (by omega)) (Below.refl _ _) (Nat.le_refl _) ?_; intro v338 w6 ho7 hb hg_ hnew_; clear hg_ hnew_; (first | rw [← Ny337.out] at ho7 | (simp only [Int.reduceToNat] at ho7; rw [← Ny337.out] at ho7)); have HO339 := Az.mk (Kd.R_lower ho7 (bwZ bw_14)); replace HB := Az.mk (bwT bw_14 hb); clear hb ho7))
 go_loopg [7] k (fun kq v7 w' => ∃ (x6_1 : List Int) (x7_1 : Int), v7 = .int .i64 x7_1 ∧ Az (spec_l18Map.l0 kq l0 a1 (l0.length : Int) x6_1 x7_1 = some r) ∧ Az (kq ≤ k) ∧ Az (Kd.R (Kd.int .i64) 3 w' w.heap.size (fun _ => True) v338 x6_1) ∧ Az (Below w.heap.size w w'))
 case atStart => exact ⟨(y337), (1), rq2, H', ⟨Nat.le_refl _⟩, ⟨kR HO339.out⟩, ⟨bw_14⟩⟩
 clear H'
 try clear c4
 try clear c4b0
 try clear c4b1
 try clear c5
 try clear c5b0
 try clear c5b1
 obtain ⟨x6_1, x7_1, rfl, HA, HK1, HO_6, HB⟩ := hrel
 cases gk with
 | zero => exact absurd HA.out (by simp [spec_l18Map.l0])
 | succ k1 =>
  have H := HA.out
  clear HA
  simp only [spec_l18Map.l0] at H
  by_cases c8 : x7_1 ≤ 8
  rotate_left
  ·rw [if_neg c8] at H
   have c8b0 : decide (x7_1 ≤ 8) = false := decide_eq_false c8
   clear c8
   obtain rfl := Option.some.inj H
   go_wp2
   go_ret
   exact ⟨_, by first | rfl | (simp [eWn, eWs] <;> rfl) | (simp only [← hji3]; first | rfl | (simp [eWn, eWs] <;> rfl)) | (simp [*, eWn, eWs] <;> rfl), kR HO_6.out, bw_14⟩
  rw [if_pos c8] at H
  have c8b0 : decide (x7_1 ≤ 8) = true := decide_eq_true c8
  clear c8
  replace H := bez H
  obtain ⟨⟨t340, t341⟩, A9, H⟩ := H
  try dsimp only at H
  by_cases c10 : t340 < 0
  ·rw [if_pos c10] at H
   have c10b0 : decide (t340 < 0) = true := decide_eq_true c10
   clear c10
   have H' := Az.mk H
   clear H
   go_wp2_with (first | ((with_reducible refine gtC (f := 63) rfl ?_); refine clz Try.func63 (some 23) #[.slice A0 l0.length c0, .int .i64 x7_1] ?_; (with_reducible refine (spec_l18Places.calls k1 _ _ l0 x7_1 t340 t341 _ ?side1 ?side2 A9.out).mono ?_); (case side1 => exact kC (Kd.C_below HR0.out HB.out)); (case side2 => exact HC0.out); rintro e w' ⟨rfl, ⟨nd, rfl⟩⟩; refine ⟨_, rfl, ?_⟩))
   go_roundg k1
   case measure => have := HK1.out; omega
   case rel => exact ⟨(x6_1), (wrap64 (x7_1 + 1)), rq2, H', ⟨by have := HK1.out; omega⟩, ⟨kR HO_6.out⟩, ⟨bw_14⟩⟩
  rw [if_neg c10] at H
  have c10b0 : decide (t340 < 0) = false := decide_eq_false c10
  clear c10
  by_cases c11 : (l0.length : Int) = 0
  ·rw [if_pos c11] at H
   exact absurd H (by simp)
  rw [if_neg c11] at H
  have c11b0 : ((l0.length : Int) == 0) = false := beq_eq_false_iff_ne.mpr c11
  have c11b1 : ((l0.length : Int) != 0) = true := bne_iff_ne.mpr c11
  have c11b2 : ¬ (l0 = []) := fun h_ => c11 (by rw [h_]; rfl)
  obtain ⟨y342, hy⟩ : ∃ y_ : List Int, y_ = (([wrap64 (2 * t340), wrap64 (2 * t341), wrap64 ((wrap64 (2 * (Int.tmod (wrap64 ((wrap64 (t340 + (l0.length : Int))) - 1)) (l0.length : Int)))) + 1), wrap64 ((wrap64 (2 * (Int.tmod (wrap64 ((wrap64 (t341 + (l0.length : Int))) - 1)) (l0.length : Int)))) + 1)] : List Int)) := ⟨_, rfl⟩
  replace H : (if 0 ≤ (IntKind.u64.wrap (wrap64 (x7_1 - 1))) then (if (Go.bits .and .i64 (shr .i64 a1 (IntKind.u64.wrap (wrap64 (x7_1 - 1)))) 1) = 1 then (if 3 < (y342.length : Int) then (if 2 < (y342.length : Int) then (if 1 < (y342.length : Int) then (if 0 < (y342.length : Int) then ((spec_l7Ring.f k1 x6_1 (([rd y342 3, rd y342 2, rd y342 1, rd y342 0] : List Int))).bind fun t352 => (spec_l18Map.l0 k1 l0 a1 (l0.length : Int) t352 (wrap64 (x7_1 + 1)))) else (none)) else (none)) else (none)) else (none)) else ((spec_l7Ring.f k1 x6_1 y342).bind fun t353 => (spec_l18Map.l0 k1 l0 a1 (l0.length : Int) t353 (wrap64 (x7_1 + 1))))) else (none)) = some r := rh
  have Ny342 := Az.mk hy
  clear hy
  obtain ⟨ji12, hji12⟩ : ∃ j_ : Int, (IntKind.u64.wrap (wrap64 (x7_1 - 1))) = j_ := ⟨_, rfl⟩
  replace H : (if 0 ≤ (ji12) then (if (Go.bits .and .i64 (shr .i64 a1 (ji12)) 1) = 1 then (if 3 < (y342.length : Int) then (if 2 < (y342.length : Int) then (if 1 < (y342.length : Int) then (if 0 < (y342.length : Int) then ((spec_l7Ring.f k1 x6_1 (([rd y342 3, rd y342 2, rd y342 1, rd y342 0] : List Int))).bind fun t352 => (spec_l18Map.l0 k1 l0 a1 (l0.length : Int) t352 (wrap64 (x7_1 + 1)))) else (none)) else (none)) else (none)) else (none)) else ((spec_l7Ring.f k1 x6_1 y342).bind fun t353 => (spec_l18Map.l0 k1 l0 a1 (l0.length : Int) t353 (wrap64 (x7_1 + 1))))) else (none)) = some r := by first | (rw [hji12] at H; exact H) | (simp only [hji12] at H ⊢; exact H)
  (try rw [hji12] at A9)
  by_cases c13 : 0 ≤ (ji12)
  rotate_left
  ·rw [if_neg c13] at H
   exact absurd H (by simp)
  rw [if_pos c13] at H
  have c13b0 := eq_true c13
  have c13b1 : decide (0 ≤ (ji12)) = true := decide_eq_true c13
  clear c13
  obtain ⟨ji14, hji14⟩ : ∃ j_ : Int, (shr .i64 a1 (ji12)) = j_ := ⟨_, rfl⟩
  replace H : (if (Go.bits .and .i64 (ji14) 1) = 1 then (if 3 < (y342.length : Int) then (if 2 < (y342.length : Int) then (if 1 < (y342.length : Int) then (if 0 < (y342.length : Int) then ((spec_l7Ring.f k1 x6_1 (([rd y342 3, rd y342 2, rd y342 1, rd y342 0] : List Int))).bind fun t352 => (spec_l18Map.l0 k1 l0 a1 (l0.length : Int) t352 (wrap64 (x7_1 + 1)))) else (none)) else (none)) else (none)) else (none)) else ((spec_l7Ring.f k1 x6_1 y342).bind fun t353 => (spec_l18Map.l0 k1 l0 a1 (l0.length : Int) t353 (wrap64 (x7_1 + 1))))) = some r := by first | (rw [hji14] at H; exact H) | (simp only [hji14] at H ⊢; exact H)
  (try rw [hji14] at A9)
  have hji14_ : (a1 / 2 ^ min (ji12).toNat 64) = ji14 := hji14
  have hji14z : (ji12) ≤ 64 → (a1 / 2 ^ (ji12).toNat) = ji14 := shr_small hji14
  by_cases c15 : (Go.bits .and .i64 (ji14) 1) = 1
  rotate_left
  ·rw [if_neg c15] at H
   have c15b0 : ((Go.bits .and .i64 (ji14) 1) == 1) = false := beq_eq_false_iff_ne.mpr c15
   have c15b1 : ((Go.bits .and .i64 (ji14) 1) != 1) = true := bne_iff_ne.mpr c15
   replace H := bez H
   obtain ⟨t353, A31, H⟩ := H
   try dsimp only at H
   have H' := Az.mk H
   clear H
   try go_wp2_with (first | ((with_reducible refine gtC (f := 63) rfl ?_); refine clz Try.func63 (some 23) #[.slice A0 l0.length c0, .int .i64 x7_1] ?_; (with_reducible refine (spec_l18Places.calls k1 _ _ l0 x7_1 t340 t341 _ ?side1 ?side2 A9.out).mono ?_); (case side1 => exact kC (Kd.C_below HR0.out HB.out)); (case side2 => exact HC0.out); rintro e w' ⟨rfl, ⟨nd, rfl⟩⟩; refine ⟨_, rfl, ?_⟩))
   (try (rw [drewN_self wr]; generalize hq_ : World.drewN wr _ = wr; have n0_ : Az (Kd.R (Kd.int .i64) 3 wr w.heap.size (fun _ => True) v338 x6_1) := ⟨by rw [← hq_]; exact (kR HO_6.out)⟩; have n1_ : Az (Below w.heap.size w wr) := ⟨by rw [← hq_]; exact bw_14⟩; clear HO_6 HB hq_; have HO_6 := n0_; have HB := n1_; clear n0_ n1_))
   replace HO_6 := Az.mk (Kd.R_drew HO_6.out); replace HB := Az.mk (bwD HB.out)
   refine start_ (n := 22) (S := fun w' => True) (ds := []) #[F,F,F,F,F,F,F,F,F,F,F,F,F,F,F,F,F,F,F,F,F,F] z14_0 rfl rfl trivial (fun hHeld => ?_); refine with_tabW spec_l18Map.tab8 spec_l18Map.bits8 (fun HT_ HW_ => ?_)
   generalize wr.drew = w32 at HO_6 HB hHeld ⊢
   refine pu (i := 0) (N := some 28) #[T,F,F,F,F,F,F,F,F,F,F,F,F,F,F,F,F,F,F,F,F,F] (any_of HT_.out z14_0) ?_
   refine pu (i := 1) (N := some 29) #[T,T,F,F,F,F,F,F,F,F,F,F,F,F,F,F,F,F,F,F,F,F] (any_of HT_.out z14_0) ?_
   refine pu (i := 2) (N := some 30) #[T,T,T,F,F,F,F,F,F,F,F,F,F,F,F,F,F,F,F,F,F,F] (any_of HT_.out z14_0) ?_
   refine pu (i := 3) (N := some 31) #[T,T,T,T,F,F,F,F,F,F,F,F,F,F,F,F,F,F,F,F,F,F] (any_of HT_.out z14_0) ?_
   refine pu (i := 4) (N := some 32) #[T,T,T,T,T,F,F,F,F,F,F,F,F,F,F,F,F,F,F,F,F,F] (any_of HT_.out z14_0) ?_
   refine pu (i := 5) (N := some 33) #[T,T,T,T,T,T,F,F,F,F,F,F,F,F,F,F,F,F,F,F,F,F] (any_of HT_.out z14_0) ?_
   refine pu (i := 6) (N := some 34) #[T,T,T,T,T,T,T,F,F,F,F,F,F,F,F,F,F,F,F,F,F,F] (any_of HT_.out z14_0) ?_
   refine pu (i := 7) (N := some 35) #[T,T,T,T,T,T,T,T,F,F,F,F,F,F,F,F,F,F,F,F,F,F] (any_of HT_.out z14_0) ?_
   refine pu (i := 8) (N := some 36) #[T,T,T,T,T,T,T,T,T,F,F,F,F,F,F,F,F,F,F,F,F,F] (any_of HT_.out z14_0) ?_
   refine pu (i := 9) (N := some 37) #[T,T,T,T,T,T,T,T,T,T,F,F,F,F,F,F,F,F,F,F,F,F] (any_of HT_.out z14_0) ?_
   refine pu (i := 10) (N := some 38) #[T,T,T,T,T,T,T,T,T,T,T,F,F,F,F,F,F,F,F,F,F,F] (any_of HT_.out z14_0) ?_
   refine pu (i := 11) (N := some 39) #[T,T,T,T,T,T,T,T,T,T,T,T,F,F,F,F,F,F,F,F,F,F] (any_of HT_.out z14_0) ?_
   refine pu (i := 12) (N := some 40) #[T,T,T,T,T,T,T,T,T,T,T,T,T,F,F,F,F,F,F,F,F,F] (any_of HT_.out z14_0) ?_
   refine pu (i := 13) (N := some 41) #[T,T,T,T,T,T,T,T,T,T,T,T,T,T,F,F,F,F,F,F,F,F] (any_of HT_.out z14_0) ?_
   refine pu (i := 14) (N := some 42) #[T,T,T,T,T,T,T,T,T,T,T,T,T,T,T,F,F,F,F,F,F,F] (any_of HT_.out z14_0) ?_
   refine pu (i := 15) (N := some 43) #[T,T,T,T,T,T,T,T,T,T,T,T,T,T,T,T,F,F,F,F,F,F] (any_of HT_.out z14_0) ?_
   refine pu (i := 16) (N := some 44) #[T,T,T,T,T,T,T,T,T,T,T,T,T,T,T,T,T,F,F,F,F,F] (any_of HT_.out z14_0) ?_
   refine pu (i := 17) (N := some 45) #[T,T,T,T,T,T,T,T,T,T,T,T,T,T,T,T,T,T,F,F,F,F] (any_of HT_.out z14_0) ?_
   refine pu (i := 18) (N := some 46) #[T,T,T,T,T,T,T,T,T,T,T,T,T,T,T,T,T,T,T,F,F,F] (any_of HT_.out z14_0) ?_
   refine pu (i := 19) (N := some 47) #[T,T,T,T,T,T,T,T,T,T,T,T,T,T,T,T,T,T,T,T,F,F] (any_of HT_.out z14_0) ?_
   refine one_ (i := 20) (N := some 48) #[T,T,T,T,T,T,T,T,T,T,T,T,T,T,T,T,T,T,T,T,T,F] rfl rfl (one_of HT_.out z14_0) (by decide) (fun K hK => ?_)
   refine Kd.R_lit_step (Kd.int .i64) _ 3 ?hg (N := 48) ?hd (xs := ([wrap64 (2 * t340), wrap64 (2 * t341), wrap64 ((wrap64 (2 * (Int.tmod (wrap64 ((wrap64 (t340 + (l0.length : Int))) - 1)) (l0.length : Int)))) + 1), wrap64 ((wrap64 (2 * (Int.tmod (wrap64 ((wrap64 (t341 + (l0.length : Int))) - 1)) (l0.length : Int)))) + 1)] : List Int)) (inner := [.int .i64 (wrap64 (2 * t340)), .int .i64 (wrap64 (2 * t341)), .int .i64 (wrap64 ((wrap64 (2 * (Int.tmod (wrap64 ((wrap64 (t340 + (l0.length : Int))) - 1)) (l0.length : Int)))) + 1)), .int .i64 (wrap64 ((wrap64 (2 * (Int.tmod (wrap64 ((wrap64 (t341 + (l0.length : Int))) - 1)) (l0.length : Int)))) + 1))]) (ok := fun _ => True) (okp := fun _ => True) ?hr ?hp (fun _ hk => hk) trivial (Below.refl _ _) (Nat.le_refl _) (by simp) ?_; (case hd => rfl); (case hg => rfl); (case hr => first | (go_simp; done) | (go_simp; rfl)); (case hp => exact (Reps.one (show Kd.M (Kd.int .i64) _ _ _ (wrap64 (2 * t340)) [.int .i64 (wrap64 (2 * t340))] from rfl) (Reps.one (show Kd.M (Kd.int .i64) _ _ _ (wrap64 (2 * t341)) [.int .i64 (wrap64 (2 * t341))] from rfl) (Reps.one (show Kd.M (Kd.int .i64) _ _ _ (wrap64 ((wrap64 (2 * (Int.tmod (wrap64 ((wrap64 (t340 + (l0.length : Int))) - 1)) (l0.length : Int)))) + 1)) [.int .i64 (wrap64 ((wrap64 (2 * (Int.tmod (wrap64 ((wrap64 (t340 + (l0.length : Int))) - 1)) (l0.length : Int)))) + 1))] from rfl) (Reps.one (show Kd.M (Kd.int .i64) _ _ _ (wrap64 ((wrap64 (2 * (Int.tmod (wrap64 ((wrap64 (t341 + (l0.length : Int))) - 1)) (l0.length : Int)))) + 1)) [.int .i64 (wrap64 ((wrap64 (2 * (Int.tmod (wrap64 ((wrap64 (t341 + (l0.length : Int))) - 1)) (l0.length : Int)))) + 1))] from rfl) (Reps.none _ _))))))
   intro v343 w33 ho34 hb hg_ hnew_
   clear hg_ hnew_
   (first | rw [← Ny342.out] at ho34 | (simp only [Int.reduceToNat] at ho34; rw [← Ny342.out] at ho34))
   have HO344 := Az.mk (Kd.R_lower (Kd.R_new' ho34 (Kd.R_lt (kR HO_6.out))) (bwZ bw_14)); replace HO_6 := Az.mk (Kd.R_elder' (kR HO_6.out) (Kd.R_base ho34) hb); replace HB := Az.mk (bwT bw_14 hb)
   clear hb ho34
   refine hK.out _ _ trivial (fun hHeld => ?_)
   clear hK K
   refine norm_ (a' := ?_) ?_ ?_
   rotate_left
   ·show Act.put _ (some 48) _ = _
    exact acq
   refine pu (i := 21) (N := some 10) #[T,T,T,T,T,T,T,T,T,T,T,T,T,T,T,T,T,T,T,T,T,T] (any_of HT_.out z14_0) ?_
   refine done_ (done_of HT_.out z14_0) ?_
   obtain ⟨Ao35, co35, eo35⟩ := Kd.R_slice HO_6.out
   subst eo35
   obtain ⟨Ao36, co36, eo36⟩ := Kd.R_slice HO344.out
   subst eo36
   try go_wp2_with (first | ((with_reducible refine gtC (f := 64) rfl ?_); refine clz Try.func64 (some 71) #[.slice Ao35 x6_1.length co35, .slice Ao36 y342.length co36] ?_; (with_reducible refine (spec_l7Ring.calls k1 (fun k_ => some k_ = (.slice Ao35 x6_1.length co35 : Value).ownBlock) (.slice Ao35 x6_1.length co35) x6_1 _ _ y342 t353 w _ ?side1 ?side2 ?side3 ?side4 A31.out).mono ?_); (case side1 => exact bw_14); (case side2 => exact Kd.R_tight rfl HO_6.out); (case side3 => exact Kd.C_kept_own (HO344.out) (fun k_ hk_ hs_ => (hk_.2) hs_)); (case side4 => exact (Kd.R_reads' HO344.out).2.1); rintro e w37 ⟨rfl, hy0, hb, hkp⟩; refine ⟨_, rfl, ?_⟩; replace HO_6 := Az.mk (Kd.R_reok rfl hy0 (fun k_ e_ => HO_6.out.1 k_ e_)); replace HO344 := Az.mk (Kd.R_mono (ok' := fun k_ => some k_ ≠ (.slice Ao35 x6_1.length co35 : Value).ownBlock) (Kd.R_keptB (HO344.out) hkp (fun k_ hk_ hs_ => (hk_.2) hs_)) (fun k_ hk_ => hk_.1.2)); replace HB := Az.mk (hb); (try clear hb); (try clear hkp); (try clear hy0)))
   go_roundg k1
   case measure => have := HK1.out; omega
   case rel => exact ⟨(t353), (wrap64 (x7_1 + 1)), rq2, H', ⟨by have := HK1.out; omega⟩, ⟨by (with_reducible repeat (first | apply Kd.R_alloc | apply Kd.R_drewN | apply Kd.R_drew)); exact Kd.R_mono HO_6.out (fun _ hk => trivial)⟩, ⟨bw_14⟩⟩
  rw [if_pos c15] at H
  have c15b0 : ((Go.bits .and .i64 (ji14) 1) == 1) = true := beq_iff_eq.mpr c15
  have c15b1 : ((Go.bits .and .i64 (ji14) 1) != 1) = false := bne_eq_false_iff_eq.mpr c15
  clear c15
  by_cases c16 : 3 < (y342.length : Int)
  rotate_left
  ·rw [if_neg c16] at H
   exact absurd H (by simp)
  rw [if_pos c16] at H
  have c16b0 : decide (3 < (y342.length : Int)) = true := decide_eq_true c16
  have c16b1 : decide (3 < y342.length) = true := decide_eq_true (by omega)
  clear c16
  by_cases c17 : 2 < (y342.length : Int)
  rotate_left
  ·rw [if_neg c17] at H
   exact absurd H (by simp)
  rw [if_pos c17] at H
  have c17b0 : decide (2 < (y342.length : Int)) = true := decide_eq_true c17
  have c17b1 : decide (2 < y342.length) = true := decide_eq_true (by omega)
  clear c17
  by_cases c18 : 1 < (y342.length : Int)
  rotate_left
  ·rw [if_neg c18] at H
   exact absurd H (by simp)
  rw [if_pos c18] at H
  have c18b0 : decide (1 < (y342.length : Int)) = true := decide_eq_true c18
  have c18b1 : decide (1 < y342.length) = true := decide_eq_true (by omega)
  clear c18
  by_cases c19 : 0 < (y342.length : Int)
  rotate_left
  ·rw [if_neg c19] at H
   exact absurd H (by simp)
  rw [if_pos c19] at H
  have c19b0 : decide (0 < (y342.length : Int)) = true := decide_eq_true c19
  have c19b1 : decide (0 < y342.length) = true := decide_eq_true (by omega)
  clear c19
  obtain ⟨y349, hy⟩ : ∃ y_ : List Int, y_ = (([rd y342 3, rd y342 2, rd y342 1, rd y342 0] : List Int)) := ⟨_, rfl⟩
  replace H : ((spec_l7Ring.f k1 x6_1 y349).bind fun t352 => (spec_l18Map.l0 k1 l0 a1 (l0.length : Int) t352 (wrap64 (x7_1 + 1)))) = some r := rh
  have Ny349 := Az.mk hy
  clear hy
  replace H := bez H
  obtain ⟨t352, A20, H⟩ := H
  try dsimp only at H
  have H' := Az.mk H
  clear H
  try go_wp2_with (first | ((with_reducible refine gtC (f := 63) rfl ?_); refine clz Try.func63 (some 23) #[.slice A0 l0.length c0, .int .i64 x7_1] ?_; (with_reducible refine (spec_l18Places.calls k1 _ _ l0 x7_1 t340 t341 _ ?side1 ?side2 A9.out).mono ?_); (case side1 => exact kC (Kd.C_below HR0.out HB.out)); (case side2 => exact HC0.out); rintro e w' ⟨rfl, ⟨nd, rfl⟩⟩; refine ⟨_, rfl, ?_⟩))
  (try (rw [drewN_self wr]; generalize hq_ : World.drewN wr _ = wr; have n0_ : Az (Kd.R (Kd.int .i64) 3 wr w.heap.size (fun _ => True) v338 x6_1) := ⟨by rw [← hq_]; exact (kR HO_6.out)⟩; have n1_ : Az (Below w.heap.size w wr) := ⟨by rw [← hq_]; exact bw_14⟩; clear HO_6 HB hq_; have HO_6 := n0_; have HB := n1_; clear n0_ n1_))
  replace HO_6 := Az.mk (Kd.R_drew HO_6.out); replace HB := Az.mk (bwD HB.out)
  refine start_ (n := 22) (S := fun w' => True) (ds := []) #[F,F,F,F,F,F,F,F,F,F,F,F,F,F,F,F,F,F,F,F,F,F] z14_0 rfl rfl trivial (fun hHeld => ?_); refine with_tabW spec_l18Map.tab8 spec_l18Map.bits8 (fun HT_ HW_ => ?_)
  generalize wr.drew = w21 at HO_6 HB hHeld ⊢
  refine pu (i := 0) (N := some 28) #[T,F,F,F,F,F,F,F,F,F,F,F,F,F,F,F,F,F,F,F,F,F] (any_of HT_.out z14_0) ?_
  refine pu (i := 1) (N := some 29) #[T,T,F,F,F,F,F,F,F,F,F,F,F,F,F,F,F,F,F,F,F,F] (any_of HT_.out z14_0) ?_
  refine pu (i := 2) (N := some 30) #[T,T,T,F,F,F,F,F,F,F,F,F,F,F,F,F,F,F,F,F,F,F] (any_of HT_.out z14_0) ?_
  refine pu (i := 3) (N := some 31) #[T,T,T,T,F,F,F,F,F,F,F,F,F,F,F,F,F,F,F,F,F,F] (any_of HT_.out z14_0) ?_
  refine pu (i := 4) (N := some 32) #[T,T,T,T,T,F,F,F,F,F,F,F,F,F,F,F,F,F,F,F,F,F] (any_of HT_.out z14_0) ?_
  refine pu (i := 5) (N := some 33) #[T,T,T,T,T,T,F,F,F,F,F,F,F,F,F,F,F,F,F,F,F,F] (any_of HT_.out z14_0) ?_
  refine pu (i := 6) (N := some 34) #[T,T,T,T,T,T,T,F,F,F,F,F,F,F,F,F,F,F,F,F,F,F] (any_of HT_.out z14_0) ?_
  refine pu (i := 7) (N := some 35) #[T,T,T,T,T,T,T,T,F,F,F,F,F,F,F,F,F,F,F,F,F,F] (any_of HT_.out z14_0) ?_
  refine pu (i := 8) (N := some 36) #[T,T,T,T,T,T,T,T,T,F,F,F,F,F,F,F,F,F,F,F,F,F] (any_of HT_.out z14_0) ?_
  refine pu (i := 9) (N := some 37) #[T,T,T,T,T,T,T,T,T,T,F,F,F,F,F,F,F,F,F,F,F,F] (any_of HT_.out z14_0) ?_
  refine pu (i := 10) (N := some 38) #[T,T,T,T,T,T,T,T,T,T,T,F,F,F,F,F,F,F,F,F,F,F] (any_of HT_.out z14_0) ?_
  refine pu (i := 11) (N := some 39) #[T,T,T,T,T,T,T,T,T,T,T,T,F,F,F,F,F,F,F,F,F,F] (any_of HT_.out z14_0) ?_
  refine pu (i := 12) (N := some 40) #[T,T,T,T,T,T,T,T,T,T,T,T,T,F,F,F,F,F,F,F,F,F] (any_of HT_.out z14_0) ?_
  refine pu (i := 13) (N := some 41) #[T,T,T,T,T,T,T,T,T,T,T,T,T,T,F,F,F,F,F,F,F,F] (any_of HT_.out z14_0) ?_
  refine pu (i := 14) (N := some 42) #[T,T,T,T,T,T,T,T,T,T,T,T,T,T,T,F,F,F,F,F,F,F] (any_of HT_.out z14_0) ?_
  refine pu (i := 15) (N := some 43) #[T,T,T,T,T,T,T,T,T,T,T,T,T,T,T,T,F,F,F,F,F,F] (any_of HT_.out z14_0) ?_
  refine pu (i := 16) (N := some 44) #[T,T,T,T,T,T,T,T,T,T,T,T,T,T,T,T,T,F,F,F,F,F] (any_of HT_.out z14_0) ?_
  refine pu (i := 17) (N := some 45) #[T,T,T,T,T,T,T,T,T,T,T,T,T,T,T,T,T,T,F,F,F,F] (any_of HT_.out z14_0) ?_
  refine pu (i := 18) (N := some 46) #[T,T,T,T,T,T,T,T,T,T,T,T,T,T,T,T,T,T,T,F,F,F] (any_of HT_.out z14_0) ?_
  refine pu (i := 19) (N := some 47) #[T,T,T,T,T,T,T,T,T,T,T,T,T,T,T,T,T,T,T,T,F,F] (any_of HT_.out z14_0) ?_
  refine one_ (i := 20) (N := some 48) #[T,T,T,T,T,T,T,T,T,T,T,T,T,T,T,T,T,T,T,T,T,F] rfl rfl (one_of HT_.out z14_0) (by decide) (fun K hK => ?_)
  refine Kd.R_lit_step (Kd.int .i64) _ 3 ?hg (N := 48) ?hd (xs := ([wrap64 (2 * t340), wrap64 (2 * t341), wrap64 ((wrap64 (2 * (Int.tmod (wrap64 ((wrap64 (t340 + (l0.length : Int))) - 1)) (l0.length : Int)))) + 1), wrap64 ((wrap64 (2 * (Int.tmod (wrap64 ((wrap64 (t341 + (l0.length : Int))) - 1)) (l0.length : Int)))) + 1)] : List Int)) (inner := [.int .i64 (wrap64 (2 * t340)), .int .i64 (wrap64 (2 * t341)), .int .i64 (wrap64 ((wrap64 (2 * (Int.tmod (wrap64 ((wrap64 (t340 + (l0.length : Int))) - 1)) (l0.length : Int)))) + 1)), .int .i64 (wrap64 ((wrap64 (2 * (Int.tmod (wrap64 ((wrap64 (t341 + (l0.length : Int))) - 1)) (l0.length : Int)))) + 1))]) (ok := fun _ => True) (okp := fun _ => True) ?hr ?hp (fun _ hk => hk) trivial (Below.refl _ _) (Nat.le_refl _) (by simp) ?_; (case hd => rfl); (case hg => rfl); (case hr => first | (go_simp; done) | (go_simp; rfl)); (case hp => exact (Reps.one (show Kd.M (Kd.int .i64) _ _ _ (wrap64 (2 * t340)) [.int .i64 (wrap64 (2 * t340))] from rfl) (Reps.one (show Kd.M (Kd.int .i64) _ _ _ (wrap64 (2 * t341)) [.int .i64 (wrap64 (2 * t341))] from rfl) (Reps.one (show Kd.M (Kd.int .i64) _ _ _ (wrap64 ((wrap64 (2 * (Int.tmod (wrap64 ((wrap64 (t340 + (l0.length : Int))) - 1)) (l0.length : Int)))) + 1)) [.int .i64 (wrap64 ((wrap64 (2 * (Int.tmod (wrap64 ((wrap64 (t340 + (l0.length : Int))) - 1)) (l0.length : Int)))) + 1))] from rfl) (Reps.one (show Kd.M (Kd.int .i64) _ _ _ (wrap64 ((wrap64 (2 * (Int.tmod (wrap64 ((wrap64 (t341 + (l0.length : Int))) - 1)) (l0.length : Int)))) + 1)) [.int .i64 (wrap64 ((wrap64 (2 * (Int.tmod (wrap64 ((wrap64 (t341 + (l0.length : Int))) - 1)) (l0.length : Int)))) + 1))] from rfl) (Reps.none _ _))))))
  intro v343 w22 ho23 hb hg_ hnew_
  clear hg_ hnew_
  (first | rw [← Ny342.out] at ho23 | (simp only [Int.reduceToNat] at ho23; rw [← Ny342.out] at ho23))
  have HO344 := Az.mk (Kd.R_lower (Kd.R_new' ho23 (Kd.R_lt (kR HO_6.out))) (bwZ bw_14)); replace HO_6 := Az.mk (Kd.R_elder' (kR HO_6.out) (Kd.R_base ho23) hb); replace HB := Az.mk (bwT bw_14 hb)
  clear hb ho23
  refine hK.out _ _ trivial (fun hHeld => ?_)
  clear hK K
  refine norm_ (a' := ?_) ?_ ?_
  rotate_left
  ·show Act.put _ (some 48) _ = _
   exact acq
  refine pu (i := 21) (N := some 10) #[T,T,T,T,T,T,T,T,T,T,T,T,T,T,T,T,T,T,T,T,T,T] (any_of HT_.out z14_0) ?_
  refine done_ (done_of HT_.out z14_0) ?_
  try go_wp2
  replace HO_6 := Az.mk (Kd.R_drew HO_6.out); replace HO344 := Az.mk (Kd.R_drew HO344.out); replace HB := Az.mk (bwD HB.out)
  obtain ⟨Ao25, co25, eo25⟩ := Kd.R_slice HO344.out
  (first | subst eo25 | (injection eo25 with f1_ f2_ f3_; have f4_ := f1_.symm; have f5_ := f3_.symm; clear f1_ f2_ f3_; subst f4_; subst f5_))
  have p345 : 0 ≤ (3 : Int) := (by omega)
  have q345 : 3 < (y342.length : Int) := of_decide_eq_true am
  obtain ⟨ad345, e345, hx345_0⟩ := Kd.at_int (Kd.R_reads' HO344.out).2.2 3 p345 q345
  cases e345
  (try simp only [show (3 : Int).toNat = 3 from rfl, Nat.reduceMul, Nat.reduceEqDiff, Go.Addr.add, ↓reduceIte] at hx345_0)
  have qi345 : (3 < y342.length) = True := eq_true (by omega)
  (try rw [show ((3 : Int)).toNat = 3 from rfl] at hx345_0)
  replace p345 := eq_true p345
  replace q345 := eq_true q345
  have p346 : 0 ≤ (2 : Int) := (by omega)
  have q346 : 2 < (y342.length : Int) := of_decide_eq_true am
  obtain ⟨ad346, e346, hx346_0⟩ := Kd.at_int (Kd.R_reads' HO344.out).2.2 2 p346 q346
  obtain rfl : ad345 = ad346 := (by injection e346)
  (try simp only [show (2 : Int).toNat = 2 from rfl, Nat.reduceMul, Nat.reduceEqDiff, Go.Addr.add, ↓reduceIte] at hx346_0)
  have qi346 : (2 < y342.length) = True := eq_true (by omega)
  (try rw [show ((2 : Int)).toNat = 2 from rfl] at hx346_0)
  replace p346 := eq_true p346
  replace q346 := eq_true q346
  have p347 : 0 ≤ (1 : Int) := (by omega)
  have q347 : 1 < (y342.length : Int) := of_decide_eq_true am
  obtain ⟨ad347, e347, hx347_0⟩ := Kd.at_int (Kd.R_reads' HO344.out).2.2 1 p347 q347
  obtain rfl : ad345 = ad347 := (by injection e347)
  (try simp only [show (1 : Int).toNat = 1 from rfl, Nat.reduceMul, Nat.reduceEqDiff, Go.Addr.add, ↓reduceIte] at hx347_0)
  have qi347 : (1 < y342.length) = True := eq_true (by omega)
  (try rw [show ((1 : Int)).toNat = 1 from rfl] at hx347_0)
  replace p347 := eq_true p347
  replace q347 := eq_true q347
  have p348 : 0 ≤ (0 : Int) := (by omega)
  have q348 : 0 < (y342.length : Int) := of_decide_eq_true am
  obtain ⟨ad348, e348, hx348_0⟩ := Kd.at_int (Kd.R_reads' HO344.out).2.2 0 p348 q348
  obtain rfl : ad345 = ad348 := (by injection e348)
  have qi348 : (0 < y342.length) = True := eq_true (by omega)
  (try rw [show ((0 : Int)).toNat = 0 from rfl] at hx348_0)
  (try rw [Addr.add_zero'] at hx348_0)
  replace p348 := eq_true p348
  replace q348 := eq_true q348
  refine start_ (n := 14) (S := fun w' => w'.cell? ⟨ad345.block, ad345.off + 3, none⟩ = some (.int .i64 (rd y342 3)) ∧ w'.cell? ⟨ad345.block, ad345.off + 2, none⟩ = some (.int .i64 (rd y342 2)) ∧ w'.cell? ⟨ad345.block, ad345.off + 1, none⟩ = some (.int .i64 (rd y342 1)) ∧ w'.cell? ad345 = some (.int .i64 (rd y342 0))) (ds := []) #[F,F,F,F,F,F,F,F,F,F,F,F,F,F] z14_0 rfl rfl ⟨hx345_0, hx346_0, hx347_0, hx348_0⟩ (fun hHeld => ?_); refine with_tabW spec_l18Map.tab10 spec_l18Map.bits10 (fun HT_ HW_ => ?_)
  generalize w22.drew = w24 at HO_6 HO344 HB hx345_0 hx346_0 hx347_0 hx348_0 hHeld ⊢
  refine pu (i := 0) (N := some 56) #[T,F,F,F,F,F,F,F,F,F,F,F,F,F] (any_of HT_.out z14_0) ?_
  refine pu (i := 1) (N := some 57) #[T,T,F,F,F,F,F,F,F,F,F,F,F,F] (any_of HT_.out z14_0) ?_
  refine pu (i := 3) (N := some 59) #[T,T,F,T,F,F,F,F,F,F,F,F,F,F] (any_of HT_.out z14_0) ?_
  refine pu (i := 4) (N := some 60) #[T,T,F,T,T,F,F,F,F,F,F,F,F,F] (any_of HT_.out z14_0) ?_
  refine pu (i := 6) (N := some 62) #[T,T,F,T,T,F,T,F,F,F,F,F,F,F] (any_of HT_.out z14_0) ?_
  refine pu (i := 7) (N := some 63) #[T,T,F,T,T,F,T,T,F,F,F,F,F,F] (any_of HT_.out z14_0) ?_
  refine pu (i := 9) (N := some 65) #[T,T,F,T,T,F,T,T,F,T,F,F,F,F] (any_of HT_.out z14_0) ?_
  refine pu (i := 10) (N := some 66) #[T,T,F,T,T,F,T,T,F,T,T,F,F,F] (any_of HT_.out z14_0) ?_
  refine take_ (i := 2) (N := some 58) (v := ?_) (a' := ?_) #[T,T,T,T,T,F,T,T,F,T,T,F,F,F] rfl rfl (take_ofW HT_.out HW_.out z14_0) (fun _ _ _ h => h) (Or.inl ⟨by rfl, ?_⟩) hHeld ?_ ?_
  rotate_left
  ·rintro w' ⟨s0, s1, s2, s3⟩
   go_simp
   with_reducible rfl
  rotate_left
  ·exact acq
  refine take_ (i := 5) (N := some 61) (v := ?_) (a' := ?_) #[T,T,T,T,T,T,T,T,F,T,T,F,F,F] rfl rfl (take_ofW HT_.out HW_.out z14_0) (fun _ _ _ h => h) (Or.inl ⟨by rfl, ?_⟩) hHeld ?_ ?_
  rotate_left
  ·rintro w' ⟨s0, s1, s2, s3⟩
   go_simp
   with_reducible rfl
  rotate_left
  ·exact acq
  refine take_ (i := 8) (N := some 64) (v := ?_) (a' := ?_) #[T,T,T,T,T,T,T,T,T,T,T,F,F,F] rfl rfl (take_ofW HT_.out HW_.out z14_0) (fun _ _ _ h => h) (Or.inl ⟨by rfl, ?_⟩) hHeld ?_ ?_
  rotate_left
  ·rintro w' ⟨s0, s1, s2, s3⟩
   go_simp
   with_reducible rfl
  rotate_left
  ·exact acq
  refine take_ (i := 11) (N := some 67) (v := ?_) (a' := ?_) #[T,T,T,T,T,T,T,T,T,T,T,T,F,F] rfl rfl (take_ofW HT_.out HW_.out z14_0) (fun _ _ _ h => h) (Or.inl ⟨by rfl, ?_⟩) hHeld ?_ ?_
  rotate_left
  ·rintro w' ⟨s0, s1, s2, s3⟩
   go_simp
   with_reducible rfl
  rotate_left
  ·exact acq
  refine one_ (i := 12) (N := some 68) #[T,T,T,T,T,T,T,T,T,T,T,T,T,F] rfl rfl (one_of HT_.out z14_0) (by decide) (fun K hK => ?_)
  refine Kd.R_lit_step (Kd.int .i64) _ 3 ?hg (N := 68) ?hd (xs := ([rd y342 3, rd y342 2, rd y342 1, rd y342 0] : List Int)) (inner := [.int .i64 (rd y342 3), .int .i64 (rd y342 2), .int .i64 (rd y342 1), .int .i64 (rd y342 0)]) (ok := fun _ => True) (okp := fun _ => True) ?hr ?hp (fun _ hk => hk) trivial (Below.refl _ _) (Nat.le_refl _) (by simp) ?_; (case hd => rfl); (case hg => rfl); (case hr => first | (go_simp; done) | (go_simp; rfl)); (case hp => exact (Reps.one (show Kd.M (Kd.int .i64) _ _ _ (rd y342 3) [.int .i64 (rd y342 3)] from rfl) (Reps.one (show Kd.M (Kd.int .i64) _ _ _ (rd y342 2) [.int .i64 (rd y342 2)] from rfl) (Reps.one (show Kd.M (Kd.int .i64) _ _ _ (rd y342 1) [.int .i64 (rd y342 1)] from rfl) (Reps.one (show Kd.M (Kd.int .i64) _ _ _ (rd y342 0) [.int .i64 (rd y342 0)] from rfl) (Reps.none _ _))))))
  intro v350 w26 ho27 hb hg_ hnew_
  have HS0_ := (hb.cell (World.block_lt_of_cell? _ _ (hHeld.1))).trans (hHeld.1)
  have HS1_ := (hb.cell (World.block_lt_of_cell? _ _ (hHeld.2.1))).trans (hHeld.2.1)
  have HS2_ := (hb.cell (World.block_lt_of_cell? _ _ (hHeld.2.2.1))).trans (hHeld.2.2.1)
  have HS3_ := (hb.cell (World.block_lt_of_cell? _ _ (hHeld.2.2.2))).trans (hHeld.2.2.2)
  clear hg_ hnew_
  (first | rw [← Ny349.out] at ho27 | (simp only [Int.reduceToNat] at ho27; rw [← Ny349.out] at ho27))
  have HO351 := Az.mk (Kd.R_lower (Kd.R_new' (Kd.R_new' ho27 (Kd.R_lt (kR HO_6.out))) (Kd.R_lt (kR HO344.out))) (bwZ bw_14)); replace HO_6 := Az.mk (Kd.R_elder' (kR HO_6.out) (Kd.R_base ho27) hb); replace HO344 := Az.mk (Kd.R_elder' (kR HO344.out) (Kd.R_base ho27) hb); replace HB := Az.mk (bwT bw_14 hb)
  clear hb ho27
  refine hK.out _ _ ⟨HS0_, HS1_, HS2_, HS3_⟩ (fun hHeld => ?_)
  clear hK K
  refine norm_ (a' := ?_) ?_ ?_
  rotate_left
  ·show Act.put _ (some 68) _ = _
   exact acq
  refine pu (i := 13) (N := some 10) #[T,T,T,T,T,T,T,T,T,T,T,T,T,T] (any_of HT_.out z14_0) ?_
  refine done_ (done_of HT_.out z14_0) ?_
  obtain ⟨Ao28, co28, eo28⟩ := Kd.R_slice HO_6.out
  subst eo28
  obtain ⟨Ao29, co29, eo29⟩ := Kd.R_slice HO351.out
  subst eo29
  try go_wp2_with (first | ((with_reducible refine gtC (f := 64) rfl ?_); refine clz Try.func64 (some 71) #[.slice Ao28 x6_1.length co28, .slice Ao29 y349.length co29] ?_; (with_reducible refine (spec_l7Ring.calls k1 (fun k_ => some k_ = (.slice Ao28 x6_1.length co28 : Value).ownBlock) (.slice Ao28 x6_1.length co28) x6_1 _ _ y349 t352 w _ ?side1 ?side2 ?side3 ?side4 A20.out).mono ?_); (case side1 => exact bw_14); (case side2 => exact Kd.R_tight rfl HO_6.out); (case side3 => exact Kd.C_kept_own (HO351.out) (fun k_ hk_ hs_ => (hk_.1.2) hs_)); (case side4 => exact (Kd.R_reads' HO351.out).2.1); rintro e w30 ⟨rfl, hy0, hb, hkp⟩; refine ⟨_, rfl, ?_⟩; replace HO_6 := Az.mk (Kd.R_reok rfl hy0 (fun k_ e_ => HO_6.out.1 k_ e_)); replace HO344 := Az.mk (Kd.R_mono (ok' := fun k_ => some k_ ≠ (.slice Ao28 x6_1.length co28 : Value).ownBlock ∧ some k_ ≠ (.slice Ao29 y349.length co29 : Value).ownBlock) (Kd.R_keptB (HO344.out) hkp (fun k_ hk_ hs_ => (hk_.1.2) hs_)) (fun k_ hk_ => ⟨hk_.1.1.2, hk_.1.2⟩)); replace HO351 := Az.mk (Kd.R_mono (ok' := fun k_ => some k_ ≠ (.slice Ao28 x6_1.length co28 : Value).ownBlock ∧ some k_ ≠ (.slice (some ad345) y342.length co25 : Value).ownBlock) (Kd.R_keptB (HO351.out) hkp (fun k_ hk_ hs_ => (hk_.1.2) hs_)) (fun k_ hk_ => ⟨hk_.1.1.2, hk_.1.2⟩)); replace HB := Az.mk (hb); (try clear hb); (try clear hkp); (try clear hy0)))
  go_roundg k1
  case measure => have := HK1.out; omega
  case rel => exact ⟨(t352), (wrap64 (x7_1 + 1)), rq2, H', ⟨by have := HK1.out; omega⟩, ⟨by (with_reducible repeat (first | apply Kd.R_alloc | apply Kd.R_drewN | apply Kd.R_drew)); exact Kd.R_mono HO_6.out (fun _ hk => trivial)⟩, ⟨bw_14⟩⟩

end Go.Proofs.Ytkmjcdlhlhefdaa.P
