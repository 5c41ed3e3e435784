-- By this session's driver (wip/tools/mk.py) of the kit's print program, over several statements at once. Not trusted: Lean checks it.
import Derived.Test.YtolmicnapemljaaQPx0
import Derived.Test.YtolmicnapemljaaQPx10
import Derived.Test.YtolmicnapemljaaQPx33
namespace Go.Proofs.Ytolmicnapemljaa.P
open Go.RowKit Go.Proofs.YtolmicnapemljaaW.PrintWords Go.Proofs.YtolmicnapemljaaW.PrintLast Go.Proofs.YtolmicnapemljaaW.PrintMore
attribute [local go_sem] max2_int min2_int max_two min_two max_three min_three max_four min_four   -- for this text's walks alone
set_option linter.unusedVariables false
set_option linter.unusedSimpArgs false

/-! ### impl_CountCurves: function 29 -/
def joiner_count.l0 : Nat → List Int → Int → Int → Option Int
 | 0, _, _, _ => none
 | k + 1, xs, n, i => if i < (xs.length : Int) then (if 0 ≤ i then (if i = rd xs i then joiner_count.l0 k xs (wrap64 (n + 1)) (wrap64 (i + 1)) else joiner_count.l0 k xs n (wrap64 (i + 1))) else none) else some n
theorem joiner_count.mono : ∀ k y0 y1 y2, LeO (joiner_count.l0 k y0 y1 y2) (joiner_count.l0 (k + 1) y0 y1 y2)
 | 0, y0, y1, y2 => fun r h => by simp [joiner_count.l0] at h
 | k + 1, y0, y1, y2 => by
  have ih0 := joiner_count.mono k
  unfold joiner_count.l0
  repeat' first
   | (with_reducible exact ih0 _ _ _)
   | (with_reducible exact LeO.refl _)
   | (with_reducible exact LeO.none _)
   | (with_reducible refine LeO.ite ?_ ?_)
set_option maxHeartbeats 8000000 in
set_option maxRecDepth 100000 in
theorem joiner_count.calls (k : Nat) (p : Addr) (A : Option Addr) (c : Nat) (xs : List Int) (r : Int) (w : World) (hp : w.cell? p = some (.slice A xs.length c)) (hr : Kd.C (Kd.int .i64) w A xs.length xs) (h : joiner_count.l0 k xs 0 0 = some r) :
  Calls Try.prog 95 #[.pointer (some p)] w fun e w' => e = .returned (.int .i64 r) ∧ Drawn0 w w' := by
 have HR := Az.mk hr
 have H' := Az.mk h
 clear hr h
 go_enter Try.func95, Try.ntmps95
 go_wp2
 go_loopg [3, 11] k (fun kq v3 v11 w' => ∃ n_1 i_1 : Int, v3 = .int .i64 n_1 ∧ v11 = .int .i64 i_1 ∧ Az (joiner_count.l0 kq xs n_1 i_1 = some r) ∧ Az (kq ≤ k) ∧ Drawn0 w w')
 case atStart => exact ⟨0, 0, rfl, rfl, H', ⟨Nat.le_refl _⟩, by repeat (first | exact Drawn0.refl _ | apply Drawn0.step)⟩
 case round =>
  clear H'
  obtain ⟨n_1, i_1, rfl, rfl, HA, HK1, ⟨m1, rfl⟩⟩ := hrel
  cases gk with
  | zero => exact absurd HA.out (by simp [joiner_count.l0])
  | succ k1 =>
   have H := HA.out
   clear HA
   simp only [joiner_count.l0] at H
   by_cases b2 : i_1 < (xs.length : Int)
   ·rw [if_pos b2] at H
    by_cases b1 : 0 ≤ i_1
    ·rw [if_pos b1] at H
     obtain ⟨ad, rfl, hx⟩ := Kd.at_int HR.out i_1 b1 b2
     have b2b := decide_eq_true b2
     replace b1 := eq_true b1
     replace b2 := eq_true b2
     obtain ⟨X, hX⟩ : ∃ j_ : Int, rd xs i_1 = j_ := ⟨_, rfl⟩
     rw [hX] at H hx
     clear hX
     by_cases b3 : i_1 = X
     ·rw [if_pos b3] at H
      have b3b : (i_1 == X) = true := beq_iff_eq.mpr b3
      clear b3
      have H' := Az.mk H
      clear H
      go_wp2
      go_roundg k1
      case measure => have := HK1.out; omega
      case rel => exact ⟨_, _, rfl, rfl, H', ⟨by have := HK1.out; omega⟩, by repeat (first | exact Drawn0.refl _ | apply Drawn0.step)⟩
     ·rw [if_neg b3] at H
      have b3b : (i_1 == X) = false := beq_eq_false_iff_ne.mpr b3
      clear b3
      have H' := Az.mk H
      clear H
      go_wp2
      go_roundg k1
      case measure => have := HK1.out; omega
      case rel => exact ⟨_, _, rfl, rfl, H', ⟨by have := HK1.out; omega⟩, by repeat (first | exact Drawn0.refl _ | apply Drawn0.step)⟩
    ·rw [if_neg b1] at H
     exact absurd H (by simp)
   ·rw [if_neg b2] at H
    have b2b : decide (i_1 < (xs.length : Int)) = false := decide_eq_false b2
    clear b2
    obtain rfl := Option.some.inj H
    go_wp2
    go_ret
    exact ⟨rfl, by repeat (first | exact Drawn0.refl _ | apply Drawn0.step)⟩
def impl_CountCurves.f (k : Nat) (t : List (List Int)) (x : List Int) : Option Int := (impl_IsFair.f k t x).bind fun b => (if b = true then ((impl_curves.f k t x).bind fun up => (joiner_count.l0 k up 0 0)) else (some (-1)))
theorem impl_CountCurves.mono : ∀ a0 a1 k, LeO (impl_CountCurves.f k a0 a1) (impl_CountCurves.f (k + 1) a0 a1) := by
 intro a0 a1 k
 unfold impl_CountCurves.f
 refine LeO.bind (impl_IsFair.mono _ _ _) (fun _ => LeO.ite (LeO.bind (impl_curves.mono _ _ _) (fun _ => joiner_count.mono _ _ _ _)) (LeO.refl _))
set_option maxHeartbeats 8000000 in
set_option maxRecDepth 100000 in
theorem impl_CountCurves.calls (k : Nat) (A0 : Option Addr) (c0 : Nat) (l0 : List (List Int)) (A1 : Option Addr) (c1 : Nat) (l1 : List Int) (r : Int) (w : World) (hr0 : Kd.C (Kd.slice 3 (Kd.int .i64)) w A0 l0.length l0) (hc0 : l0.length ≤ c0) (hr1 : Kd.C (Kd.int .i64) w A1 l1.length l1) (hc1 : l1.length ≤ c1) (h : impl_CountCurves.f k l0 l1 = some r) :
  Calls Try.prog 29 #[.slice A0 l0.length c0, .slice A1 l1.length c1] w fun e w' => e = .returned (.int .i64 r) ∧ Below w.heap.size w w' := by
 have HR0 := Az.mk hr0
 have HC0 := Az.mk hc0
 have HR1 := Az.mk hr1
 have HC1 := Az.mk hc1
 clear hr0 hc0 hr1 hc1
 have HB := Az.mk (Below.refl w.heap.size w)
 unfold impl_CountCurves.f at h
 replace h := Option.bind_eq_some_iff.mp h
 obtain ⟨b, T0, h⟩ := h
 have T0 := Az.mk T0
 by_cases p1 : b = true
 ·rw [if_pos p1] at h
  subst p1
  replace h := Option.bind_eq_some_iff.mp h
  obtain ⟨up, T1, h⟩ := h
  have T1 := Az.mk T1
  have T2 := Az.mk h
  clear h
  go_enter Try.func29, Try.ntmps29
  go_wp2_with (first
   | (go_at_call 69; refine (impl_IsFair.calls k A0 c0 l0 A1 c1 l1 true _ (by first | exact Kd.C_drewN HR0.out _ | exact HR0.out) HC0.out (by first | exact Kd.C_drewN HR1.out _ | exact HR1.out) HC1.out T0.out).mono ?_; rintro e W0 ⟨rfl, hb⟩; have HB0 := Az.mk (bwT (by first | exact HB.out | exact pbN HB.out _) hb); clear hb T0)
   | (go_at_call 98; refine (impl_curves.calls k A0 c0 l0 A1 c1 l1 up _ (by first | exact Kd.C_drewN (Kd.C_below HR0.out HB0.out) _ | exact Kd.C_below HR0.out HB0.out) HC0.out (by first | exact Kd.C_drewN (Kd.C_below HR1.out HB0.out) _ | exact Kd.C_below HR1.out HB0.out) HC1.out T1.out).mono ?_; rintro e W1 ⟨p, AJ, cJ, rfl, hj, hb⟩; have HJ1 := Az.mk hj; have HB1 := Az.mk (bwT (by first | exact HB0.out | exact pbN HB0.out _) hb); clear hj hb T1)
   | (go_at_call 95; refine (joiner_count.calls k ⟨p, 0, none⟩ AJ cJ up r _ (by first | exact (HJ1.out.drewN _).cell | exact HJ1.out.cell) (by first | exact (HJ1.out.drewN _).C | exact HJ1.out.C) T2.out).mono ?_; rintro e w' ⟨rfl, ⟨nd1, rfl⟩⟩; clear T2))
  go_ret
  exact ⟨rfl, by first | exact HB1.out | exact pbN HB1.out _ | exact pbN (pbN HB1.out _) _⟩
 ·rw [if_neg p1] at h
  replace p1 := Bool.eq_false_iff.mpr p1
  subst p1
  obtain rfl := Option.some.inj h
  go_enter Try.func29, Try.ntmps29
  go_wp2_with (first
   | (go_at_call 69; refine (impl_IsFair.calls k A0 c0 l0 A1 c1 l1 false _ (by first | exact Kd.C_drewN HR0.out _ | exact HR0.out) HC0.out (by first | exact Kd.C_drewN HR1.out _ | exact HR1.out) HC1.out T0.out).mono ?_; rintro e W0 ⟨rfl, hb⟩; have HB0 := Az.mk (bwT (by first | exact HB.out | exact pbN HB.out _) hb); clear hb T0))
  go_ret
  exact ⟨rfl, by first | exact HB0.out | exact pbN HB0.out _⟩

end Go.Proofs.Ytolmicnapemljaa.P
