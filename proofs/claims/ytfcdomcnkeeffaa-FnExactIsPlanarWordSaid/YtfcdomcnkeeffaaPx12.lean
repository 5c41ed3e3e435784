-- By this session's driver (wip/tools/mk.py) of the kit's print program, over several statements at once. Not trusted: Lean checks it.
import Derived.Test.YtfcdomcnkeeffaaPx0
import Derived.Test.YtfcdomcnkeeffaaPx7
import Derived.Test.YtfcdomcnkeeffaaPx8
namespace Go.Proofs.Ytfcdomcnkeeffaa.P
open Go.RowKit Go.Proofs.YtfcdomcnkeeffaaW.PrintWords Go.Proofs.YtfcdomcnkeeffaaW.PrintLast Go.Proofs.YtfcdomcnkeeffaaW.PrintMore
attribute [local go_sem] max2_int min2_int max_two min_two max_three min_three max_four min_four   -- for this text's walks alone
set_option linter.unusedVariables false
set_option linter.unusedSimpArgs false

theorem cellq_ {w w' : World} {n : Nat} {a : Addr} {v : Option Value} (h : World.drewN w n = w') (hc : w.cell? a = v) : w'.cell? a = v := by
  subst h
  first | exact hc | simpa using hc
theorem frozq_ {w w' : World} {n : Nat} {a : Addr} {v : Bool} (h : World.drewN w n = w') (hc : w.frozen? a = v) : w'.frozen? a = v := by
  subst h
  first | exact hc | simpa using hc
/-! ### impl_mod: function 76 -/
def impl_mod.f (a0 : Int) (a1 : Int) : Option (Int) := if a1 = 0 then (none) else (if (Int.tmod a0 a1) < 0 then (some (wrap64 ((Int.tmod a0 a1) + a1))) else (some (Int.tmod a0 a1)))
set_option maxHeartbeats 8000000 in
set_option maxRecDepth 100000 in
theorem impl_mod.calls (a0 : Int) (a1 : Int) (r : Int) (w : World) (h : impl_mod.f a0 a1 = some r) :
    Calls Try.prog 76 #[.int .i64 a0, .int .i64 a1] w fun e w' => e = .returned (.int .i64 r) ∧ Drawn0 w w' := by
  have H : (if a1 = 0 then (none) else (if (Int.tmod a0 a1) < 0 then (some (wrap64 ((Int.tmod a0 a1) + a1))) else (some (Int.tmod a0 a1)))) = some r := h
  clear h
  by_cases c3 : a1 = 0
  · rw [if_pos c3] at H
    exact absurd H (by simp)
  · rw [if_neg c3] at H
    have c3b0 : (a1 == 0) = false := beq_eq_false_iff_ne.mpr c3
    have c3b1 : (a1 != 0) = true := bne_iff_ne.mpr c3
    by_cases c4 : (Int.tmod a0 a1) < 0
    · rw [if_pos c4] at H
      have c4b0 : decide ((Int.tmod a0 a1) < 0) = true := decide_eq_true c4
      clear c4
      obtain rfl := Option.some.inj H
      go_enter Try.func76, Try.ntmps76
      go_wp2
      go_ret
      exact ⟨by first | rfl | (simp; done) | (simp [*]; done), by repeat (first | exact Drawn0.refl _ | apply Drawn0.step)⟩
    · rw [if_neg c4] at H
      have c4b0 : decide ((Int.tmod a0 a1) < 0) = false := decide_eq_false c4
      clear c4
      obtain rfl := Option.some.inj H
      go_enter Try.func76, Try.ntmps76
      go_wp2
      go_ret
      exact ⟨by first | rfl | (simp; done) | (simp [*]; done), by repeat (first | exact Drawn0.refl _ | apply Drawn0.step)⟩

/-! ### impl_crossingMap: function 57 -/
mutual
def impl_crossingMap.l0 : Nat → List Int → Int → Int → List Int → List Int → Int → Int → Option (List Int)
  | 0, _, _, _, _, _, _, _ => none
  | k + 1, x0, x1, x5, x6, x21, x22, x23 => if x23 < x22 then (if 0 ≤ x23 then (if x23 < (x21.length : Int) then ((impl_placesOf.f k x0 (rd x21 x23)).bind fun bt431 => ((impl_mod.f (wrap64 (bt431.1 - 1)) x5).bind fun t433 => ((impl_mod.f (wrap64 (bt431.2 - 1)) x5).bind fun t434 => (impl_crossingMap.l1 k x0 x1 x5 x6 (rd x21 x23) (([wrap64 (2 * bt431.1), wrap64 (2 * bt431.2), wrap64 ((wrap64 (2 * t433)) + 1), wrap64 ((wrap64 (2 * t434)) + 1)] : List Int)) x21 x22 x23 0)))) else (none)) else (none)) else (some x6)
def impl_crossingMap.l1 : Nat → List Int → Int → Int → List Int → Int → List Int → List Int → Int → Int → Int → Option (List Int)
  | 0, _, _, _, _, _, _, _, _, _, _ => none
  | k + 1, x0, x1, x5, x6, x8, x11, x21, x22, x23, x50 => if x50 < 4 then (if 0 ≤ x50 then (if x50 < (x11.length : Int) then (if 0 ≤ (Int.tmod (wrap64 (x50 + 1)) 4) then (if (Int.tmod (wrap64 (x50 + 1)) 4) < (x11.length : Int) then (if 0 ≤ (wrap64 (x8 - 1)) then (if (Go.bits .and .i64 (shr .i64 x1 (wrap64 (x8 - 1))) 1) = 1 then (if 0 ≤ (rd x11 (Int.tmod (wrap64 (x50 + 1)) 4)) then (if (rd x11 (Int.tmod (wrap64 (x50 + 1)) 4)) < (x6.length : Int) then (impl_crossingMap.l1 k x0 x1 x5 (x6.set ((rd x11 (Int.tmod (wrap64 (x50 + 1)) 4)) : Int).toNat (rd x11 x50)) x8 x11 x21 x22 x23 (wrap64 (x50 + 1))) else (none)) else (none)) else (if 0 ≤ (rd x11 x50) then (if (rd x11 x50) < (x6.length : Int) then (impl_crossingMap.l1 k x0 x1 x5 (x6.set ((rd x11 x50) : Int).toNat (rd x11 (Int.tmod (wrap64 (x50 + 1)) 4))) x8 x11 x21 x22 x23 (wrap64 (x50 + 1))) else (none)) else (none))) else (none)) else (none)) else (none)) else (none)) else (none)) else (impl_crossingMap.l0 k x0 x1 x5 x6 x21 x22 (wrap64 (x23 + 1)))
end
def impl_crossingMap.f (k : Nat) (l0 : List Int) (a1 : Int) : Option (List Int) := if 0 ≤ (wrap64 (2 * (l0.length : Int))) then (if (wrap64 (2 * (l0.length : Int)) : Int).toNat ≤ 35184372088832 then ((impl_lettersOf.f k l0).bind fun t427 => (impl_crossingMap.l0 k l0 a1 (l0.length : Int) (List.replicate (wrap64 (2 * (l0.length : Int)) : Int).toNat 0) t427 (t427.length : Int) 0)) else (none)) else (none)
theorem impl_crossingMap.mono_l : ∀ k, (∀ y0 y1 y2 y3 y4 y5 y6, LeO (impl_crossingMap.l0 k y0 y1 y2 y3 y4 y5 y6) (impl_crossingMap.l0 (k + 1) y0 y1 y2 y3 y4 y5 y6)) ∧ (∀ y0 y1 y2 y3 y4 y5 y6 y7 y8 y9, LeO (impl_crossingMap.l1 k y0 y1 y2 y3 y4 y5 y6 y7 y8 y9) (impl_crossingMap.l1 (k + 1) y0 y1 y2 y3 y4 y5 y6 y7 y8 y9))
  | 0 => ⟨fun _ _ _ _ _ _ _ r h => by simp [impl_crossingMap.l0] at h, fun _ _ _ _ _ _ _ _ _ _ r h => by simp [impl_crossingMap.l1] at h⟩
  | k + 1 => by
    obtain ⟨ih0, ih1⟩ := impl_crossingMap.mono_l k
    refine ⟨?_, ?_⟩
    · intro y0 y1 y2 y3 y4 y5 y6
      unfold impl_crossingMap.l0
      repeat' first
      | (with_reducible exact ih0 _ _ _ _ _ _ _)
      | (with_reducible exact ih1 _ _ _ _ _ _ _ _ _ _)
      | (with_reducible exact impl_lettersOf.mono _ _)
      | (with_reducible exact impl_placesOf.mono _ _ _)
      | (with_reducible exact LeO.refl _)
      | (with_reducible exact LeO.none _)
      | (with_reducible refine LeO.ite ?_ ?_)
      | (with_reducible refine LeO.bind ?_ (fun _ => ?_))
      | exact ih0 _ _ _ _ _ _ _
      | exact ih1 _ _ _ _ _ _ _ _ _ _
      | exact impl_lettersOf.mono _ _
      | exact impl_placesOf.mono _ _ _
      | exact LeO.none _
      | refine LeO.ite ?_ ?_
      | refine LeO.bind ?_ (fun _ => ?_)
    · intro y0 y1 y2 y3 y4 y5 y6 y7 y8 y9
      unfold impl_crossingMap.l1
      repeat' first
      | (with_reducible exact ih0 _ _ _ _ _ _ _)
      | (with_reducible exact ih1 _ _ _ _ _ _ _ _ _ _)
      | (with_reducible exact impl_lettersOf.mono _ _)
      | (with_reducible exact impl_placesOf.mono _ _ _)
      | (with_reducible exact LeO.refl _)
      | (with_reducible exact LeO.none _)
      | (with_reducible refine LeO.ite ?_ ?_)
      | (with_reducible refine LeO.bind ?_ (fun _ => ?_))
      | exact ih0 _ _ _ _ _ _ _
      | exact ih1 _ _ _ _ _ _ _ _ _ _
      | exact impl_lettersOf.mono _ _
      | exact impl_placesOf.mono _ _ _
      | exact LeO.none _
      | refine LeO.ite ?_ ?_
      | refine LeO.bind ?_ (fun _ => ?_)
theorem impl_crossingMap.mono : ∀ a0 a1 k, LeO (impl_crossingMap.f k a0 a1) (impl_crossingMap.f (k + 1) a0 a1) := by
  intro a0 a1 k
  obtain ⟨ih0, ih1⟩ := impl_crossingMap.mono_l k
  unfold impl_crossingMap.f
  repeat' first
      | (with_reducible exact ih0 _ _ _ _ _ _ _)
      | (with_reducible exact ih1 _ _ _ _ _ _ _ _ _ _)
      | (with_reducible exact impl_lettersOf.mono _ _)
      | (with_reducible exact impl_placesOf.mono _ _ _)
      | (with_reducible exact LeO.refl _)
      | (with_reducible exact LeO.none _)
      | (with_reducible refine LeO.ite ?_ ?_)
      | (with_reducible refine LeO.bind ?_ (fun _ => ?_))
      | exact ih0 _ _ _ _ _ _ _
      | exact ih1 _ _ _ _ _ _ _ _ _ _
      | exact impl_lettersOf.mono _ _
      | exact impl_placesOf.mono _ _ _
      | exact LeO.none _
      | refine LeO.ite ?_ ?_
      | refine LeO.bind ?_ (fun _ => ?_)
set_option maxHeartbeats 8000000 in
set_option maxRecDepth 100000 in
theorem impl_crossingMap.calls (k : Nat) (A0 : Option Addr) (c0 : Nat) (l0 : List Int) (a1 : Int) (r : List Int) (w : World) (hr0 : Kd.C (Kd.int .i64) w A0 l0.length l0) (hc0 : l0.length ≤ c0) (h : impl_crossingMap.f k l0 a1 = some r) :
    Calls Try.prog 57 #[.slice A0 l0.length c0, .int .i64 a1] w fun e w' => ∃ v0_ : Value, e = .returned (v0_) ∧ Kd.R (Kd.int .i64) 3 w' w.heap.size (fun _ => True) v0_ r ∧ Below w.heap.size w w' := by
  have HR0 := Aside0.mk hr0
  have HC0 := Aside0.mk hc0
  clear hr0 hc0
  have HB := Aside0.mk (Below.refl w.heap.size w)
  have H : (if 0 ≤ (wrap64 (2 * (l0.length : Int))) then (if (wrap64 (2 * (l0.length : Int)) : Int).toNat ≤ 35184372088832 then ((impl_lettersOf.f k l0).bind fun t427 => (impl_crossingMap.l0 k l0 a1 (l0.length : Int) (List.replicate (wrap64 (2 * (l0.length : Int)) : Int).toNat 0) t427 (t427.length : Int) 0)) else (none)) else (none)) = some r := h
  clear h
  obtain ⟨ji3, hji3⟩ : ∃ j_ : Int, (wrap64 (2 * (l0.length : Int))) = j_ := ⟨_, rfl⟩
  replace H : (if 0 ≤ (ji3) then (if (ji3 : Int).toNat ≤ 35184372088832 then ((impl_lettersOf.f k l0).bind fun t427 => (impl_crossingMap.l0 k l0 a1 (l0.length : Int) (List.replicate (ji3 : Int).toNat 0) t427 (t427.length : Int) 0)) else (none)) else (none)) = some r := by first | (rw [hji3] at H; exact H) | (simp only [hji3] at H ⊢; exact H)
  have hji3w : (IntKind.i64.wrap (2 * (l0.length : Int))) = ji3 := (i64_w _).trans hji3
  by_cases c4 : 0 ≤ (ji3)
  · rw [if_pos c4] at H
    have c4b0 := eq_true c4
    have c4b1 : decide (0 ≤ (ji3)) = true := decide_eq_true c4
    clear c4
    by_cases c5 : (ji3 : Int).toNat ≤ 35184372088832
    · rw [if_pos c5] at H
      have c5b0 := eq_true c5
      have c5b1 : decide ((ji3 : Int).toNat ≤ 35184372088832) = true := decide_eq_true c5
      clear c5
      obtain ⟨y424, hy424⟩ : ∃ y_ : List Int, y_ = (List.replicate (ji3 : Int).toNat 0) := ⟨_, rfl⟩
      replace H : ((impl_lettersOf.f k l0).bind fun t427 => (impl_crossingMap.l0 k l0 a1 (l0.length : Int) y424 t427 (t427.length : Int) 0)) = some r := by first | (rw [hy424]; with_reducible exact H) | (have H2_ := (Option.bind_some _ _).symm.trans H; rw [hy424]; with_reducible exact H2_) | (have H2_ := (Option.bind_some _ _).symm.trans H; with_reducible exact H2_) | with_reducible exact H | (rw [hy424]; exact H) | exact H
      have Ny424 := Aside0.mk hy424
      clear hy424
      replace H := Option.bind_eq_some_iff.mp H
      obtain ⟨t427, A60, H⟩ := H
      replace H : (impl_crossingMap.l0 k l0 a1 (l0.length : Int) y424 t427 (t427.length : Int) 0) = some r := H
      have A6 := Aside0.mk A60
      clear A60
      have H' := Aside0.mk H
      clear H
      go_enter Try.func57, Try.ntmps57
      go_wp2_with (first | ((with_reducible refine gate_dst (N := 19) rfl ?_); refine Kd.R_make (Kd.int .i64) _ 3 rfl (N := 19) rfl 22 _ _ rfl ji3 rfl rfl Try.underlying22 (.int .i64 0) 8 info3 rfl (by decide) (by omega) 0 (ok := fun _ => True) (okp := fun _ => True) rfl (fun _ hk => hk) trivial (of_decide_eq_true (by first | (with_reducible assumption) | assumption)) (Nat.le_trans (Nat.mul_le_mul_right _ (of_decide_eq_true (by first | (with_reducible assumption) | assumption) : ji3.toNat ≤ 35184372088832)) (by omega)) (Below.refl _ _) (Nat.le_refl _) ?_; intro v425 w7 ho8 hb hg_ hnew_; clear hg_ hnew_; (first | rw [← Ny424.out] at ho8 | (simp only [Int.reduceToNat] at ho8; rw [← Ny424.out] at ho8)); have n0_ := Aside0.mk (Kd.R_lower ho8 (below_size (by repeat (first | (with_reducible first | exact HB.out | apply below_alloc | apply pw_below_drewN | apply below_drew1) | exact HB.out)))); have n1_ := Aside0.mk (below_step (by repeat (first | (with_reducible first | exact HB.out | apply below_alloc | apply pw_below_drewN | apply below_drew1) | exact HB.out)) hb); clear HB; have HO426 := n0_; have HB := n1_; clear n0_ n1_; clear hb ho8) | (go_at_call 55; (with_reducible refine (impl_lettersOf.calls k _ _ l0 t427 _ ?side1 ?side2 A6.out).mono ?_); (case side1 => repeat (first | exact (Kd.C_below HR0.out HB.out) | (with_reducible refine Kd.C_alloc ?_ _) | (with_reducible refine Kd.C_drewN ?_ _) | (with_reducible refine Kd.C_drew ?_))); (case side2 => exact HC0.out); rintro e w9 ⟨v428, rfl, ho0, hb⟩; have n0_ := Aside0.mk (Kd.R_elder' (by (with_reducible repeat (first | apply Kd.R_alloc | apply Kd.R_drewN | apply Kd.R_drew)); exact HO426.out) (Kd.R_base ho0) hb); have n1_ := Aside0.mk (Kd.R_lower (Kd.R_new' ho0 (Kd.R_lt (by (with_reducible repeat (first | apply Kd.R_alloc | apply Kd.R_drewN | apply Kd.R_drew)); exact HO426.out))) (below_size (by repeat (first | (with_reducible first | exact HB.out | apply below_alloc | apply pw_below_drewN | apply below_drew1) | exact HB.out)))); have n2_ := Aside0.mk (below_step (by repeat (first | (with_reducible first | exact HB.out | apply below_alloc | apply pw_below_drewN | apply below_drew1) | exact HB.out)) hb); clear HO426; clear HB; have HO426 := n0_; have HO429 := n1_; have HB := n2_; clear n0_ n1_ n2_; (try clear hb); (try clear hb2); (try clear hk); (try clear hi); (try clear ho0); obtain ⟨Ao10, co10, eo10⟩ := Kd.R_slice HO429.out; subst eo10))
      repeat (go_quiet (first | ((with_reducible refine gate_dst (N := 19) rfl ?_); refine Kd.R_make (Kd.int .i64) _ 3 rfl (N := 19) rfl 22 _ _ rfl ji3 rfl rfl Try.underlying22 (.int .i64 0) 8 info3 rfl (by decide) (by omega) 0 (ok := fun _ => True) (okp := fun _ => True) rfl (fun _ hk => hk) trivial (of_decide_eq_true (by first | (with_reducible assumption) | assumption)) (Nat.le_trans (Nat.mul_le_mul_right _ (of_decide_eq_true (by first | (with_reducible assumption) | assumption) : ji3.toNat ≤ 35184372088832)) (by omega)) (Below.refl _ _) (Nat.le_refl _) ?_; intro v425 w7 ho8 hb hg_ hnew_; clear hg_ hnew_; (first | rw [← Ny424.out] at ho8 | (simp only [Int.reduceToNat] at ho8; rw [← Ny424.out] at ho8)); have n0_ := Aside0.mk (Kd.R_lower ho8 (below_size (by repeat (first | (with_reducible first | exact HB.out | apply below_alloc | apply pw_below_drewN | apply below_drew1) | exact HB.out)))); have n1_ := Aside0.mk (below_step (by repeat (first | (with_reducible first | exact HB.out | apply below_alloc | apply pw_below_drewN | apply below_drew1) | exact HB.out)) hb); clear HB; have HO426 := n0_; have HB := n1_; clear n0_ n1_; clear hb ho8) | (go_at_call 55; (with_reducible refine (impl_lettersOf.calls k _ _ l0 t427 _ ?side1 ?side2 A6.out).mono ?_); (case side1 => repeat (first | exact (Kd.C_below HR0.out HB.out) | (with_reducible refine Kd.C_alloc ?_ _) | (with_reducible refine Kd.C_drewN ?_ _) | (with_reducible refine Kd.C_drew ?_))); (case side2 => exact HC0.out); rintro e w9 ⟨v428, rfl, ho0, hb⟩; have n0_ := Aside0.mk (Kd.R_elder' (by (with_reducible repeat (first | apply Kd.R_alloc | apply Kd.R_drewN | apply Kd.R_drew)); exact HO426.out) (Kd.R_base ho0) hb); have n1_ := Aside0.mk (Kd.R_lower (Kd.R_new' ho0 (Kd.R_lt (by (with_reducible repeat (first | apply Kd.R_alloc | apply Kd.R_drewN | apply Kd.R_drew)); exact HO426.out))) (below_size (by repeat (first | (with_reducible first | exact HB.out | apply below_alloc | apply pw_below_drewN | apply below_drew1) | exact HB.out)))); have n2_ := Aside0.mk (below_step (by repeat (first | (with_reducible first | exact HB.out | apply below_alloc | apply pw_below_drewN | apply below_drew1) | exact HB.out)) hb); clear HO426; clear HB; have HO426 := n0_; have HO429 := n1_; have HB := n2_; clear n0_ n1_ n2_; (try clear hb); (try clear hb2); (try clear hk); (try clear hi); (try clear ho0); obtain ⟨Ao10, co10, eo10⟩ := Kd.R_slice HO429.out; subst eo10)); try go_wp2_with (first | ((with_reducible refine gate_dst (N := 19) rfl ?_); refine Kd.R_make (Kd.int .i64) _ 3 rfl (N := 19) rfl 22 _ _ rfl ji3 rfl rfl Try.underlying22 (.int .i64 0) 8 info3 rfl (by decide) (by omega) 0 (ok := fun _ => True) (okp := fun _ => True) rfl (fun _ hk => hk) trivial (of_decide_eq_true (by first | (with_reducible assumption) | assumption)) (Nat.le_trans (Nat.mul_le_mul_right _ (of_decide_eq_true (by first | (with_reducible assumption) | assumption) : ji3.toNat ≤ 35184372088832)) (by omega)) (Below.refl _ _) (Nat.le_refl _) ?_; intro v425 w7 ho8 hb hg_ hnew_; clear hg_ hnew_; (first | rw [← Ny424.out] at ho8 | (simp only [Int.reduceToNat] at ho8; rw [← Ny424.out] at ho8)); have n0_ := Aside0.mk (Kd.R_lower ho8 (below_size (by repeat (first | (with_reducible first | exact HB.out | apply below_alloc | apply pw_below_drewN | apply below_drew1) | exact HB.out)))); have n1_ := Aside0.mk (below_step (by repeat (first | (with_reducible first | exact HB.out | apply below_alloc | apply pw_below_drewN | apply below_drew1) | exact HB.out)) hb); clear HB; have HO426 := n0_; have HB := n1_; clear n0_ n1_; clear hb ho8) | (go_at_call 55; (with_reducible refine (impl_lettersOf.calls k _ _ l0 t427 _ ?side1 ?side2 A6.out).mono ?_); (case side1 => repeat (first | exact (Kd.C_below HR0.out HB.out) | (with_reducible refine Kd.C_alloc ?_ _) | (with_reducible refine Kd.C_drewN ?_ _) | (with_reducible refine Kd.C_drew ?_))); (case side2 => exact HC0.out); rintro e w9 ⟨v428, rfl, ho0, hb⟩; have n0_ := Aside0.mk (Kd.R_elder' (by (with_reducible repeat (first | apply Kd.R_alloc | apply Kd.R_drewN | apply Kd.R_drew)); exact HO426.out) (Kd.R_base ho0) hb); have n1_ := Aside0.mk (Kd.R_lower (Kd.R_new' ho0 (Kd.R_lt (by (with_reducible repeat (first | apply Kd.R_alloc | apply Kd.R_drewN | apply Kd.R_drew)); exact HO426.out))) (below_size (by repeat (first | (with_reducible first | exact HB.out | apply below_alloc | apply pw_below_drewN | apply below_drew1) | exact HB.out)))); have n2_ := Aside0.mk (below_step (by repeat (first | (with_reducible first | exact HB.out | apply below_alloc | apply pw_below_drewN | apply below_drew1) | exact HB.out)) hb); clear HO426; clear HB; have HO426 := n0_; have HO429 := n1_; have HB := n2_; clear n0_ n1_ n2_; (try clear hb); (try clear hb2); (try clear hk); (try clear hi); (try clear ho0); obtain ⟨Ao10, co10, eo10⟩ := Kd.R_slice HO429.out; subst eo10)))
      go_loopg [23] k (fun kq v23 w' => ∃ (x6_1 : List Int) (x23_1 : Int), v23 = .int .i64 x23_1 ∧ Aside0 (impl_crossingMap.l0 kq l0 a1 (l0.length : Int) x6_1 t427 (t427.length : Int) x23_1 = some r) ∧ Aside0 (kq ≤ k) ∧ Aside0 (Kd.R (Kd.int .i64) 3 w' w.heap.size (fun k_ => some k_ ≠ ((.slice Ao10 t427.length co10) : Value).ownBlock) v425 x6_1) ∧ Aside0 (Kd.R (Kd.int .i64) 3 w' w.heap.size (fun k_ => some k_ ≠ (v425 : Value).ownBlock) (.slice Ao10 t427.length co10) t427) ∧ Aside0 (Below w.heap.size w w'))
      case atStart => exact ⟨(y424), (0), (by first | rfl | (simp; done) | (simp [*]; done)), H', ⟨Nat.le_refl _⟩, ⟨by (with_reducible repeat (first | apply Kd.R_alloc | apply Kd.R_drewN | apply Kd.R_drew)); exact Kd.R_mono HO426.out (fun _ hk => hk.2)⟩, ⟨by (with_reducible repeat (first | apply Kd.R_alloc | apply Kd.R_drewN | apply Kd.R_drew)); exact Kd.R_mono HO429.out (fun _ hk => hk.2)⟩, ⟨by repeat (first | (with_reducible first | exact HB.out | apply below_alloc | apply pw_below_drewN | apply below_drew1) | exact HB.out)⟩⟩
      case round =>
        clear H'
        try clear p2
        try clear c4
        try clear c4b0
        try clear c4b1
        try clear c5
        try clear c5b0
        try clear c5b1
        try clear p6
        obtain ⟨x6_1, x23_1, rfl, HA, HK1, HO_6, HO_21, HB⟩ := hrel
        cases gk with
        | zero => exact absurd HA.out (by simp [impl_crossingMap.l0])
        | succ k1 =>
          have H := HA.out
          clear HA
          simp only [impl_crossingMap.l0] at H
          by_cases c11 : x23_1 < (t427.length : Int)
          · rw [if_pos c11] at H
            have c11b0 : decide (x23_1 < (t427.length : Int)) = true := decide_eq_true c11
            clear c11
            by_cases c12 : 0 ≤ x23_1
            · rw [if_pos c12] at H
              have c12b0 : decide (0 ≤ x23_1) = true := decide_eq_true c12
              clear c12
              by_cases c13 : x23_1 < (t427.length : Int)
              · rw [if_pos c13] at H
                have c13b0 : decide (x23_1 < (t427.length : Int)) = true := decide_eq_true c13
                clear c13
                replace H := Option.bind_eq_some_iff.mp H
                obtain ⟨⟨t431, t432⟩, A140, H⟩ := H
                replace H : ((impl_mod.f (wrap64 (t431 - 1)) (l0.length : Int)).bind fun t433 => ((impl_mod.f (wrap64 (t432 - 1)) (l0.length : Int)).bind fun t434 => (impl_crossingMap.l1 k1 l0 a1 (l0.length : Int) x6_1 (rd t427 x23_1) (([wrap64 (2 * t431), wrap64 (2 * t432), wrap64 ((wrap64 (2 * t433)) + 1), wrap64 ((wrap64 (2 * t434)) + 1)] : List Int)) t427 (t427.length : Int) x23_1 0))) = some r := H
                have A14 := Aside0.mk A140
                clear A140
                replace H := Option.bind_eq_some_iff.mp H
                obtain ⟨t433, A150, H⟩ := H
                replace H : ((impl_mod.f (wrap64 (t432 - 1)) (l0.length : Int)).bind fun t434 => (impl_crossingMap.l1 k1 l0 a1 (l0.length : Int) x6_1 (rd t427 x23_1) (([wrap64 (2 * t431), wrap64 (2 * t432), wrap64 ((wrap64 (2 * t433)) + 1), wrap64 ((wrap64 (2 * t434)) + 1)] : List Int)) t427 (t427.length : Int) x23_1 0)) = some r := H
                have A15 := Aside0.mk A150
                clear A150
                replace H := Option.bind_eq_some_iff.mp H
                obtain ⟨t434, A160, H⟩ := H
                replace H : (impl_crossingMap.l1 k1 l0 a1 (l0.length : Int) x6_1 (rd t427 x23_1) (([wrap64 (2 * t431), wrap64 (2 * t432), wrap64 ((wrap64 (2 * t433)) + 1), wrap64 ((wrap64 (2 * t434)) + 1)] : List Int)) t427 (t427.length : Int) x23_1 0) = some r := H
                have A16 := Aside0.mk A160
                clear A160
                obtain ⟨y435, hy435⟩ : ∃ y_ : List Int, y_ = (([wrap64 (2 * t431), wrap64 (2 * t432), wrap64 ((wrap64 (2 * t433)) + 1), wrap64 ((wrap64 (2 * t434)) + 1)] : List Int)) := ⟨_, rfl⟩
                replace H : (impl_crossingMap.l1 k1 l0 a1 (l0.length : Int) x6_1 (rd t427 x23_1) y435 t427 (t427.length : Int) x23_1 0) = some r := by first | (rw [hy435]; with_reducible exact H) | (have H2_ := (Option.bind_some _ _).symm.trans H; rw [hy435]; with_reducible exact H2_) | (have H2_ := (Option.bind_some _ _).symm.trans H; with_reducible exact H2_) | with_reducible exact H | (rw [hy435]; exact H) | exact H
                have Ny435 := Aside0.mk hy435
                clear hy435
                have H' := Aside0.mk H
                clear H
                have p430 : 0 ≤ (x23_1 : Int) := of_decide_eq_true (by first | (with_reducible assumption) | assumption)
                have q430 : x23_1 < (t427.length : Int) := of_decide_eq_true (by first | (with_reducible assumption) | assumption)
                obtain ⟨ad430, e430, hx430_0⟩ := Kd.at_int (Kd.R_reads' HO_21.out).2.2 x23_1 p430 q430
                cases e430
                replace p430 := eq_true p430
                replace q430 := eq_true q430
                go_wp2_with (first | (go_at_call 74; (with_reducible refine (impl_placesOf.calls k1 _ _ l0 (rd t427 x23_1) t431 t432 _ ?side1 ?side2 A14.out).mono ?_); (case side1 => repeat (first | exact (Kd.C_below HR0.out HB.out) | (with_reducible refine Kd.C_alloc ?_ _) | (with_reducible refine Kd.C_drewN ?_ _) | (with_reducible refine Kd.C_drew ?_))); (case side2 => exact HC0.out); rintro e w' ⟨rfl, ⟨nd, rfl⟩⟩; (try first | exact ⟨rfl, _, World.drewN_drewN _ _ _⟩ | exact ⟨rfl, _, Eq.trans (World.drewN_drewN _ _ _) (congrArg (World.drewN _) (Nat.add_assoc _ _ _))⟩)) | (go_at_call 76; (with_reducible refine (impl_mod.calls (wrap64 (t431 - 1)) (l0.length : Int) t433 _ A15.out).mono ?_); rintro e w' ⟨rfl, ⟨nd, rfl⟩⟩; (try first | exact ⟨rfl, _, World.drewN_drewN _ _ _⟩ | exact ⟨rfl, _, Eq.trans (World.drewN_drewN _ _ _) (congrArg (World.drewN _) (Nat.add_assoc _ _ _))⟩)) | (go_at_call 76; (with_reducible refine (impl_mod.calls (wrap64 (t432 - 1)) (l0.length : Int) t434 _ A16.out).mono ?_); rintro e w' ⟨rfl, ⟨nd, rfl⟩⟩; (try first | exact ⟨rfl, _, World.drewN_drewN _ _ _⟩ | exact ⟨rfl, _, Eq.trans (World.drewN_drewN _ _ _) (congrArg (World.drewN _) (Nat.add_assoc _ _ _))⟩)) | ((with_reducible refine gate_dst (N := 49) rfl ?_); refine Kd.R_lit (Kd.int .i64) _ 3 ?hg (N := 49) ?hd (xs := ([wrap64 (2 * t431), wrap64 (2 * t432), wrap64 ((wrap64 (2 * t433)) + 1), wrap64 ((wrap64 (2 * t434)) + 1)] : List Int)) (inner := [.int .i64 (wrap64 (2 * t431)), .int .i64 (wrap64 (2 * t432)), .int .i64 (wrap64 ((wrap64 (2 * t433)) + 1)), .int .i64 (wrap64 ((wrap64 (2 * t434)) + 1))]) (ok := fun _ => True) (okp := fun _ => True) ?hr ?hp (fun _ hk => hk) trivial (Below.refl _ _) (Nat.le_refl _) (by simp) ?_; (case hd => rfl); (case hg => rfl); (case hr => first | (go_simp; done) | (go_simp; rfl)); (case hp => exact (Reps.one (show Kd.M (Kd.int .i64) _ _ _ (wrap64 (2 * t431)) [.int .i64 (wrap64 (2 * t431))] from rfl) (Reps.one (show Kd.M (Kd.int .i64) _ _ _ (wrap64 (2 * t432)) [.int .i64 (wrap64 (2 * t432))] from rfl) (Reps.one (show Kd.M (Kd.int .i64) _ _ _ (wrap64 ((wrap64 (2 * t433)) + 1)) [.int .i64 (wrap64 ((wrap64 (2 * t433)) + 1))] from rfl) (Reps.one (show Kd.M (Kd.int .i64) _ _ _ (wrap64 ((wrap64 (2 * t434)) + 1)) [.int .i64 (wrap64 ((wrap64 (2 * t434)) + 1))] from rfl) (Reps.none _ _)))))); intro v436 w17 ho18 hb hg_ hnew_; clear hg_ hnew_; (first | rw [← Ny435.out] at ho18 | (simp only [Int.reduceToNat] at ho18; rw [← Ny435.out] at ho18)); have n0_ := Aside0.mk (Kd.R_elder' (by (with_reducible repeat (first | apply Kd.R_alloc | apply Kd.R_drewN | apply Kd.R_drew)); exact HO_6.out) (Kd.R_base ho18) hb); have n1_ := Aside0.mk (Kd.R_elder' (by (with_reducible repeat (first | apply Kd.R_alloc | apply Kd.R_drewN | apply Kd.R_drew)); exact HO_21.out) (Kd.R_base ho18) hb); have n2_ := Aside0.mk (Kd.R_lower (Kd.R_new' (Kd.R_new' ho18 (Kd.R_lt (by (with_reducible repeat (first | apply Kd.R_alloc | apply Kd.R_drewN | apply Kd.R_drew)); exact HO_6.out))) (Kd.R_lt (by (with_reducible repeat (first | apply Kd.R_alloc | apply Kd.R_drewN | apply Kd.R_drew)); exact HO_21.out))) (below_size (by repeat (first | (with_reducible first | exact HB.out | apply below_alloc | apply pw_below_drewN | apply below_drew1) | exact HB.out)))); have n3_ := Aside0.mk (below_step (by repeat (first | (with_reducible first | exact HB.out | apply below_alloc | apply pw_below_drewN | apply below_drew1) | exact HB.out)) hb); clear HO_6; clear HO_21; clear HB; have HO_6 := n0_; have HO_21 := n1_; have HO437 := n2_; have HB := n3_; clear n0_ n1_ n2_ n3_; clear hb ho18))
                repeat (go_quiet (first | (go_at_call 74; (with_reducible refine (impl_placesOf.calls k1 _ _ l0 (rd t427 x23_1) t431 t432 _ ?side1 ?side2 A14.out).mono ?_); (case side1 => repeat (first | exact (Kd.C_below HR0.out HB.out) | (with_reducible refine Kd.C_alloc ?_ _) | (with_reducible refine Kd.C_drewN ?_ _) | (with_reducible refine Kd.C_drew ?_))); (case side2 => exact HC0.out); rintro e w' ⟨rfl, ⟨nd, rfl⟩⟩; (try first | exact ⟨rfl, _, World.drewN_drewN _ _ _⟩ | exact ⟨rfl, _, Eq.trans (World.drewN_drewN _ _ _) (congrArg (World.drewN _) (Nat.add_assoc _ _ _))⟩)) | (go_at_call 76; (with_reducible refine (impl_mod.calls (wrap64 (t431 - 1)) (l0.length : Int) t433 _ A15.out).mono ?_); rintro e w' ⟨rfl, ⟨nd, rfl⟩⟩; (try first | exact ⟨rfl, _, World.drewN_drewN _ _ _⟩ | exact ⟨rfl, _, Eq.trans (World.drewN_drewN _ _ _) (congrArg (World.drewN _) (Nat.add_assoc _ _ _))⟩)) | (go_at_call 76; (with_reducible refine (impl_mod.calls (wrap64 (t432 - 1)) (l0.length : Int) t434 _ A16.out).mono ?_); rintro e w' ⟨rfl, ⟨nd, rfl⟩⟩; (try first | exact ⟨rfl, _, World.drewN_drewN _ _ _⟩ | exact ⟨rfl, _, Eq.trans (World.drewN_drewN _ _ _) (congrArg (World.drewN _) (Nat.add_assoc _ _ _))⟩)) | ((with_reducible refine gate_dst (N := 49) rfl ?_); refine Kd.R_lit (Kd.int .i64) _ 3 ?hg (N := 49) ?hd (xs := ([wrap64 (2 * t431), wrap64 (2 * t432), wrap64 ((wrap64 (2 * t433)) + 1), wrap64 ((wrap64 (2 * t434)) + 1)] : List Int)) (inner := [.int .i64 (wrap64 (2 * t431)), .int .i64 (wrap64 (2 * t432)), .int .i64 (wrap64 ((wrap64 (2 * t433)) + 1)), .int .i64 (wrap64 ((wrap64 (2 * t434)) + 1))]) (ok := fun _ => True) (okp := fun _ => True) ?hr ?hp (fun _ hk => hk) trivial (Below.refl _ _) (Nat.le_refl _) (by simp) ?_; (case hd => rfl); (case hg => rfl); (case hr => first | (go_simp; done) | (go_simp; rfl)); (case hp => exact (Reps.one (show Kd.M (Kd.int .i64) _ _ _ (wrap64 (2 * t431)) [.int .i64 (wrap64 (2 * t431))] from rfl) (Reps.one (show Kd.M (Kd.int .i64) _ _ _ (wrap64 (2 * t432)) [.int .i64 (wrap64 (2 * t432))] from rfl) (Reps.one (show Kd.M (Kd.int .i64) _ _ _ (wrap64 ((wrap64 (2 * t433)) + 1)) [.int .i64 (wrap64 ((wrap64 (2 * t433)) + 1))] from rfl) (Reps.one (show Kd.M (Kd.int .i64) _ _ _ (wrap64 ((wrap64 (2 * t434)) + 1)) [.int .i64 (wrap64 ((wrap64 (2 * t434)) + 1))] from rfl) (Reps.none _ _)))))); intro v436 w17 ho18 hb hg_ hnew_; clear hg_ hnew_; (first | rw [← Ny435.out] at ho18 | (simp only [Int.reduceToNat] at ho18; rw [← Ny435.out] at ho18)); have n0_ := Aside0.mk (Kd.R_elder' (by (with_reducible repeat (first | apply Kd.R_alloc | apply Kd.R_drewN | apply Kd.R_drew)); exact HO_6.out) (Kd.R_base ho18) hb); have n1_ := Aside0.mk (Kd.R_elder' (by (with_reducible repeat (first | apply Kd.R_alloc | apply Kd.R_drewN | apply Kd.R_drew)); exact HO_21.out) (Kd.R_base ho18) hb); have n2_ := Aside0.mk (Kd.R_lower (Kd.R_new' (Kd.R_new' ho18 (Kd.R_lt (by (with_reducible repeat (first | apply Kd.R_alloc | apply Kd.R_drewN | apply Kd.R_drew)); exact HO_6.out))) (Kd.R_lt (by (with_reducible repeat (first | apply Kd.R_alloc | apply Kd.R_drewN | apply Kd.R_drew)); exact HO_21.out))) (below_size (by repeat (first | (with_reducible first | exact HB.out | apply below_alloc | apply pw_below_drewN | apply below_drew1) | exact HB.out)))); have n3_ := Aside0.mk (below_step (by repeat (first | (with_reducible first | exact HB.out | apply below_alloc | apply pw_below_drewN | apply below_drew1) | exact HB.out)) hb); clear HO_6; clear HO_21; clear HB; have HO_6 := n0_; have HO_21 := n1_; have HO437 := n2_; have HB := n3_; clear n0_ n1_ n2_ n3_; clear hb ho18)); try go_wp2_with (first | (go_at_call 74; (with_reducible refine (impl_placesOf.calls k1 _ _ l0 (rd t427 x23_1) t431 t432 _ ?side1 ?side2 A14.out).mono ?_); (case side1 => repeat (first | exact (Kd.C_below HR0.out HB.out) | (with_reducible refine Kd.C_alloc ?_ _) | (with_reducible refine Kd.C_drewN ?_ _) | (with_reducible refine Kd.C_drew ?_))); (case side2 => exact HC0.out); rintro e w' ⟨rfl, ⟨nd, rfl⟩⟩; (try first | exact ⟨rfl, _, World.drewN_drewN _ _ _⟩ | exact ⟨rfl, _, Eq.trans (World.drewN_drewN _ _ _) (congrArg (World.drewN _) (Nat.add_assoc _ _ _))⟩)) | (go_at_call 76; (with_reducible refine (impl_mod.calls (wrap64 (t431 - 1)) (l0.length : Int) t433 _ A15.out).mono ?_); rintro e w' ⟨rfl, ⟨nd, rfl⟩⟩; (try first | exact ⟨rfl, _, World.drewN_drewN _ _ _⟩ | exact ⟨rfl, _, Eq.trans (World.drewN_drewN _ _ _) (congrArg (World.drewN _) (Nat.add_assoc _ _ _))⟩)) | (go_at_call 76; (with_reducible refine (impl_mod.calls (wrap64 (t432 - 1)) (l0.length : Int) t434 _ A16.out).mono ?_); rintro e w' ⟨rfl, ⟨nd, rfl⟩⟩; (try first | exact ⟨rfl, _, World.drewN_drewN _ _ _⟩ | exact ⟨rfl, _, Eq.trans (World.drewN_drewN _ _ _) (congrArg (World.drewN _) (Nat.add_assoc _ _ _))⟩)) | ((with_reducible refine gate_dst (N := 49) rfl ?_); refine Kd.R_lit (Kd.int .i64) _ 3 ?hg (N := 49) ?hd (xs := ([wrap64 (2 * t431), wrap64 (2 * t432), wrap64 ((wrap64 (2 * t433)) + 1), wrap64 ((wrap64 (2 * t434)) + 1)] : List Int)) (inner := [.int .i64 (wrap64 (2 * t431)), .int .i64 (wrap64 (2 * t432)), .int .i64 (wrap64 ((wrap64 (2 * t433)) + 1)), .int .i64 (wrap64 ((wrap64 (2 * t434)) + 1))]) (ok := fun _ => True) (okp := fun _ => True) ?hr ?hp (fun _ hk => hk) trivial (Below.refl _ _) (Nat.le_refl _) (by simp) ?_; (case hd => rfl); (case hg => rfl); (case hr => first | (go_simp; done) | (go_simp; rfl)); (case hp => exact (Reps.one (show Kd.M (Kd.int .i64) _ _ _ (wrap64 (2 * t431)) [.int .i64 (wrap64 (2 * t431))] from rfl) (Reps.one (show Kd.M (Kd.int .i64) _ _ _ (wrap64 (2 * t432)) [.int .i64 (wrap64 (2 * t432))] from rfl) (Reps.one (show Kd.M (Kd.int .i64) _ _ _ (wrap64 ((wrap64 (2 * t433)) + 1)) [.int .i64 (wrap64 ((wrap64 (2 * t433)) + 1))] from rfl) (Reps.one (show Kd.M (Kd.int .i64) _ _ _ (wrap64 ((wrap64 (2 * t434)) + 1)) [.int .i64 (wrap64 ((wrap64 (2 * t434)) + 1))] from rfl) (Reps.none _ _)))))); intro v436 w17 ho18 hb hg_ hnew_; clear hg_ hnew_; (first | rw [← Ny435.out] at ho18 | (simp only [Int.reduceToNat] at ho18; rw [← Ny435.out] at ho18)); have n0_ := Aside0.mk (Kd.R_elder' (by (with_reducible repeat (first | apply Kd.R_alloc | apply Kd.R_drewN | apply Kd.R_drew)); exact HO_6.out) (Kd.R_base ho18) hb); have n1_ := Aside0.mk (Kd.R_elder' (by (with_reducible repeat (first | apply Kd.R_alloc | apply Kd.R_drewN | apply Kd.R_drew)); exact HO_21.out) (Kd.R_base ho18) hb); have n2_ := Aside0.mk (Kd.R_lower (Kd.R_new' (Kd.R_new' ho18 (Kd.R_lt (by (with_reducible repeat (first | apply Kd.R_alloc | apply Kd.R_drewN | apply Kd.R_drew)); exact HO_6.out))) (Kd.R_lt (by (with_reducible repeat (first | apply Kd.R_alloc | apply Kd.R_drewN | apply Kd.R_drew)); exact HO_21.out))) (below_size (by repeat (first | (with_reducible first | exact HB.out | apply below_alloc | apply pw_below_drewN | apply below_drew1) | exact HB.out)))); have n3_ := Aside0.mk (below_step (by repeat (first | (with_reducible first | exact HB.out | apply below_alloc | apply pw_below_drewN | apply below_drew1) | exact HB.out)) hb); clear HO_6; clear HO_21; clear HB; have HO_6 := n0_; have HO_21 := n1_; have HO437 := n2_; have HB := n3_; clear n0_ n1_ n2_ n3_; clear hb ho18)))
                go_loopg [50] k1 (fun kq v50 w' => ∃ (x6_2 : List Int) (x50_2 : Int), v50 = .int .i64 x50_2 ∧ Aside0 (impl_crossingMap.l1 kq l0 a1 (l0.length : Int) x6_2 (rd t427 x23_1) y435 t427 (t427.length : Int) x23_1 x50_2 = some r) ∧ Aside0 (kq ≤ k1) ∧ Aside0 (Kd.R (Kd.int .i64) 3 w' w.heap.size (fun k_ => some k_ ≠ (v436 : Value).ownBlock ∧ some k_ ≠ ((.slice (some ad430) t427.length co10) : Value).ownBlock) v425 x6_2) ∧ Aside0 (Kd.R (Kd.int .i64) 3 w' w.heap.size (fun k_ => some k_ ≠ (v425 : Value).ownBlock ∧ some k_ ≠ ((.slice (some ad430) t427.length co10) : Value).ownBlock) v436 y435) ∧ Aside0 (Kd.R (Kd.int .i64) 3 w' w.heap.size (fun k_ => some k_ ≠ (v425 : Value).ownBlock ∧ some k_ ≠ (v436 : Value).ownBlock) (.slice (some ad430) t427.length co10) t427) ∧ Aside0 (Below w.heap.size w w'))
                case atStart => exact ⟨(x6_1), (0), (by first | rfl | (simp; done) | (simp [*]; done)), H', ⟨Nat.le_refl _⟩, ⟨by (with_reducible repeat (first | apply Kd.R_alloc | apply Kd.R_drewN | apply Kd.R_drew)); exact Kd.R_mono HO_6.out (fun _ hk => ⟨hk.2, hk.1⟩)⟩, ⟨by (with_reducible repeat (first | apply Kd.R_alloc | apply Kd.R_drewN | apply Kd.R_drew)); exact Kd.R_mono HO437.out (fun _ hk => ⟨hk.1.2, hk.2⟩)⟩, ⟨by (with_reducible repeat (first | apply Kd.R_alloc | apply Kd.R_drewN | apply Kd.R_drew)); exact HO_21.out⟩, ⟨by repeat (first | (with_reducible first | exact HB.out | apply below_alloc | apply pw_below_drewN | apply below_drew1) | exact HB.out)⟩⟩
                case round =>
                  clear H'
                  try clear c1
                  try clear p2
                  try clear c4
                  try clear c4b0
                  try clear c4b1
                  try clear p4
                  try clear q4
                  try clear hx4
                  try clear c5
                  try clear c5b0
                  try clear c5b1
                  try clear p6
                  try clear c11
                  try clear c11b0
                  try clear c12
                  try clear c12b0
                  try clear c13
                  try clear c13b0
                  try clear hx430_0
                  try clear p2
                  try clear p430
                  try clear p6
                  try clear q430
                  obtain ⟨x6_2, x50_2, rfl, HA, HK2, HO_6, HO_11, HO_21, HB⟩ := hrel
                  cases gk with
                  | zero => exact absurd HA.out (by simp [impl_crossingMap.l1])
                  | succ k2 =>
                    have H := HA.out
                    clear HA
                    simp only [impl_crossingMap.l1] at H
                    by_cases c19 : x50_2 < 4
                    · rw [if_pos c19] at H
                      have c19b0 : decide (x50_2 < 4) = true := decide_eq_true c19
                      clear c19
                      by_cases c20 : 0 ≤ x50_2
                      · rw [if_pos c20] at H
                        have c20b0 : decide (0 ≤ x50_2) = true := decide_eq_true c20
                        clear c20
                        by_cases c21 : x50_2 < (y435.length : Int)
                        · rw [if_pos c21] at H
                          have c21b0 : decide (x50_2 < (y435.length : Int)) = true := decide_eq_true c21
                          clear c21
                          obtain ⟨ji22, hji22⟩ : ∃ j_ : Int, (Int.tmod (wrap64 (x50_2 + 1)) 4) = j_ := ⟨_, rfl⟩
                          replace H : (if 0 ≤ (ji22) then (if (ji22) < (y435.length : Int) then (if 0 ≤ (wrap64 ((rd t427 x23_1) - 1)) then (if (Go.bits .and .i64 (shr .i64 a1 (wrap64 ((rd t427 x23_1) - 1))) 1) = 1 then (if 0 ≤ (rd y435 (ji22)) then (if (rd y435 (ji22)) < (x6_2.length : Int) then (impl_crossingMap.l1 k2 l0 a1 (l0.length : Int) (x6_2.set ((rd y435 (ji22)) : Int).toNat (rd y435 x50_2)) (rd t427 x23_1) y435 t427 (t427.length : Int) x23_1 (wrap64 (x50_2 + 1))) else (none)) else (none)) else (if 0 ≤ (rd y435 x50_2) then (if (rd y435 x50_2) < (x6_2.length : Int) then (impl_crossingMap.l1 k2 l0 a1 (l0.length : Int) (x6_2.set ((rd y435 x50_2) : Int).toNat (rd y435 (ji22))) (rd t427 x23_1) y435 t427 (t427.length : Int) x23_1 (wrap64 (x50_2 + 1))) else (none)) else (none))) else (none)) else (none)) else (none)) = some r := by first | (rw [hji22] at H; exact H) | (simp only [hji22] at H ⊢; exact H)
                          by_cases c23 : 0 ≤ (ji22)
                          · rw [if_pos c23] at H
                            have c23b0 : decide (0 ≤ (ji22)) = true := decide_eq_true c23
                            clear c23
                            by_cases c24 : (ji22) < (y435.length : Int)
                            · rw [if_pos c24] at H
                              have c24b0 : decide ((ji22) < (y435.length : Int)) = true := decide_eq_true c24
                              clear c24
                              obtain ⟨ji25, hji25⟩ : ∃ j_ : Int, (wrap64 ((rd t427 x23_1) - 1)) = j_ := ⟨_, rfl⟩
                              replace H : (if 0 ≤ (ji25) then (if (Go.bits .and .i64 (shr .i64 a1 (ji25)) 1) = 1 then (if 0 ≤ (rd y435 (ji22)) then (if (rd y435 (ji22)) < (x6_2.length : Int) then (impl_crossingMap.l1 k2 l0 a1 (l0.length : Int) (x6_2.set ((rd y435 (ji22)) : Int).toNat (rd y435 x50_2)) (rd t427 x23_1) y435 t427 (t427.length : Int) x23_1 (wrap64 (x50_2 + 1))) else (none)) else (none)) else (if 0 ≤ (rd y435 x50_2) then (if (rd y435 x50_2) < (x6_2.length : Int) then (impl_crossingMap.l1 k2 l0 a1 (l0.length : Int) (x6_2.set ((rd y435 x50_2) : Int).toNat (rd y435 (ji22))) (rd t427 x23_1) y435 t427 (t427.length : Int) x23_1 (wrap64 (x50_2 + 1))) else (none)) else (none))) else (none)) = some r := by first | (rw [hji25] at H; exact H) | (simp only [hji25] at H ⊢; exact H)
                              have hji25w : (IntKind.i64.wrap ((rd t427 x23_1) - 1)) = ji25 := (i64_w _).trans hji25
                              by_cases c26 : 0 ≤ (ji25)
                              · rw [if_pos c26] at H
                                have c26b0 := eq_true c26
                                have c26b1 : decide (0 ≤ (ji25)) = true := decide_eq_true c26
                                clear c26
                                obtain ⟨ji27, hji27⟩ : ∃ j_ : Int, (shr .i64 a1 (ji25)) = j_ := ⟨_, rfl⟩
                                replace H : (if (Go.bits .and .i64 (ji27) 1) = 1 then (if 0 ≤ (rd y435 (ji22)) then (if (rd y435 (ji22)) < (x6_2.length : Int) then (impl_crossingMap.l1 k2 l0 a1 (l0.length : Int) (x6_2.set ((rd y435 (ji22)) : Int).toNat (rd y435 x50_2)) (rd t427 x23_1) y435 t427 (t427.length : Int) x23_1 (wrap64 (x50_2 + 1))) else (none)) else (none)) else (if 0 ≤ (rd y435 x50_2) then (if (rd y435 x50_2) < (x6_2.length : Int) then (impl_crossingMap.l1 k2 l0 a1 (l0.length : Int) (x6_2.set ((rd y435 x50_2) : Int).toNat (rd y435 (ji22))) (rd t427 x23_1) y435 t427 (t427.length : Int) x23_1 (wrap64 (x50_2 + 1))) else (none)) else (none))) = some r := by first | (rw [hji27] at H; exact H) | (simp only [hji27] at H ⊢; exact H)
                                have hji27_ : (a1 / 2 ^ min (ji25).toNat 64) = ji27 := hji27
                                have hji27z : (ji25) ≤ 64 → (a1 / 2 ^ (ji25).toNat) = ji27 := shr_small hji27
                                by_cases c28 : (Go.bits .and .i64 (ji27) 1) = 1
                                · rw [if_pos c28] at H
                                  have c28b0 : ((Go.bits .and .i64 (ji27) 1) == 1) = true := beq_iff_eq.mpr c28
                                  have c28b1 : ((Go.bits .and .i64 (ji27) 1) != 1) = false := bne_eq_false_iff_eq.mpr c28
                                  clear c28
                                  by_cases c29 : 0 ≤ (rd y435 (ji22))
                                  · rw [if_pos c29] at H
                                    have c29b0 : decide (0 ≤ (rd y435 (ji22))) = true := decide_eq_true c29
                                    clear c29
                                    by_cases c30 : (rd y435 (ji22)) < (x6_2.length : Int)
                                    · rw [if_pos c30] at H
                                      have c30b0 : decide ((rd y435 (ji22)) < (x6_2.length : Int)) = true := decide_eq_true c30
                                      clear c30
                                      obtain ⟨y440, hy440⟩ : ∃ y_ : List Int, y_ = (x6_2.set ((rd y435 (ji22)) : Int).toNat (rd y435 x50_2)) := ⟨_, rfl⟩
                                      replace H : (impl_crossingMap.l1 k2 l0 a1 (l0.length : Int) y440 (rd t427 x23_1) y435 t427 (t427.length : Int) x23_1 (wrap64 (x50_2 + 1))) = some r := by first | (rw [hy440]; with_reducible exact H) | (have H2_ := (Option.bind_some _ _).symm.trans H; rw [hy440]; with_reducible exact H2_) | (have H2_ := (Option.bind_some _ _).symm.trans H; with_reducible exact H2_) | with_reducible exact H | (rw [hy440]; exact H) | exact H
                                      have Ny440 := Aside0.mk hy440
                                      clear hy440
                                      have H' := Aside0.mk H
                                      clear H
                                      obtain ⟨Ao32, co32, eo32⟩ := Kd.R_slice HO_11.out
                                      subst eo32
                                      have p438 : 0 ≤ (x50_2 : Int) := of_decide_eq_true (by first | (with_reducible assumption) | assumption)
                                      have q438 : x50_2 < (y435.length : Int) := of_decide_eq_true (by first | (with_reducible assumption) | assumption)
                                      obtain ⟨ad438, e438, hx438_0⟩ := Kd.at_int (Kd.R_reads' HO_11.out).2.2 x50_2 p438 q438
                                      cases e438
                                      replace p438 := eq_true p438
                                      replace q438 := eq_true q438
                                      have p439 : 0 ≤ ((ji22) : Int) := of_decide_eq_true (by first | (with_reducible assumption) | assumption)
                                      have q439 : (ji22) < (y435.length : Int) := of_decide_eq_true (by first | (with_reducible assumption) | assumption)
                                      obtain ⟨ad439, e439, hx439_0⟩ := Kd.at_int (Kd.R_reads' HO_11.out).2.2 (ji22) p439 q439
                                      obtain rfl : ad438 = ad439 := (by injection e439)
                                      replace p439 := eq_true p439
                                      replace q439 := eq_true q439
                                      have p31 : 0 ≤ ((rd y435 (ji22)) : Int) := of_decide_eq_true (by first | (with_reducible assumption) | assumption)
                                      have q31 : ((rd y435 (ji22)) : Int) < ((x6_2.length : Int) : Int) := of_decide_eq_true (by first | (with_reducible assumption) | assumption)
                                      obtain ⟨go31, co31, eo31, gb31, gl31, cl31, HG31⟩ := Kd.R_form HO_6.out (by omega)
                                      (first | cases eo31 | (injection eo31 with ea_ en_ ec_; (first | subst ea_ | (injection ea_ with ea_; subst ea_)); subst ec_; clear en_))
                                      have GB31 := Aside0.mk gb31
                                      have GG31 := Aside0.mk HG31
                                      clear gb31 gl31 HG31
                                      obtain ⟨hx31_0, hf31_0⟩ := Kd.R_celln 0 HO_6.out ((rd y435 (ji22)) : Int) p31 q31
                                      replace p31 := eq_true p31
                                      replace q31 := eq_true q31
                                      have HP33 := Kd.R_putg HO_6.out ((rd y435 (ji22)) : Int) (rd y435 x50_2)
                                      go_wp2_with (first | ((with_reducible refine gate_store (t := 3) (p := 74) rfl ?_); (try (rw [drewN_self wr]; generalize hq_ : World.drewN wr _ = wr; (try replace hx31_0 := cellq_ hq_ hx31_0); (try replace hx31_0 := frozq_ hq_ hx31_0); (try replace hf31_0 := frozq_ hq_ hf31_0); (try replace hx439_0 := cellq_ hq_ hx439_0); (try replace hx439_0 := frozq_ hq_ hx439_0); (try replace hx438_0 := cellq_ hq_ hx438_0); (try replace hx438_0 := frozq_ hq_ hx438_0); (try replace hx430_0 := cellq_ hq_ hx430_0); (try replace hx430_0 := frozq_ hq_ hx430_0); have n0_ := Aside0.mk (Kd.R_at hq_ HO_6.out); have n1_ := Aside0.mk (Kd.R_at hq_ HO_11.out); have n2_ := Aside0.mk (Kd.R_at hq_ HO_21.out); have n3_ := Aside0.mk (below_at hq_ HB.out); clear hq_ HO_6 HO_11 HO_21 HB; have HO_6 := n0_; have HO_11 := n1_; have HO_21 := n2_; have HB := n3_; clear n0_ n1_ n2_ n3_; (try (have HP33 := Kd.R_putg HO_6.out ((rd y435 (ji22)) : Int) (rd y435 x50_2))))); refine store_event (t := 3) (p := 74) (v := ?vo_w34) (w1 := (wr.setCell ⟨go31, ((rd y435 (ji22)) : Int).toNat, none⟩ (.int .i64 (rd y435 x50_2)))) ?hg ?ho ?hn ?hr ?_; (case ho => rfl); (case hg => rfl); (case hn => rfl); (case hr => first | (go_simp; done) | (go_simp; rfl)); intro w34 hw; have hg : wr.grownBy w34 (some go31) := (by rw [hw]; exact HP33.2); have hp_ : Kd.R (Kd.int .i64) 3 w34 w.heap.size (fun k_ => some k_ ≠ (.slice (some ad438) y435.length co32 : Value).ownBlock ∧ some k_ ≠ (.slice (some ad430) t427.length co10 : Value).ownBlock) (.slice (some ⟨go31, 0, none⟩) x6_2.length co31) y440 := (by rw [hw, Ny440.out]; exact HP33.1); clear HP33; have n0_ := Aside0.mk (hp_); have n1_ := Aside0.mk (Kd.R_after (v := (.slice (some ⟨go31, 0, none⟩) x6_2.length co31)) (v1 := (.slice (some ⟨go31, 0, none⟩) x6_2.length co31)) (ok := (fun k_ => some k_ ≠ (.slice (some ad430) t427.length co10 : Value).ownBlock)) (by (with_reducible repeat (first | apply Kd.R_alloc | apply Kd.R_drewN | apply Kd.R_drew)); exact Kd.R_mono HO_11.out (fun _ hk => ⟨hk.2, hk.1⟩)) hg (.inl rfl)); have n2_ := Aside0.mk (Kd.R_after (v := (.slice (some ⟨go31, 0, none⟩) x6_2.length co31)) (v1 := (.slice (some ⟨go31, 0, none⟩) x6_2.length co31)) (ok := (fun k_ => some k_ ≠ (.slice (some ad438) y435.length co32 : Value).ownBlock)) (by (with_reducible repeat (first | apply Kd.R_alloc | apply Kd.R_drewN | apply Kd.R_drew)); exact Kd.R_mono HO_21.out (fun _ hk => ⟨hk.2, hk.1⟩)) hg (.inl rfl)); have n3_ := Aside0.mk ((by rw [hw]; exact below_set (HB.out) GB31.out : Below w.heap.size w w34)); clear HO_6; clear HO_11; clear HO_21; clear HB; have HO_6 := n0_; have HO_11 := n1_; have HO_21 := n2_; have HB := n3_; clear n0_ n1_ n2_ n3_; clear hg hw hp_))
                                      repeat (go_quiet (first | ((with_reducible refine gate_store (t := 3) (p := 74) rfl ?_); (try (rw [drewN_self wr]; generalize hq_ : World.drewN wr _ = wr; (try replace hx31_0 := cellq_ hq_ hx31_0); (try replace hx31_0 := frozq_ hq_ hx31_0); (try replace hf31_0 := frozq_ hq_ hf31_0); (try replace hx439_0 := cellq_ hq_ hx439_0); (try replace hx439_0 := frozq_ hq_ hx439_0); (try replace hx438_0 := cellq_ hq_ hx438_0); (try replace hx438_0 := frozq_ hq_ hx438_0); (try replace hx430_0 := cellq_ hq_ hx430_0); (try replace hx430_0 := frozq_ hq_ hx430_0); have n0_ := Aside0.mk (Kd.R_at hq_ HO_6.out); have n1_ := Aside0.mk (Kd.R_at hq_ HO_11.out); have n2_ := Aside0.mk (Kd.R_at hq_ HO_21.out); have n3_ := Aside0.mk (below_at hq_ HB.out); clear hq_ HO_6 HO_11 HO_21 HB; have HO_6 := n0_; have HO_11 := n1_; have HO_21 := n2_; have HB := n3_; clear n0_ n1_ n2_ n3_; (try (have HP33 := Kd.R_putg HO_6.out ((rd y435 (ji22)) : Int) (rd y435 x50_2))))); refine store_event (t := 3) (p := 74) (v := ?vo_w34) (w1 := (wr.setCell ⟨go31, ((rd y435 (ji22)) : Int).toNat, none⟩ (.int .i64 (rd y435 x50_2)))) ?hg ?ho ?hn ?hr ?_; (case ho => rfl); (case hg => rfl); (case hn => rfl); (case hr => first | (go_simp; done) | (go_simp; rfl)); intro w34 hw; have hg : wr.grownBy w34 (some go31) := (by rw [hw]; exact HP33.2); have hp_ : Kd.R (Kd.int .i64) 3 w34 w.heap.size (fun k_ => some k_ ≠ (.slice (some ad438) y435.length co32 : Value).ownBlock ∧ some k_ ≠ (.slice (some ad430) t427.length co10 : Value).ownBlock) (.slice (some ⟨go31, 0, none⟩) x6_2.length co31) y440 := (by rw [hw, Ny440.out]; exact HP33.1); clear HP33; have n0_ := Aside0.mk (hp_); have n1_ := Aside0.mk (Kd.R_after (v := (.slice (some ⟨go31, 0, none⟩) x6_2.length co31)) (v1 := (.slice (some ⟨go31, 0, none⟩) x6_2.length co31)) (ok := (fun k_ => some k_ ≠ (.slice (some ad430) t427.length co10 : Value).ownBlock)) (by (with_reducible repeat (first | apply Kd.R_alloc | apply Kd.R_drewN | apply Kd.R_drew)); exact Kd.R_mono HO_11.out (fun _ hk => ⟨hk.2, hk.1⟩)) hg (.inl rfl)); have n2_ := Aside0.mk (Kd.R_after (v := (.slice (some ⟨go31, 0, none⟩) x6_2.length co31)) (v1 := (.slice (some ⟨go31, 0, none⟩) x6_2.length co31)) (ok := (fun k_ => some k_ ≠ (.slice (some ad438) y435.length co32 : Value).ownBlock)) (by (with_reducible repeat (first | apply Kd.R_alloc | apply Kd.R_drewN | apply Kd.R_drew)); exact Kd.R_mono HO_21.out (fun _ hk => ⟨hk.2, hk.1⟩)) hg (.inl rfl)); have n3_ := Aside0.mk ((by rw [hw]; exact below_set (HB.out) GB31.out : Below w.heap.size w w34)); clear HO_6; clear HO_11; clear HO_21; clear HB; have HO_6 := n0_; have HO_11 := n1_; have HO_21 := n2_; have HB := n3_; clear n0_ n1_ n2_ n3_; clear hg hw hp_)); try go_wp2_with (first | ((with_reducible refine gate_store (t := 3) (p := 74) rfl ?_); (try (rw [drewN_self wr]; generalize hq_ : World.drewN wr _ = wr; (try replace hx31_0 := cellq_ hq_ hx31_0); (try replace hx31_0 := frozq_ hq_ hx31_0); (try replace hf31_0 := frozq_ hq_ hf31_0); (try replace hx439_0 := cellq_ hq_ hx439_0); (try replace hx439_0 := frozq_ hq_ hx439_0); (try replace hx438_0 := cellq_ hq_ hx438_0); (try replace hx438_0 := frozq_ hq_ hx438_0); (try replace hx430_0 := cellq_ hq_ hx430_0); (try replace hx430_0 := frozq_ hq_ hx430_0); have n0_ := Aside0.mk (Kd.R_at hq_ HO_6.out); have n1_ := Aside0.mk (Kd.R_at hq_ HO_11.out); have n2_ := Aside0.mk (Kd.R_at hq_ HO_21.out); have n3_ := Aside0.mk (below_at hq_ HB.out); clear hq_ HO_6 HO_11 HO_21 HB; have HO_6 := n0_; have HO_11 := n1_; have HO_21 := n2_; have HB := n3_; clear n0_ n1_ n2_ n3_; (try (have HP33 := Kd.R_putg HO_6.out ((rd y435 (ji22)) : Int) (rd y435 x50_2))))); refine store_event (t := 3) (p := 74) (v := ?vo_w34) (w1 := (wr.setCell ⟨go31, ((rd y435 (ji22)) : Int).toNat, none⟩ (.int .i64 (rd y435 x50_2)))) ?hg ?ho ?hn ?hr ?_; (case ho => rfl); (case hg => rfl); (case hn => rfl); (case hr => first | (go_simp; done) | (go_simp; rfl)); intro w34 hw; have hg : wr.grownBy w34 (some go31) := (by rw [hw]; exact HP33.2); have hp_ : Kd.R (Kd.int .i64) 3 w34 w.heap.size (fun k_ => some k_ ≠ (.slice (some ad438) y435.length co32 : Value).ownBlock ∧ some k_ ≠ (.slice (some ad430) t427.length co10 : Value).ownBlock) (.slice (some ⟨go31, 0, none⟩) x6_2.length co31) y440 := (by rw [hw, Ny440.out]; exact HP33.1); clear HP33; have n0_ := Aside0.mk (hp_); have n1_ := Aside0.mk (Kd.R_after (v := (.slice (some ⟨go31, 0, none⟩) x6_2.length co31)) (v1 := (.slice (some ⟨go31, 0, none⟩) x6_2.length co31)) (ok := (fun k_ => some k_ ≠ (.slice (some ad430) t427.length co10 : Value).ownBlock)) (by (with_reducible repeat (first | apply Kd.R_alloc | apply Kd.R_drewN | apply Kd.R_drew)); exact Kd.R_mono HO_11.out (fun _ hk => ⟨hk.2, hk.1⟩)) hg (.inl rfl)); have n2_ := Aside0.mk (Kd.R_after (v := (.slice (some ⟨go31, 0, none⟩) x6_2.length co31)) (v1 := (.slice (some ⟨go31, 0, none⟩) x6_2.length co31)) (ok := (fun k_ => some k_ ≠ (.slice (some ad438) y435.length co32 : Value).ownBlock)) (by (with_reducible repeat (first | apply Kd.R_alloc | apply Kd.R_drewN | apply Kd.R_drew)); exact Kd.R_mono HO_21.out (fun _ hk => ⟨hk.2, hk.1⟩)) hg (.inl rfl)); have n3_ := Aside0.mk ((by rw [hw]; exact below_set (HB.out) GB31.out : Below w.heap.size w w34)); clear HO_6; clear HO_11; clear HO_21; clear HB; have HO_6 := n0_; have HO_11 := n1_; have HO_21 := n2_; have HB := n3_; clear n0_ n1_ n2_ n3_; clear hg hw hp_)))
                                      go_roundg k2
                                      case measure => have := HK1.out; have := HK2.out; omega
                                      case rel => exact ⟨(y440), (wrap64 (x50_2 + 1)), (by first | rfl | (simp; done) | (simp [*]; done)), H', ⟨by have := HK1.out; have := HK2.out; omega⟩, ⟨by (with_reducible repeat (first | apply Kd.R_alloc | apply Kd.R_drewN | apply Kd.R_drew)); exact HO_6.out⟩, ⟨by (with_reducible repeat (first | apply Kd.R_alloc | apply Kd.R_drewN | apply Kd.R_drew)); exact Kd.R_mono HO_11.out (fun _ hk => ⟨hk.2, hk.1⟩)⟩, ⟨by (with_reducible repeat (first | apply Kd.R_alloc | apply Kd.R_drewN | apply Kd.R_drew)); exact Kd.R_mono HO_21.out (fun _ hk => ⟨hk.2, hk.1⟩)⟩, ⟨by repeat (first | (with_reducible first | exact HB.out | apply below_alloc | apply pw_below_drewN | apply below_drew1) | exact HB.out)⟩⟩
                                    · rw [if_neg c30] at H
                                      exact absurd H (by simp)
                                  · rw [if_neg c29] at H
                                    exact absurd H (by simp)
                                · rw [if_neg c28] at H
                                  have c28b0 : ((Go.bits .and .i64 (ji27) 1) == 1) = false := beq_eq_false_iff_ne.mpr c28
                                  have c28b1 : ((Go.bits .and .i64 (ji27) 1) != 1) = true := bne_iff_ne.mpr c28
                                  by_cases c35 : 0 ≤ (rd y435 x50_2)
                                  · rw [if_pos c35] at H
                                    have c35b0 : decide (0 ≤ (rd y435 x50_2)) = true := decide_eq_true c35
                                    clear c35
                                    by_cases c36 : (rd y435 x50_2) < (x6_2.length : Int)
                                    · rw [if_pos c36] at H
                                      have c36b0 : decide ((rd y435 x50_2) < (x6_2.length : Int)) = true := decide_eq_true c36
                                      clear c36
                                      obtain ⟨y441, hy441⟩ : ∃ y_ : List Int, y_ = (x6_2.set ((rd y435 x50_2) : Int).toNat (rd y435 (ji22))) := ⟨_, rfl⟩
                                      replace H : (impl_crossingMap.l1 k2 l0 a1 (l0.length : Int) y441 (rd t427 x23_1) y435 t427 (t427.length : Int) x23_1 (wrap64 (x50_2 + 1))) = some r := by first | (rw [hy441]; with_reducible exact H) | (have H2_ := (Option.bind_some _ _).symm.trans H; rw [hy441]; with_reducible exact H2_) | (have H2_ := (Option.bind_some _ _).symm.trans H; with_reducible exact H2_) | with_reducible exact H | (rw [hy441]; exact H) | exact H
                                      have Ny441 := Aside0.mk hy441
                                      clear hy441
                                      have H' := Aside0.mk H
                                      clear H
                                      obtain ⟨Ao38, co38, eo38⟩ := Kd.R_slice HO_11.out
                                      subst eo38
                                      have p438 : 0 ≤ (x50_2 : Int) := of_decide_eq_true (by first | (with_reducible assumption) | assumption)
                                      have q438 : x50_2 < (y435.length : Int) := of_decide_eq_true (by first | (with_reducible assumption) | assumption)
                                      obtain ⟨ad438, e438, hx438_0⟩ := Kd.at_int (Kd.R_reads' HO_11.out).2.2 x50_2 p438 q438
                                      cases e438
                                      replace p438 := eq_true p438
                                      replace q438 := eq_true q438
                                      have p439 : 0 ≤ ((ji22) : Int) := of_decide_eq_true (by first | (with_reducible assumption) | assumption)
                                      have q439 : (ji22) < (y435.length : Int) := of_decide_eq_true (by first | (with_reducible assumption) | assumption)
                                      obtain ⟨ad439, e439, hx439_0⟩ := Kd.at_int (Kd.R_reads' HO_11.out).2.2 (ji22) p439 q439
                                      obtain rfl : ad438 = ad439 := (by injection e439)
                                      replace p439 := eq_true p439
                                      replace q439 := eq_true q439
                                      have p37 : 0 ≤ ((rd y435 x50_2) : Int) := of_decide_eq_true (by first | (with_reducible assumption) | assumption)
                                      have q37 : ((rd y435 x50_2) : Int) < ((x6_2.length : Int) : Int) := of_decide_eq_true (by first | (with_reducible assumption) | assumption)
                                      obtain ⟨go37, co37, eo37, gb37, gl37, cl37, HG37⟩ := Kd.R_form HO_6.out (by omega)
                                      (first | cases eo37 | (injection eo37 with ea_ en_ ec_; (first | subst ea_ | (injection ea_ with ea_; subst ea_)); subst ec_; clear en_))
                                      have GB37 := Aside0.mk gb37
                                      have GG37 := Aside0.mk HG37
                                      clear gb37 gl37 HG37
                                      obtain ⟨hx37_0, hf37_0⟩ := Kd.R_celln 0 HO_6.out ((rd y435 x50_2) : Int) p37 q37
                                      replace p37 := eq_true p37
                                      replace q37 := eq_true q37
                                      have HP39 := Kd.R_putg HO_6.out ((rd y435 x50_2) : Int) (rd y435 (ji22))
                                      go_wp2_with (first | ((with_reducible refine gate_store (t := 3) (p := 74) rfl ?_); (try (rw [drewN_self wr]; generalize hq_ : World.drewN wr _ = wr; (try replace hx37_0 := cellq_ hq_ hx37_0); (try replace hx37_0 := frozq_ hq_ hx37_0); (try replace hf37_0 := frozq_ hq_ hf37_0); (try replace hx439_0 := cellq_ hq_ hx439_0); (try replace hx439_0 := frozq_ hq_ hx439_0); (try replace hx438_0 := cellq_ hq_ hx438_0); (try replace hx438_0 := frozq_ hq_ hx438_0); (try replace hx430_0 := cellq_ hq_ hx430_0); (try replace hx430_0 := frozq_ hq_ hx430_0); have n0_ := Aside0.mk (Kd.R_at hq_ HO_6.out); have n1_ := Aside0.mk (Kd.R_at hq_ HO_11.out); have n2_ := Aside0.mk (Kd.R_at hq_ HO_21.out); have n3_ := Aside0.mk (below_at hq_ HB.out); clear hq_ HO_6 HO_11 HO_21 HB; have HO_6 := n0_; have HO_11 := n1_; have HO_21 := n2_; have HB := n3_; clear n0_ n1_ n2_ n3_; (try (have HP39 := Kd.R_putg HO_6.out ((rd y435 x50_2) : Int) (rd y435 (ji22)))))); refine store_event (t := 3) (p := 74) (v := ?vo_w40) (w1 := (wr.setCell ⟨go37, ((rd y435 x50_2) : Int).toNat, none⟩ (.int .i64 (rd y435 (ji22))))) ?hg ?ho ?hn ?hr ?_; (case ho => rfl); (case hg => rfl); (case hn => rfl); (case hr => first | (go_simp; done) | (go_simp; rfl)); intro w40 hw; have hg : wr.grownBy w40 (some go37) := (by rw [hw]; exact HP39.2); have hp_ : Kd.R (Kd.int .i64) 3 w40 w.heap.size (fun k_ => some k_ ≠ (.slice (some ad438) y435.length co38 : Value).ownBlock ∧ some k_ ≠ (.slice (some ad430) t427.length co10 : Value).ownBlock) (.slice (some ⟨go37, 0, none⟩) x6_2.length co37) y441 := (by rw [hw, Ny441.out]; exact HP39.1); clear HP39; have n0_ := Aside0.mk (hp_); have n1_ := Aside0.mk (Kd.R_after (v := (.slice (some ⟨go37, 0, none⟩) x6_2.length co37)) (v1 := (.slice (some ⟨go37, 0, none⟩) x6_2.length co37)) (ok := (fun k_ => some k_ ≠ (.slice (some ad430) t427.length co10 : Value).ownBlock)) (by (with_reducible repeat (first | apply Kd.R_alloc | apply Kd.R_drewN | apply Kd.R_drew)); exact Kd.R_mono HO_11.out (fun _ hk => ⟨hk.2, hk.1⟩)) hg (.inl rfl)); have n2_ := Aside0.mk (Kd.R_after (v := (.slice (some ⟨go37, 0, none⟩) x6_2.length co37)) (v1 := (.slice (some ⟨go37, 0, none⟩) x6_2.length co37)) (ok := (fun k_ => some k_ ≠ (.slice (some ad438) y435.length co38 : Value).ownBlock)) (by (with_reducible repeat (first | apply Kd.R_alloc | apply Kd.R_drewN | apply Kd.R_drew)); exact Kd.R_mono HO_21.out (fun _ hk => ⟨hk.2, hk.1⟩)) hg (.inl rfl)); have n3_ := Aside0.mk ((by rw [hw]; exact below_set (HB.out) GB37.out : Below w.heap.size w w40)); clear HO_6; clear HO_11; clear HO_21; clear HB; have HO_6 := n0_; have HO_11 := n1_; have HO_21 := n2_; have HB := n3_; clear n0_ n1_ n2_ n3_; clear hg hw hp_))
                                      repeat (go_quiet (first | ((with_reducible refine gate_store (t := 3) (p := 74) rfl ?_); (try (rw [drewN_self wr]; generalize hq_ : World.drewN wr _ = wr; (try replace hx37_0 := cellq_ hq_ hx37_0); (try replace hx37_0 := frozq_ hq_ hx37_0); (try replace hf37_0 := frozq_ hq_ hf37_0); (try replace hx439_0 := cellq_ hq_ hx439_0); (try replace hx439_0 := frozq_ hq_ hx439_0); (try replace hx438_0 := cellq_ hq_ hx438_0); (try replace hx438_0 := frozq_ hq_ hx438_0); (try replace hx430_0 := cellq_ hq_ hx430_0); (try replace hx430_0 := frozq_ hq_ hx430_0); have n0_ := Aside0.mk (Kd.R_at hq_ HO_6.out); have n1_ := Aside0.mk (Kd.R_at hq_ HO_11.out); have n2_ := Aside0.mk (Kd.R_at hq_ HO_21.out); have n3_ := Aside0.mk (below_at hq_ HB.out); clear hq_ HO_6 HO_11 HO_21 HB; have HO_6 := n0_; have HO_11 := n1_; have HO_21 := n2_; have HB := n3_; clear n0_ n1_ n2_ n3_; (try (have HP39 := Kd.R_putg HO_6.out ((rd y435 x50_2) : Int) (rd y435 (ji22)))))); refine store_event (t := 3) (p := 74) (v := ?vo_w40) (w1 := (wr.setCell ⟨go37, ((rd y435 x50_2) : Int).toNat, none⟩ (.int .i64 (rd y435 (ji22))))) ?hg ?ho ?hn ?hr ?_; (case ho => rfl); (case hg => rfl); (case hn => rfl); (case hr => first | (go_simp; done) | (go_simp; rfl)); intro w40 hw; have hg : wr.grownBy w40 (some go37) := (by rw [hw]; exact HP39.2); have hp_ : Kd.R (Kd.int .i64) 3 w40 w.heap.size (fun k_ => some k_ ≠ (.slice (some ad438) y435.length co38 : Value).ownBlock ∧ some k_ ≠ (.slice (some ad430) t427.length co10 : Value).ownBlock) (.slice (some ⟨go37, 0, none⟩) x6_2.length co37) y441 := (by rw [hw, Ny441.out]; exact HP39.1); clear HP39; have n0_ := Aside0.mk (hp_); have n1_ := Aside0.mk (Kd.R_after (v := (.slice (some ⟨go37, 0, none⟩) x6_2.length co37)) (v1 := (.slice (some ⟨go37, 0, none⟩) x6_2.length co37)) (ok := (fun k_ => some k_ ≠ (.slice (some ad430) t427.length co10 : Value).ownBlock)) (by (with_reducible repeat (first | apply Kd.R_alloc | apply Kd.R_drewN | apply Kd.R_drew)); exact Kd.R_mono HO_11.out (fun _ hk => ⟨hk.2, hk.1⟩)) hg (.inl rfl)); have n2_ := Aside0.mk (Kd.R_after (v := (.slice (some ⟨go37, 0, none⟩) x6_2.length co37)) (v1 := (.slice (some ⟨go37, 0, none⟩) x6_2.length co37)) (ok := (fun k_ => some k_ ≠ (.slice (some ad438) y435.length co38 : Value).ownBlock)) (by (with_reducible repeat (first | apply Kd.R_alloc | apply Kd.R_drewN | apply Kd.R_drew)); exact Kd.R_mono HO_21.out (fun _ hk => ⟨hk.2, hk.1⟩)) hg (.inl rfl)); have n3_ := Aside0.mk ((by rw [hw]; exact below_set (HB.out) GB37.out : Below w.heap.size w w40)); clear HO_6; clear HO_11; clear HO_21; clear HB; have HO_6 := n0_; have HO_11 := n1_; have HO_21 := n2_; have HB := n3_; clear n0_ n1_ n2_ n3_; clear hg hw hp_)); try go_wp2_with (first | ((with_reducible refine gate_store (t := 3) (p := 74) rfl ?_); (try (rw [drewN_self wr]; generalize hq_ : World.drewN wr _ = wr; (try replace hx37_0 := cellq_ hq_ hx37_0); (try replace hx37_0 := frozq_ hq_ hx37_0); (try replace hf37_0 := frozq_ hq_ hf37_0); (try replace hx439_0 := cellq_ hq_ hx439_0); (try replace hx439_0 := frozq_ hq_ hx439_0); (try replace hx438_0 := cellq_ hq_ hx438_0); (try replace hx438_0 := frozq_ hq_ hx438_0); (try replace hx430_0 := cellq_ hq_ hx430_0); (try replace hx430_0 := frozq_ hq_ hx430_0); have n0_ := Aside0.mk (Kd.R_at hq_ HO_6.out); have n1_ := Aside0.mk (Kd.R_at hq_ HO_11.out); have n2_ := Aside0.mk (Kd.R_at hq_ HO_21.out); have n3_ := Aside0.mk (below_at hq_ HB.out); clear hq_ HO_6 HO_11 HO_21 HB; have HO_6 := n0_; have HO_11 := n1_; have HO_21 := n2_; have HB := n3_; clear n0_ n1_ n2_ n3_; (try (have HP39 := Kd.R_putg HO_6.out ((rd y435 x50_2) : Int) (rd y435 (ji22)))))); refine store_event (t := 3) (p := 74) (v := ?vo_w40) (w1 := (wr.setCell ⟨go37, ((rd y435 x50_2) : Int).toNat, none⟩ (.int .i64 (rd y435 (ji22))))) ?hg ?ho ?hn ?hr ?_; (case ho => rfl); (case hg => rfl); (case hn => rfl); (case hr => first | (go_simp; done) | (go_simp; rfl)); intro w40 hw; have hg : wr.grownBy w40 (some go37) := (by rw [hw]; exact HP39.2); have hp_ : Kd.R (Kd.int .i64) 3 w40 w.heap.size (fun k_ => some k_ ≠ (.slice (some ad438) y435.length co38 : Value).ownBlock ∧ some k_ ≠ (.slice (some ad430) t427.length co10 : Value).ownBlock) (.slice (some ⟨go37, 0, none⟩) x6_2.length co37) y441 := (by rw [hw, Ny441.out]; exact HP39.1); clear HP39; have n0_ := Aside0.mk (hp_); have n1_ := Aside0.mk (Kd.R_after (v := (.slice (some ⟨go37, 0, none⟩) x6_2.length co37)) (v1 := (.slice (some ⟨go37, 0, none⟩) x6_2.length co37)) (ok := (fun k_ => some k_ ≠ (.slice (some ad430) t427.length co10 : Value).ownBlock)) (by (with_reducible repeat (first | apply Kd.R_alloc | apply Kd.R_drewN | apply Kd.R_drew)); exact Kd.R_mono HO_11.out (fun _ hk => ⟨hk.2, hk.1⟩)) hg (.inl rfl)); have n2_ := Aside0.mk (Kd.R_after (v := (.slice (some ⟨go37, 0, none⟩) x6_2.length co37)) (v1 := (.slice (some ⟨go37, 0, none⟩) x6_2.length co37)) (ok := (fun k_ => some k_ ≠ (.slice (some ad438) y435.length co38 : Value).ownBlock)) (by (with_reducible repeat (first | apply Kd.R_alloc | apply Kd.R_drewN | apply Kd.R_drew)); exact Kd.R_mono HO_21.out (fun _ hk => ⟨hk.2, hk.1⟩)) hg (.inl rfl)); have n3_ := Aside0.mk ((by rw [hw]; exact below_set (HB.out) GB37.out : Below w.heap.size w w40)); clear HO_6; clear HO_11; clear HO_21; clear HB; have HO_6 := n0_; have HO_11 := n1_; have HO_21 := n2_; have HB := n3_; clear n0_ n1_ n2_ n3_; clear hg hw hp_)))
                                      go_roundg k2
                                      case measure => have := HK1.out; have := HK2.out; omega
                                      case rel => exact ⟨(y441), (wrap64 (x50_2 + 1)), (by first | rfl | (simp; done) | (simp [*]; done)), H', ⟨by have := HK1.out; have := HK2.out; omega⟩, ⟨by (with_reducible repeat (first | apply Kd.R_alloc | apply Kd.R_drewN | apply Kd.R_drew)); exact HO_6.out⟩, ⟨by (with_reducible repeat (first | apply Kd.R_alloc | apply Kd.R_drewN | apply Kd.R_drew)); exact Kd.R_mono HO_11.out (fun _ hk => ⟨hk.2, hk.1⟩)⟩, ⟨by (with_reducible repeat (first | apply Kd.R_alloc | apply Kd.R_drewN | apply Kd.R_drew)); exact Kd.R_mono HO_21.out (fun _ hk => ⟨hk.2, hk.1⟩)⟩, ⟨by repeat (first | (with_reducible first | exact HB.out | apply below_alloc | apply pw_below_drewN | apply below_drew1) | exact HB.out)⟩⟩
                                    · rw [if_neg c36] at H
                                      exact absurd H (by simp)
                                  · rw [if_neg c35] at H
                                    exact absurd H (by simp)
                              · rw [if_neg c26] at H
                                exact absurd H (by simp)
                            · rw [if_neg c24] at H
                              exact absurd H (by simp)
                          · rw [if_neg c23] at H
                            exact absurd H (by simp)
                        · rw [if_neg c21] at H
                          exact absurd H (by simp)
                      · rw [if_neg c20] at H
                        exact absurd H (by simp)
                    · rw [if_neg c19] at H
                      have c19b0 : decide (x50_2 < 4) = false := decide_eq_false c19
                      clear c19
                      have H' := Aside0.mk H
                      clear H
                      go_wp2
                      repeat (go_quiet (fail); try go_wp2)
                      go_roundg k2
                      case measure => have := HK1.out; have := HK2.out; omega
                      case rel => exact ⟨(x6_2), (wrap64 (x23_1 + 1)), (by first | rfl | (simp; done) | (simp [*]; done)), H', ⟨by have := HK1.out; have := HK2.out; omega⟩, ⟨by (with_reducible repeat (first | apply Kd.R_alloc | apply Kd.R_drewN | apply Kd.R_drew)); exact Kd.R_mono HO_6.out (fun _ hk => hk.2)⟩, ⟨by (with_reducible repeat (first | apply Kd.R_alloc | apply Kd.R_drewN | apply Kd.R_drew)); exact Kd.R_mono HO_21.out (fun _ hk => hk.1)⟩, ⟨by repeat (first | (with_reducible first | exact HB.out | apply below_alloc | apply pw_below_drewN | apply below_drew1) | exact HB.out)⟩⟩
              · rw [if_neg c13] at H
                exact absurd H (by simp)
            · rw [if_neg c12] at H
              exact absurd H (by simp)
          · rw [if_neg c11] at H
            have c11b0 : decide (x23_1 < (t427.length : Int)) = false := decide_eq_false c11
            clear c11
            obtain rfl := Option.some.inj H
            go_wp2
            repeat (go_quiet (fail); try go_wp2)
            go_ret
            exact ⟨_, by first | rfl | (simp [errW_none, errW_some] <;> rfl) | (simp only [← hji3]; first | rfl | (simp [errW_none, errW_some] <;> rfl)) | (simp [*, errW_none, errW_some] <;> rfl), by (with_reducible repeat (first | apply Kd.R_alloc | apply Kd.R_drewN | apply Kd.R_drew)); exact Kd.R_mono HO_6.out (fun _ hk => trivial), by repeat (first | (with_reducible first | exact HB.out | apply below_alloc | apply pw_below_drewN | apply below_drew1) | exact HB.out)⟩
    · rw [if_neg c5] at H
      exact absurd H (by simp)
  · rw [if_neg c4] at H
    exact absurd H (by simp)

end Go.Proofs.Ytfcdomcnkeeffaa.P
