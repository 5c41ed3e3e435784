-- By this session's driver (wip/tools/mk.py) of the kit's print program, over several statements at once. Not trusted: Lean checks it.
import Derived.Test.YtjmgbaphlhimhaaQPx0
import Derived.Test.YtjmgbaphlhimhaaQPx15
import Derived.Test.YtjmgbaphlhimhaaQPx16
import Derived.Test.YtjmgbaphlhimhaaQPx19
namespace Go.Proofs.Ytjmgbaphlhimhaa.P
open Go.RowKit Go.Proofs.YtjmgbaphlhimhaaW.PrintWords Go.Proofs.YtjmgbaphlhimhaaW.PrintLast Go.Proofs.YtjmgbaphlhimhaaW.PrintMore
attribute [local go_sem] max2_int min2_int max_two min_two max_three min_three max_four min_four   -- for this text's walks alone
set_option linter.unusedVariables false
set_option linter.unusedSimpArgs false
open Bool renaming true → T, false → F
theorem bw_20 {n : Nat} {v v' : World} (h : Below n v v' := by repeat (first | (with_reducible first | exact HB.out | apply bwA | apply pbN | apply bwD | refine bwS ?_ GE289.out | refine bwS ?_ GE302.out) | exact HB.out)) : Below n v v' := h
theorem ln_20 {P : Prop} (h : P := by (try simp only [List.map_toArray, List.map_cons, List.map_nil]); first | done | rfl | (simp only [List.length_drop, List.length_take]; rfl)) : P := h

/-! ### impl_SlopeOfCurve: function 10 -/
def impl_SlopeOfCurve.f (k : Nat) (l0 : List Int) : Option (Int × Int × Int × Bool) := (impl_torus.f).bind fun t290 => ((impl_PlainCurve.f k t290 l0).bind fun bt293 => (if bt293.2 = true then (if 0 < (bt293.1.length : Int) then (if 1 < (bt293.1.length : Int) then ((impl_gcd.f k (rd bt293.1 0) (rd bt293.1 1)).bind fun t299 => (if t299 = 0 then (some (0, 0, 0, true)) else (if (wrap64 (Int.tdiv (rd bt293.1 1) t299)) > 0 then (if 2 < (bt293.1.length : Int) then (if (rd bt293.1 2) = (wrap64 ((rd bt293.1 0) + (rd bt293.1 1))) then (some (wrap64 (-(wrap64 (Int.tdiv (rd bt293.1 0) t299))), wrap64 (Int.tdiv (rd bt293.1 1) t299), t299, true)) else (some (wrap64 (Int.tdiv (rd bt293.1 0) t299), wrap64 (Int.tdiv (rd bt293.1 1) t299), t299, true))) else (none)) else (some (wrap64 (Int.tdiv (rd bt293.1 0) t299), wrap64 (Int.tdiv (rd bt293.1 1) t299), t299, true))))) else (none)) else (none)) else (some (0, 0, 0, false))))
theorem impl_SlopeOfCurve.mono : ∀ a0 k, LeO (impl_SlopeOfCurve.f k a0) (impl_SlopeOfCurve.f (k + 1) a0) := by
 intro a0 k
 unfold impl_SlopeOfCurve.f
 repeat' first
   | (with_reducible exact impl_PlainCurve.mono _ _ _)
   | (with_reducible exact impl_gcd.mono _ _ _)
   | (with_reducible exact LeO.refl _)
   | (with_reducible exact LeO.none _)
   | (with_reducible refine LeO.ite ?_ ?_)
   | (with_reducible refine LeO.bind ?_ (fun _ => ?_))
   | exact impl_PlainCurve.mono _ _ _
   | exact impl_gcd.mono _ _ _
   | exact LeO.none _
   | refine LeO.ite ?_ ?_
   | refine LeO.bind ?_ (fun _ => ?_)
def impl_SlopeOfCurve.T4 : Bool × List (List Nat × List Nat) := (true, [([], []), ([0], [0]), ([1], [1]), ([], []), ([3], [3]), ([4], [4]), ([2, 5], [2, 5]), ([6, 6, 0, 1, 2, 3, 4, 5, 6], [6])])
def impl_SlopeOfCurve.B4 : List Nat := [0, 1, 3, 0, 8, 24, 63, 127]
theorem impl_SlopeOfCurve.tab4 : rtab .any (opsOf Try.f10 4) = impl_SlopeOfCurve.T4 := by kernel_rfl
theorem impl_SlopeOfCurve.bits4 : waitsOk impl_SlopeOfCurve.T4.2 impl_SlopeOfCurve.B4 = true := by kernel_rfl
def impl_SlopeOfCurve.T7 : Bool × List (List Nat × List Nat) := (true, [([], []), ([0], [0]), ([1], [1]), ([], []), ([2, 3], [2, 3]), ([], []), ([5], [5]), ([6], [6]), ([], []), ([7, 8], [7, 8]), ([4, 9], [4, 9]), ([], []), ([11, 10, 0, 1, 2, 3, 4, 5, 6, 7, 8, 9, 10, 11], [10, 11])])
def impl_SlopeOfCurve.B7 : List Nat := [0, 1, 3, 0, 15, 0, 32, 96, 0, 480, 1023, 0, 4095]
theorem impl_SlopeOfCurve.tab7 : rtab .any (opsOf Try.f10 7) = impl_SlopeOfCurve.T7 := by kernel_rfl
theorem impl_SlopeOfCurve.bits7 : waitsOk impl_SlopeOfCurve.T7.2 impl_SlopeOfCurve.B7 = true := by kernel_rfl
def impl_SlopeOfCurve.T8 : Bool × List (List Nat × List Nat) := (true, [([], []), ([0], [0]), ([1], [1]), ([2], [2]), ([3], [3]), ([4, 3], [3, 4]), ([5, 3], [3, 5]), ([3], [3]), ([7, 3], [3, 7]), ([8, 3], [3, 8]), ([3], [3]), ([10, 3], [3, 10]), ([11, 3], [3, 11]), ([9, 12, 3], [3, 9, 12]), ([6, 13, 3], [3, 6, 13]), ([3, 14], [3, 14])])
def impl_SlopeOfCurve.B8 : List Nat := [0, 1, 3, 7, 15, 31, 63, 15, 143, 399, 15, 1039, 3087, 8079, 16383, 32767]
theorem impl_SlopeOfCurve.tab8 : rtab .any (opsOf Try.f10 8) = impl_SlopeOfCurve.T8 := by kernel_rfl
theorem impl_SlopeOfCurve.bits8 : waitsOk impl_SlopeOfCurve.T8.2 impl_SlopeOfCurve.B8 = true := by kernel_rfl
set_option maxHeartbeats 8000000 in
set_option maxRecDepth 100000 in
theorem impl_SlopeOfCurve.calls (k : Nat) (A0 : Option Addr) (c0 : Nat) (l0 : List Int) (r1 : Int) (r2 : Int) (r3 : Int) (r4 : Bool) (w : World) (hr0 : Kd.C (Kd.int .i64) w A0 l0.length l0) (hc0 : l0.length ≤ c0) (h : impl_SlopeOfCurve.f k l0 = some (r1, r2, r3, r4)) :
  Calls Try.prog 10 #[.slice A0 l0.length c0] w fun e w' => e = .returned (.tuple #[.agg #[.int .i64 r1, .int .i64 r2], .int .i64 r3, .bool r4]) ∧ Below w.heap.size w w' := by
 have hu24 := Try.underlying24
 have HR0 := Az.mk hr0
 have HC0 := Az.mk hc0
 clear hr0 hc0
 have HB := Az.mk (Below.refl w.heap.size w)
 have H : ((impl_torus.f).bind fun t290 => ((impl_PlainCurve.f k t290 l0).bind fun bt293 => (if bt293.2 = true then (if 0 < (bt293.1.length : Int) then (if 1 < (bt293.1.length : Int) then ((impl_gcd.f k (rd bt293.1 0) (rd bt293.1 1)).bind fun t299 => (if t299 = 0 then (some (0, 0, 0, true)) else (if (wrap64 (Int.tdiv (rd bt293.1 1) t299)) > 0 then (if 2 < (bt293.1.length : Int) then (if (rd bt293.1 2) = (wrap64 ((rd bt293.1 0) + (rd bt293.1 1))) then (some (wrap64 (-(wrap64 (Int.tdiv (rd bt293.1 0) t299))), wrap64 (Int.tdiv (rd bt293.1 1) t299), t299, true)) else (some (wrap64 (Int.tdiv (rd bt293.1 0) t299), wrap64 (Int.tdiv (rd bt293.1 1) t299), t299, true))) else (none)) else (some (wrap64 (Int.tdiv (rd bt293.1 0) t299), wrap64 (Int.tdiv (rd bt293.1 1) t299), t299, true))))) else (none)) else (none)) else (some (0, 0, 0, false))))) = some (r1, r2, r3, r4) := h
 clear h
 replace H := Option.bind_eq_some_iff.mp H
 obtain ⟨t290, A20, H⟩ := H
 try dsimp only at H
 have A2 := Az.mk A20
 clear A20
 replace H := Option.bind_eq_some_iff.mp H
 obtain ⟨⟨t293, t294⟩, A30, H⟩ := H
 try dsimp only at H
 have A3 := Az.mk A30
 clear A30
 by_cases c4 : t294 = true
 rotate_left
 ·replace c4 := Bool.eq_false_iff.mpr c4
  subst c4
  have H1 : (some (0, 0, 0, false)) = some (r1, r2, r3, r4) := by rw [if_neg (show ¬ (false = true) by decide)] at H; exact H
  clear H
  have H := H1
  clear H1
  simp only [Option.some.injEq, Prod.mk.injEq] at H
  obtain ⟨rfl, rfl, rfl, rfl⟩ := H
  go_enter Try.func10, Try.ntmps10
  go_wp2_with (first | ((with_reducible refine gtD (N := 2) rfl ?_); refine bxE ?hg (N := 2) ?hd (cs := #[.int .i64 0, .int .i64 0]) (t := 24) ?hr ?_; (case hd => rfl); (case hg => rfl); (case hr => first | (go_simp; done) | (go_simp; rfl)); intro gb289 hg w68 hbox hb; have n0_ := Az.mk (bwT bw_20 hb); have n1_ := Az.mk (hbox); have n2_ := Az.mk ((by rw [hg]; exact (bwZ bw_20) : w.heap.size ≤ gb289)); have n3_ := n2_; clear HB; have HB := n0_; have BK289 := n1_; have GW289 := n2_; have GE289 := n3_; clear n0_ n1_ n2_ n3_; clear hb hbox hg) | ((with_reducible refine gtC (f := 40) rfl ?_); refine goesL_ (some 10) rfl rfl Try.func40 (by kernel_rfl) rfl #[] rfl ln_20 ?_; (with_reducible refine (impl_torus.calls  t290 _ A2.out).mono ?_); rintro e w69 ⟨v291, rfl, ho0, hb⟩; refine ⟨_, rfl, ?_⟩; have n0_ := Az.mk (Kd.N_lower (Kd.N_mono (ok' := fun k_ => k_ ≠ gb289) ho0 (fun k_ hk_ => (Kd.freshB (g := gb289) (o := .cells #[.int .i64 0, .int .i64 0] 24 (0, 0)) (by (with_reducible repeat (first | refine bkN ?_ _ | refine bkD ?_ | refine bkA ?_ _)); exact BK289.out) k_ hk_))) (bwZ bw_20)); have n1_ := Az.mk (bkB (g := gb289) (o := .cells #[.int .i64 0, .int .i64 0] 24 (0, 0)) (by (with_reducible repeat (first | refine bkN ?_ _ | refine bkD ?_ | refine bkA ?_ _)); exact BK289.out) hb); have n2_ := Az.mk (bwT bw_20 hb); clear BK289; clear HB; have HO292 := n0_; have BK289 := n1_; have HB := n2_; clear n0_ n1_ n2_; (try clear hb); (try clear hb2); (try clear hk); (try clear hi); (try clear ho0); obtain ⟨Ao70, co70, eo70⟩ := Kd.N_slice HO292.out; subst eo70) | ((with_reducible refine gtC (f := 27) rfl ?_); refine goesL_ (some 12) rfl rfl Try.func27 (by kernel_rfl) rfl #[.slice Ao70 t290.length co70, .slice A0 l0.length c0] rfl ln_20 ?_; (with_reducible refine (impl_PlainCurve.calls k _ _ t290 _ _ l0 t293 false _ ?side1 ?side2 ?side3 ?side4 A3.out).mono ?_); (case side1 => repeat (first | exact (Kd.N_reads' HO292.out).2.2 | (with_reducible refine Kd.C_alloc ?_ _) | (with_reducible refine Kd.C_drewN ?_ _) | (with_reducible refine Kd.C_drew ?_))); (case side2 => exact (Kd.N_reads' HO292.out).2.1); (case side3 => repeat (first | exact (Kd.C_below HR0.out HB.out) | (with_reducible refine Kd.C_alloc ?_ _) | (with_reducible refine Kd.C_drewN ?_ _) | (with_reducible refine Kd.C_drew ?_))); (case side4 => exact HC0.out); rintro e w71 ⟨v295, rfl, ho0, hb⟩; refine ⟨_, rfl, ?_⟩; have n0_ := Az.mk (Kd.N_elder' (by (with_reducible repeat (first | apply Kd.N_alloc | apply Kd.N_drewN | apply Kd.N_drew)); exact HO292.out) (Kd.R_base ho0) hb); have n1_ := Az.mk (Kd.R_lower ho0 (bwZ bw_20)); have n2_ := Az.mk (bkB (g := gb289) (o := .cells #[.int .i64 0, .int .i64 0] 24 (0, 0)) (by (with_reducible repeat (first | refine bkN ?_ _ | refine bkD ?_ | refine bkA ?_ _)); exact BK289.out) hb); have n3_ := Az.mk (bwT bw_20 hb); clear HO292; clear BK289; clear HB; have HO292 := n0_; have HO296 := n1_; have BK289 := n2_; have HB := n3_; clear n0_ n1_ n2_ n3_; (try clear hb); (try clear hb2); (try clear hk); (try clear hi); (try clear ho0); have hcz72_0 : w71.cell? ⟨gb289, 0, none⟩ = some (.int .i64 0) := (bkC BK289.out 0).trans rfl; have hcz72_1 : w71.cell? ⟨gb289, 1, none⟩ = some (.int .i64 0) := (bkC BK289.out 1).trans rfl; have hfz72_0 := bkF BK289.out 0; have hfz72_1 := bkF BK289.out 1))
  refine bodyPost_ret (results_ctt rfl _ _ gb289 24 #[.int .i64 0, .int .i64 0] (0, 0) _ rfl (by (with_reducible repeat (first | refine bkN ?_ _ | refine bkD ?_ | refine bkA ?_ _)); refine bkp (cs := #[.int .i64 0, .int .i64 0]) ?_ 1 _ rfl; (with_reducible repeat (first | refine bkN ?_ _ | refine bkD ?_ | refine bkA ?_ _)); refine bkp (cs := #[.int .i64 0, .int .i64 0]) ?_ 0 _ rfl; (with_reducible repeat (first | refine bkN ?_ _ | refine bkD ?_ | refine bkA ?_ _)); exact BK289.out) Try.underlying24 rfl (by kernel_rfl)) rfl ?_
  exact ⟨by first | rfl | (simp [eWn, eWs] <;> rfl) | (simp [*, eWn, eWs] <;> rfl), bw_20⟩
 subst c4
 have H1 : (if 0 < (t293.length : Int) then (if 1 < (t293.length : Int) then ((impl_gcd.f k (rd t293 0) (rd t293 1)).bind fun t299 => (if t299 = 0 then (some (0, 0, 0, true)) else (if (wrap64 (Int.tdiv (rd t293 1) t299)) > 0 then (if 2 < (t293.length : Int) then (if (rd t293 2) = (wrap64 ((rd t293 0) + (rd t293 1))) then (some (wrap64 (-(wrap64 (Int.tdiv (rd t293 0) t299))), wrap64 (Int.tdiv (rd t293 1) t299), t299, true)) else (some (wrap64 (Int.tdiv (rd t293 0) t299), wrap64 (Int.tdiv (rd t293 1) t299), t299, true))) else (none)) else (some (wrap64 (Int.tdiv (rd t293 0) t299), wrap64 (Int.tdiv (rd t293 1) t299), t299, true))))) else (none)) else (none)) = some (r1, r2, r3, r4) := by rw [if_pos rfl] at H; exact H
 clear H
 have H := H1
 clear H1
 by_cases c5 : 0 < (t293.length : Int)
 rotate_left
 ·rw [if_neg c5] at H
  exact absurd H (by simp)
 rw [if_pos c5] at H
 have c5b0 : decide (0 < (t293.length : Int)) = true := decide_eq_true c5
 have c5b1 : decide (0 < t293.length) = true := decide_eq_true (by omega)
 clear c5
 by_cases c6 : 1 < (t293.length : Int)
 rotate_left
 ·rw [if_neg c6] at H
  exact absurd H (by simp)
 rw [if_pos c6] at H
 have c6b0 : decide (1 < (t293.length : Int)) = true := decide_eq_true c6
 have c6b1 : decide (1 < t293.length) = true := decide_eq_true (by omega)
 clear c6
 replace H := Option.bind_eq_some_iff.mp H
 obtain ⟨t299, A70, H⟩ := H
 try dsimp only at H
 have A7 := Az.mk A70
 clear A70
 by_cases c8 : t299 = 0
 ·rw [if_pos c8] at H
  have c8b0 : (t299 == 0) = true := beq_iff_eq.mpr c8
  have c8b1 : (t299 != 0) = false := bne_eq_false_iff_eq.mpr c8
  clear c8
  simp only [Option.some.injEq, Prod.mk.injEq] at H
  obtain ⟨rfl, rfl, rfl, rfl⟩ := H
  go_enter Try.func10, Try.ntmps10
  try go_wp2_with (first | ((with_reducible refine gtD (N := 2) rfl ?_); refine bxE ?hg (N := 2) ?hd (cs := #[.int .i64 0, .int .i64 0]) (t := 24) ?hr ?_; (case hd => rfl); (case hg => rfl); (case hr => first | (go_simp; done) | (go_simp; rfl)); intro gb289 hg w9 hbox hb; have n0_ := Az.mk (bwT bw_20 hb); have n1_ := Az.mk (hbox); have n2_ := Az.mk ((by rw [hg]; exact (bwZ bw_20) : w.heap.size ≤ gb289)); have n3_ := n2_; clear HB; have HB := n0_; have BK289 := n1_; have GW289 := n2_; have GE289 := n3_; clear n0_ n1_ n2_ n3_; clear hb hbox hg) | ((with_reducible refine gtC (f := 40) rfl ?_); refine goesL_ (some 10) rfl rfl Try.func40 (by kernel_rfl) rfl #[] rfl ln_20 ?_; (with_reducible refine (impl_torus.calls  t290 _ A2.out).mono ?_); rintro e w10 ⟨v291, rfl, ho0, hb⟩; refine ⟨_, rfl, ?_⟩; have n0_ := Az.mk (Kd.N_lower (Kd.N_mono (ok' := fun k_ => k_ ≠ gb289) ho0 (fun k_ hk_ => (Kd.freshB (g := gb289) (o := .cells #[.int .i64 0, .int .i64 0] 24 (0, 0)) (by (with_reducible repeat (first | refine bkN ?_ _ | refine bkD ?_ | refine bkA ?_ _)); exact BK289.out) k_ hk_))) (bwZ bw_20)); have n1_ := Az.mk (bkB (g := gb289) (o := .cells #[.int .i64 0, .int .i64 0] 24 (0, 0)) (by (with_reducible repeat (first | refine bkN ?_ _ | refine bkD ?_ | refine bkA ?_ _)); exact BK289.out) hb); have n2_ := Az.mk (bwT bw_20 hb); clear BK289; clear HB; have HO292 := n0_; have BK289 := n1_; have HB := n2_; clear n0_ n1_ n2_; (try clear hb); (try clear hb2); (try clear hk); (try clear hi); (try clear ho0); obtain ⟨Ao11, co11, eo11⟩ := Kd.N_slice HO292.out; subst eo11) | ((with_reducible refine gtC (f := 27) rfl ?_); refine goesL_ (some 12) rfl rfl Try.func27 (by kernel_rfl) rfl #[.slice Ao11 t290.length co11, .slice A0 l0.length c0] rfl ln_20 ?_; (with_reducible refine (impl_PlainCurve.calls k _ _ t290 _ _ l0 t293 true _ ?side1 ?side2 ?side3 ?side4 A3.out).mono ?_); (case side1 => repeat (first | exact (Kd.N_reads' HO292.out).2.2 | (with_reducible refine Kd.C_alloc ?_ _) | (with_reducible refine Kd.C_drewN ?_ _) | (with_reducible refine Kd.C_drew ?_))); (case side2 => exact (Kd.N_reads' HO292.out).2.1); (case side3 => repeat (first | exact (Kd.C_below HR0.out HB.out) | (with_reducible refine Kd.C_alloc ?_ _) | (with_reducible refine Kd.C_drewN ?_ _) | (with_reducible refine Kd.C_drew ?_))); (case side4 => exact HC0.out); rintro e w12 ⟨v295, rfl, ho0, hb⟩; refine ⟨_, rfl, ?_⟩; have n0_ := Az.mk (Kd.N_elder' (by (with_reducible repeat (first | apply Kd.N_alloc | apply Kd.N_drewN | apply Kd.N_drew)); exact HO292.out) (Kd.R_base ho0) hb); have n1_ := Az.mk (Kd.R_lower ho0 (bwZ bw_20)); have n2_ := Az.mk (bkB (g := gb289) (o := .cells #[.int .i64 0, .int .i64 0] 24 (0, 0)) (by (with_reducible repeat (first | refine bkN ?_ _ | refine bkD ?_ | refine bkA ?_ _)); exact BK289.out) hb); have n3_ := Az.mk (bwT bw_20 hb); clear HO292; clear BK289; clear HB; have HO292 := n0_; have HO296 := n1_; have BK289 := n2_; have HB := n3_; clear n0_ n1_ n2_ n3_; (try clear hb); (try clear hb2); (try clear hk); (try clear hi); (try clear ho0)))
  have n0_ := Az.mk (Kd.N_drew HO292.out)
  have n1_ := Az.mk (Kd.R_drew HO296.out)
  have n2_ := Az.mk (bkD BK289.out)
  have n3_ := Az.mk (bwD HB.out)
  clear HO292
  clear HO296
  clear BK289
  clear HB
  have HO292 := n0_
  have HO296 := n1_
  have BK289 := n2_
  have HB := n3_
  clear n0_ n1_ n2_ n3_
  obtain ⟨Ao14, co14, eo14⟩ := Kd.R_slice HO296.out
  (first | subst eo14 | (injection eo14 with f1_ f2_ f3_; have f4_ := f1_.symm; have f5_ := f3_.symm; clear f1_ f2_ f3_; subst f4_; subst f5_))
  have p297 : 0 ≤ (0 : Int) := (by omega)
  have q297 : 0 < (t293.length : Int) := of_decide_eq_true (by first | (with_reducible assumption) | assumption)
  obtain ⟨ad297, e297, hx297_0⟩ := Kd.at_int (Kd.R_reads' HO296.out).2.2 0 p297 q297
  cases e297
  have qi297 : (0 < t293.length) = True := eq_true (by omega)
  (try rw [show ((0 : Int)).toNat = 0 from rfl] at hx297_0)
  (try rw [Addr.add_zero'] at hx297_0)
  replace p297 := eq_true p297
  replace q297 := eq_true q297
  have p298 : 0 ≤ (1 : Int) := (by omega)
  have q298 : 1 < (t293.length : Int) := of_decide_eq_true (by first | (with_reducible assumption) | assumption)
  obtain ⟨ad298, e298, hx298_0⟩ := Kd.at_int (Kd.R_reads' HO296.out).2.2 1 p298 q298
  obtain rfl : ad297 = ad298 := (by injection e298)
  (try simp only [show (1 : Int).toNat = 1 from rfl, Nat.reduceMul, Nat.reduceEqDiff, Go.Addr.add, ↓reduceIte] at hx298_0)
  have qi298 : (1 < t293.length) = True := eq_true (by omega)
  (try rw [show ((1 : Int)).toNat = 1 from rfl] at hx298_0)
  replace p298 := eq_true p298
  replace q298 := eq_true q298
  refine start_ (n := 8) (S := fun w' => w'.cell? ad297 = some (.int .i64 (rd t293 0)) ∧ w'.cell? ⟨ad297.block, ad297.off + 1, none⟩ = some (.int .i64 (rd t293 1))) (ds := []) #[F,F,F,F,F,F,F,F] (by kernel_rfl) rfl rfl ⟨hx297_0, hx298_0⟩ (fun hHeld => ?_); refine with_tabW impl_SlopeOfCurve.tab4 impl_SlopeOfCurve.bits4 (fun HT_ HW_ => ?_)
  generalize w12.drew = w13 at HO292 HO296 BK289 HB hx297_0 hx298_0 hHeld ⊢
  refine pure_ (i := 0) (N := some 18) (v := ?_) (a' := ?_) #[T,F,F,F,F,F,F,F] rfl rfl (any_of HT_.out (by kernel_rfl)) (fun _ _ _ h => h) (Or.inl ⟨by rfl, ?_⟩) ?_ ?_
  rotate_left
  ·intro w'
   go_simp
   with_reducible rfl
  rotate_left
  ·simp only [Act.put, List.setIfInBounds_toArray, List.set_cons_zero, List.set_cons_succ, i64_w, i32_w]
   rfl
  refine pure_ (i := 1) (N := some 19) (v := ?_) (a' := ?_) #[T,T,F,F,F,F,F,F] rfl rfl (any_of HT_.out (by kernel_rfl)) (fun _ _ _ h => h) (Or.inl ⟨by rfl, ?_⟩) ?_ ?_
  rotate_left
  ·intro w'
   go_simp
   with_reducible rfl
  rotate_left
  ·simp only [Act.put, List.setIfInBounds_toArray, List.set_cons_zero, List.set_cons_succ, i64_w, i32_w]
   rfl
  refine pure_ (i := 3) (N := some 21) (v := ?_) (a' := ?_) #[T,T,F,T,F,F,F,F] rfl rfl (any_of HT_.out (by kernel_rfl)) (fun _ _ _ h => h) (Or.inl ⟨by rfl, ?_⟩) ?_ ?_
  rotate_left
  ·intro w'
   go_simp
   with_reducible rfl
  rotate_left
  ·simp only [Act.put, List.setIfInBounds_toArray, List.set_cons_zero, List.set_cons_succ, i64_w, i32_w]
   rfl
  refine pure_ (i := 4) (N := some 22) (v := ?_) (a' := ?_) #[T,T,F,T,T,F,F,F] rfl rfl (any_of HT_.out (by kernel_rfl)) (fun _ _ _ h => h) (Or.inl ⟨by rfl, ?_⟩) ?_ ?_
  rotate_left
  ·intro w'
   go_simp
   with_reducible rfl
  rotate_left
  ·simp only [Act.put, List.setIfInBounds_toArray, List.set_cons_zero, List.set_cons_succ, i64_w, i32_w]
   rfl
  refine take_ (i := 2) (N := some 20) (v := ?_) (a' := ?_) #[T,T,T,T,T,F,F,F] rfl rfl (take_ofW HT_.out HW_.out (by kernel_rfl)) (fun _ _ _ h => h) (Or.inl ⟨by rfl, ?_⟩) hHeld ?_ ?_
  rotate_left
  ·rintro w' ⟨s0, s1⟩
   go_simp
   with_reducible rfl
  rotate_left
  ·simp only [Act.put, List.setIfInBounds_toArray, List.set_cons_zero, List.set_cons_succ, i64_w, i32_w]
   rfl
  refine take_ (i := 5) (N := some 23) (v := ?_) (a' := ?_) #[T,T,T,T,T,T,F,F] rfl rfl (take_ofW HT_.out HW_.out (by kernel_rfl)) (fun _ _ _ h => h) (Or.inl ⟨by rfl, ?_⟩) hHeld ?_ ?_
  rotate_left
  ·rintro w' ⟨s0, s1⟩
   go_simp
   with_reducible rfl
  rotate_left
  ·simp only [Act.put, List.setIfInBounds_toArray, List.set_cons_zero, List.set_cons_succ, i64_w, i32_w]
   rfl
  refine one_ (i := 6) (N := some 24) #[T,T,T,T,T,T,T,F] rfl rfl (one_of HT_.out (by kernel_rfl)) (by decide) (fun K hK => ?_)
  refine goes_ Try.func41 (by kernel_rfl) rfl #[.int .i64 (rd t293 0), .int .i64 (rd t293 1)] (by rfl) rfl rfl ln_20 ?_
  with_reducible refine (impl_gcd.calls k (rd t293 0) (rd t293 1) t299 _ A7.out).mono ?_
  rintro e w15 ⟨rfl, hb⟩
  have HS0_ := (hb.cell (World.block_lt_of_cell? _ _ (hHeld.1))).trans (hHeld.1)
  have HS1_ := (hb.cell (World.block_lt_of_cell? _ _ (hHeld.2))).trans (hHeld.2)
  refine ⟨_, rfl, ?_⟩
  have n0_ := Az.mk (Kd.N_below (by (with_reducible repeat (first | apply Kd.N_alloc | apply Kd.N_drewN | apply Kd.N_drew)); exact HO292.out) hb)
  have n1_ := Az.mk (Kd.R_below (by (with_reducible repeat (first | apply Kd.R_alloc | apply Kd.R_drewN | apply Kd.R_drew)); exact HO296.out) hb)
  have n2_ := Az.mk (bkB (g := gb289) (o := .cells #[.int .i64 0, .int .i64 0] 24 (0, 0)) (by (with_reducible repeat (first | refine bkN ?_ _ | refine bkD ?_ | refine bkA ?_ _)); exact BK289.out) hb)
  have n3_ := Az.mk (bwT bw_20 hb)
  clear HO292
  clear HO296
  clear BK289
  clear HB
  have HO292 := n0_
  have HO296 := n1_
  have BK289 := n2_
  have HB := n3_
  clear n0_ n1_ n2_ n3_
  (try clear hb)
  (try clear hb2)
  (try clear hk)
  (try clear hi)
  refine hK.out _ _ ⟨HS0_, HS1_⟩ (fun hHeld => ?_)
  clear hK K
  refine norm_ (a' := ?_) ?_ ?_
  rotate_left
  ·show Act.put _ (some 24) _ = _
   simp only [Act.put, List.setIfInBounds_toArray, List.set_cons_zero, List.set_cons_succ, i64_w, i32_w]
   rfl
  refine pure_ (i := 7) (N := some 7) (v := ?_) (a' := ?_) #[T,T,T,T,T,T,T,T] rfl rfl (any_of HT_.out (by kernel_rfl)) (fun _ _ _ h => h) (Or.inl ⟨by rfl, ?_⟩) ?_ ?_
  rotate_left
  ·intro w'
   go_simp
   with_reducible rfl
  rotate_left
  ·simp only [Act.put, List.setIfInBounds_toArray, List.set_cons_zero, List.set_cons_succ, i64_w, i32_w]
   rfl
  refine done_ (done_of HT_.out (by kernel_rfl)) ?_
  have hcz16_0 : w15.cell? ⟨gb289, 0, none⟩ = some (.int .i64 0) := (bkC BK289.out 0).trans rfl
  have hcz16_1 : w15.cell? ⟨gb289, 1, none⟩ = some (.int .i64 0) := (bkC BK289.out 1).trans rfl
  have hfz16_0 := bkF BK289.out 0
  have hfz16_1 := bkF BK289.out 1
  try go_wp2
  refine bodyPost_ret (results_ctt rfl _ _ gb289 24 #[.int .i64 0, .int .i64 0] (0, 0) _ rfl (by (with_reducible repeat (first | refine bkN ?_ _ | refine bkD ?_ | refine bkA ?_ _)); refine bkp (cs := #[.int .i64 0, .int .i64 0]) ?_ 1 _ rfl; (with_reducible repeat (first | refine bkN ?_ _ | refine bkD ?_ | refine bkA ?_ _)); refine bkp (cs := #[.int .i64 0, .int .i64 0]) ?_ 0 _ rfl; (with_reducible repeat (first | refine bkN ?_ _ | refine bkD ?_ | refine bkA ?_ _)); exact BK289.out) Try.underlying24 rfl (by kernel_rfl)) rfl ?_
  exact ⟨by first | rfl | (simp [eWn, eWs] <;> rfl) | (simp [*, eWn, eWs] <;> rfl), bw_20⟩
 rw [if_neg c8] at H
 have c8b0 : (t299 == 0) = false := beq_eq_false_iff_ne.mpr c8
 have c8b1 : (t299 != 0) = true := bne_iff_ne.mpr c8
 by_cases c17 : (wrap64 (Int.tdiv (rd t293 1) t299)) > 0
 rotate_left
 ·rw [if_neg c17] at H
  have c17b0 : decide (0 < (wrap64 (Int.tdiv (rd t293 1) t299))) = false := decide_eq_false c17
  clear c17
  simp only [Option.some.injEq, Prod.mk.injEq] at H
  obtain ⟨rfl, rfl, rfl, rfl⟩ := H
  go_enter Try.func10, Try.ntmps10
  try go_wp2_with (first | ((with_reducible refine gtD (N := 2) rfl ?_); refine bxE ?hg (N := 2) ?hd (cs := #[.int .i64 0, .int .i64 0]) (t := 24) ?hr ?_; (case hd => rfl); (case hg => rfl); (case hr => first | (go_simp; done) | (go_simp; rfl)); intro gb289 hg w52 hbox hb; have n0_ := Az.mk (bwT bw_20 hb); have n1_ := Az.mk (hbox); have n2_ := Az.mk ((by rw [hg]; exact (bwZ bw_20) : w.heap.size ≤ gb289)); have n3_ := n2_; clear HB; have HB := n0_; have BK289 := n1_; have GW289 := n2_; have GE289 := n3_; clear n0_ n1_ n2_ n3_; clear hb hbox hg) | ((with_reducible refine gtC (f := 40) rfl ?_); refine goesL_ (some 10) rfl rfl Try.func40 (by kernel_rfl) rfl #[] rfl ln_20 ?_; (with_reducible refine (impl_torus.calls  t290 _ A2.out).mono ?_); rintro e w53 ⟨v291, rfl, ho0, hb⟩; refine ⟨_, rfl, ?_⟩; have n0_ := Az.mk (Kd.N_lower (Kd.N_mono (ok' := fun k_ => k_ ≠ gb289) ho0 (fun k_ hk_ => (Kd.freshB (g := gb289) (o := .cells #[.int .i64 0, .int .i64 0] 24 (0, 0)) (by (with_reducible repeat (first | refine bkN ?_ _ | refine bkD ?_ | refine bkA ?_ _)); exact BK289.out) k_ hk_))) (bwZ bw_20)); have n1_ := Az.mk (bkB (g := gb289) (o := .cells #[.int .i64 0, .int .i64 0] 24 (0, 0)) (by (with_reducible repeat (first | refine bkN ?_ _ | refine bkD ?_ | refine bkA ?_ _)); exact BK289.out) hb); have n2_ := Az.mk (bwT bw_20 hb); clear BK289; clear HB; have HO292 := n0_; have BK289 := n1_; have HB := n2_; clear n0_ n1_ n2_; (try clear hb); (try clear hb2); (try clear hk); (try clear hi); (try clear ho0); obtain ⟨Ao54, co54, eo54⟩ := Kd.N_slice HO292.out; subst eo54) | ((with_reducible refine gtC (f := 27) rfl ?_); refine goesL_ (some 12) rfl rfl Try.func27 (by kernel_rfl) rfl #[.slice Ao54 t290.length co54, .slice A0 l0.length c0] rfl ln_20 ?_; (with_reducible refine (impl_PlainCurve.calls k _ _ t290 _ _ l0 t293 true _ ?side1 ?side2 ?side3 ?side4 A3.out).mono ?_); (case side1 => repeat (first | exact (Kd.N_reads' HO292.out).2.2 | (with_reducible refine Kd.C_alloc ?_ _) | (with_reducible refine Kd.C_drewN ?_ _) | (with_reducible refine Kd.C_drew ?_))); (case side2 => exact (Kd.N_reads' HO292.out).2.1); (case side3 => repeat (first | exact (Kd.C_below HR0.out HB.out) | (with_reducible refine Kd.C_alloc ?_ _) | (with_reducible refine Kd.C_drewN ?_ _) | (with_reducible refine Kd.C_drew ?_))); (case side4 => exact HC0.out); rintro e w55 ⟨v295, rfl, ho0, hb⟩; refine ⟨_, rfl, ?_⟩; have n0_ := Az.mk (Kd.N_elder' (by (with_reducible repeat (first | apply Kd.N_alloc | apply Kd.N_drewN | apply Kd.N_drew)); exact HO292.out) (Kd.R_base ho0) hb); have n1_ := Az.mk (Kd.R_lower ho0 (bwZ bw_20)); have n2_ := Az.mk (bkB (g := gb289) (o := .cells #[.int .i64 0, .int .i64 0] 24 (0, 0)) (by (with_reducible repeat (first | refine bkN ?_ _ | refine bkD ?_ | refine bkA ?_ _)); exact BK289.out) hb); have n3_ := Az.mk (bwT bw_20 hb); clear HO292; clear BK289; clear HB; have HO292 := n0_; have HO296 := n1_; have BK289 := n2_; have HB := n3_; clear n0_ n1_ n2_ n3_; (try clear hb); (try clear hb2); (try clear hk); (try clear hi); (try clear ho0)))
  have n0_ := Az.mk (Kd.N_drew HO292.out)
  have n1_ := Az.mk (Kd.R_drew HO296.out)
  have n2_ := Az.mk (bkD BK289.out)
  have n3_ := Az.mk (bwD HB.out)
  clear HO292
  clear HO296
  clear BK289
  clear HB
  have HO292 := n0_
  have HO296 := n1_
  have BK289 := n2_
  have HB := n3_
  clear n0_ n1_ n2_ n3_
  obtain ⟨Ao57, co57, eo57⟩ := Kd.R_slice HO296.out
  (first | subst eo57 | (injection eo57 with f1_ f2_ f3_; have f4_ := f1_.symm; have f5_ := f3_.symm; clear f1_ f2_ f3_; subst f4_; subst f5_))
  have p297 : 0 ≤ (0 : Int) := (by omega)
  have q297 : 0 < (t293.length : Int) := of_decide_eq_true (by first | (with_reducible assumption) | assumption)
  obtain ⟨ad297, e297, hx297_0⟩ := Kd.at_int (Kd.R_reads' HO296.out).2.2 0 p297 q297
  cases e297
  have qi297 : (0 < t293.length) = True := eq_true (by omega)
  (try rw [show ((0 : Int)).toNat = 0 from rfl] at hx297_0)
  (try rw [Addr.add_zero'] at hx297_0)
  replace p297 := eq_true p297
  replace q297 := eq_true q297
  have p298 : 0 ≤ (1 : Int) := (by omega)
  have q298 : 1 < (t293.length : Int) := of_decide_eq_true (by first | (with_reducible assumption) | assumption)
  obtain ⟨ad298, e298, hx298_0⟩ := Kd.at_int (Kd.R_reads' HO296.out).2.2 1 p298 q298
  obtain rfl : ad297 = ad298 := (by injection e298)
  (try simp only [show (1 : Int).toNat = 1 from rfl, Nat.reduceMul, Nat.reduceEqDiff, Go.Addr.add, ↓reduceIte] at hx298_0)
  have qi298 : (1 < t293.length) = True := eq_true (by omega)
  (try rw [show ((1 : Int)).toNat = 1 from rfl] at hx298_0)
  replace p298 := eq_true p298
  replace q298 := eq_true q298
  refine start_ (n := 8) (S := fun w' => w'.cell? ad297 = some (.int .i64 (rd t293 0)) ∧ w'.cell? ⟨ad297.block, ad297.off + 1, none⟩ = some (.int .i64 (rd t293 1))) (ds := []) #[F,F,F,F,F,F,F,F] (by kernel_rfl) rfl rfl ⟨hx297_0, hx298_0⟩ (fun hHeld => ?_); refine with_tabW impl_SlopeOfCurve.tab4 impl_SlopeOfCurve.bits4 (fun HT_ HW_ => ?_)
  generalize w55.drew = w56 at HO292 HO296 BK289 HB hx297_0 hx298_0 hHeld ⊢
  refine pure_ (i := 0) (N := some 18) (v := ?_) (a' := ?_) #[T,F,F,F,F,F,F,F] rfl rfl (any_of HT_.out (by kernel_rfl)) (fun _ _ _ h => h) (Or.inl ⟨by rfl, ?_⟩) ?_ ?_
  rotate_left
  ·intro w'
   go_simp
   with_reducible rfl
  rotate_left
  ·simp only [Act.put, List.setIfInBounds_toArray, List.set_cons_zero, List.set_cons_succ, i64_w, i32_w]
   rfl
  refine pure_ (i := 1) (N := some 19) (v := ?_) (a' := ?_) #[T,T,F,F,F,F,F,F] rfl rfl (any_of HT_.out (by kernel_rfl)) (fun _ _ _ h => h) (Or.inl ⟨by rfl, ?_⟩) ?_ ?_
  rotate_left
  ·intro w'
   go_simp
   with_reducible rfl
  rotate_left
  ·simp only [Act.put, List.setIfInBounds_toArray, List.set_cons_zero, List.set_cons_succ, i64_w, i32_w]
   rfl
  refine pure_ (i := 3) (N := some 21) (v := ?_) (a' := ?_) #[T,T,F,T,F,F,F,F] rfl rfl (any_of HT_.out (by kernel_rfl)) (fun _ _ _ h => h) (Or.inl ⟨by rfl, ?_⟩) ?_ ?_
  rotate_left
  ·intro w'
   go_simp
   with_reducible rfl
  rotate_left
  ·simp only [Act.put, List.setIfInBounds_toArray, List.set_cons_zero, List.set_cons_succ, i64_w, i32_w]
   rfl
  refine pure_ (i := 4) (N := some 22) (v := ?_) (a' := ?_) #[T,T,F,T,T,F,F,F] rfl rfl (any_of HT_.out (by kernel_rfl)) (fun _ _ _ h => h) (Or.inl ⟨by rfl, ?_⟩) ?_ ?_
  rotate_left
  ·intro w'
   go_simp
   with_reducible rfl
  rotate_left
  ·simp only [Act.put, List.setIfInBounds_toArray, List.set_cons_zero, List.set_cons_succ, i64_w, i32_w]
   rfl
  refine take_ (i := 2) (N := some 20) (v := ?_) (a' := ?_) #[T,T,T,T,T,F,F,F] rfl rfl (take_ofW HT_.out HW_.out (by kernel_rfl)) (fun _ _ _ h => h) (Or.inl ⟨by rfl, ?_⟩) hHeld ?_ ?_
  rotate_left
  ·rintro w' ⟨s0, s1⟩
   go_simp
   with_reducible rfl
  rotate_left
  ·simp only [Act.put, List.setIfInBounds_toArray, List.set_cons_zero, List.set_cons_succ, i64_w, i32_w]
   rfl
  refine take_ (i := 5) (N := some 23) (v := ?_) (a' := ?_) #[T,T,T,T,T,T,F,F] rfl rfl (take_ofW HT_.out HW_.out (by kernel_rfl)) (fun _ _ _ h => h) (Or.inl ⟨by rfl, ?_⟩) hHeld ?_ ?_
  rotate_left
  ·rintro w' ⟨s0, s1⟩
   go_simp
   with_reducible rfl
  rotate_left
  ·simp only [Act.put, List.setIfInBounds_toArray, List.set_cons_zero, List.set_cons_succ, i64_w, i32_w]
   rfl
  refine one_ (i := 6) (N := some 24) #[T,T,T,T,T,T,T,F] rfl rfl (one_of HT_.out (by kernel_rfl)) (by decide) (fun K hK => ?_)
  refine goes_ Try.func41 (by kernel_rfl) rfl #[.int .i64 (rd t293 0), .int .i64 (rd t293 1)] (by rfl) rfl rfl ln_20 ?_
  with_reducible refine (impl_gcd.calls k (rd t293 0) (rd t293 1) t299 _ A7.out).mono ?_
  rintro e w58 ⟨rfl, hb⟩
  have HS0_ := (hb.cell (World.block_lt_of_cell? _ _ (hHeld.1))).trans (hHeld.1)
  have HS1_ := (hb.cell (World.block_lt_of_cell? _ _ (hHeld.2))).trans (hHeld.2)
  refine ⟨_, rfl, ?_⟩
  have n0_ := Az.mk (Kd.N_below (by (with_reducible repeat (first | apply Kd.N_alloc | apply Kd.N_drewN | apply Kd.N_drew)); exact HO292.out) hb)
  have n1_ := Az.mk (Kd.R_below (by (with_reducible repeat (first | apply Kd.R_alloc | apply Kd.R_drewN | apply Kd.R_drew)); exact HO296.out) hb)
  have n2_ := Az.mk (bkB (g := gb289) (o := .cells #[.int .i64 0, .int .i64 0] 24 (0, 0)) (by (with_reducible repeat (first | refine bkN ?_ _ | refine bkD ?_ | refine bkA ?_ _)); exact BK289.out) hb)
  have n3_ := Az.mk (bwT bw_20 hb)
  clear HO292
  clear HO296
  clear BK289
  clear HB
  have HO292 := n0_
  have HO296 := n1_
  have BK289 := n2_
  have HB := n3_
  clear n0_ n1_ n2_ n3_
  (try clear hb)
  (try clear hb2)
  (try clear hk)
  (try clear hi)
  refine hK.out _ _ ⟨HS0_, HS1_⟩ (fun hHeld => ?_)
  clear hK K
  refine norm_ (a' := ?_) ?_ ?_
  rotate_left
  ·show Act.put _ (some 24) _ = _
   simp only [Act.put, List.setIfInBounds_toArray, List.set_cons_zero, List.set_cons_succ, i64_w, i32_w]
   rfl
  refine pure_ (i := 7) (N := some 7) (v := ?_) (a' := ?_) #[T,T,T,T,T,T,T,T] rfl rfl (any_of HT_.out (by kernel_rfl)) (fun _ _ _ h => h) (Or.inl ⟨by rfl, ?_⟩) ?_ ?_
  rotate_left
  ·intro w'
   go_simp
   with_reducible rfl
  rotate_left
  ·simp only [Act.put, List.setIfInBounds_toArray, List.set_cons_zero, List.set_cons_succ, i64_w, i32_w]
   rfl
  refine done_ (done_of HT_.out (by kernel_rfl)) ?_
  try go_wp2
  have n0_ := Az.mk (Kd.N_drew HO292.out)
  have n1_ := Az.mk (Kd.R_drew HO296.out)
  have n2_ := Az.mk (bkD BK289.out)
  have n3_ := Az.mk (bwD HB.out)
  clear HO292
  clear HO296
  clear BK289
  clear HB
  have HO292 := n0_
  have HO296 := n1_
  have BK289 := n2_
  have HB := n3_
  clear n0_ n1_ n2_ n3_
  have p300 : 0 ≤ (0 : Int) := (by omega)
  have q300 : 0 < (t293.length : Int) := of_decide_eq_true (by first | (with_reducible assumption) | assumption)
  obtain ⟨ad300, e300, hx300_0⟩ := Kd.at_int (Kd.R_reads' HO296.out).2.2 0 p300 q300
  obtain rfl : ad297 = ad300 := (by injection e300)
  have qi300 : (0 < t293.length) = True := eq_true (by omega)
  (try rw [show ((0 : Int)).toNat = 0 from rfl] at hx300_0)
  (try rw [Addr.add_zero'] at hx300_0)
  replace p300 := eq_true p300
  replace q300 := eq_true q300
  have p301 : 0 ≤ (1 : Int) := (by omega)
  have q301 : 1 < (t293.length : Int) := of_decide_eq_true (by first | (with_reducible assumption) | assumption)
  obtain ⟨ad301, e301, hx301_0⟩ := Kd.at_int (Kd.R_reads' HO296.out).2.2 1 p301 q301
  obtain rfl : ad297 = ad301 := (by injection e301)
  (try simp only [show (1 : Int).toNat = 1 from rfl, Nat.reduceMul, Nat.reduceEqDiff, Go.Addr.add, ↓reduceIte] at hx301_0)
  have qi301 : (1 < t293.length) = True := eq_true (by omega)
  (try rw [show ((1 : Int)).toNat = 1 from rfl] at hx301_0)
  replace p301 := eq_true p301
  replace q301 := eq_true q301
  refine start_ (n := 13) (S := fun w' => w'.cell? ad297 = some (.int .i64 (rd t293 0)) ∧ w'.cell? ⟨ad297.block, ad297.off + 1, none⟩ = some (.int .i64 (rd t293 1))) (ds := []) #[F,F,F,F,F,F,F,F,F,F,F,F,F] (by kernel_rfl) rfl rfl ⟨hx300_0, hx301_0⟩ (fun hHeld => ?_); refine with_tabW impl_SlopeOfCurve.tab7 impl_SlopeOfCurve.bits7 (fun HT_ HW_ => ?_)
  generalize w58.drew = w59 at HO292 HO296 BK289 HB hx300_0 hx301_0 hHeld ⊢
  refine pure_ (i := 0) (N := some 28) (v := ?_) (a' := ?_) #[T,F,F,F,F,F,F,F,F,F,F,F,F] rfl rfl (any_of HT_.out (by kernel_rfl)) (fun _ _ _ h => h) (Or.inl ⟨by rfl, ?_⟩) ?_ ?_
  rotate_left
  ·intro w'
   go_simp
   with_reducible rfl
  rotate_left
  ·simp only [Act.put, List.setIfInBounds_toArray, List.set_cons_zero, List.set_cons_succ, i64_w, i32_w]
   rfl
  refine pure_ (i := 1) (N := some 29) (v := ?_) (a' := ?_) #[T,T,F,F,F,F,F,F,F,F,F,F,F] rfl rfl (any_of HT_.out (by kernel_rfl)) (fun _ _ _ h => h) (Or.inl ⟨by rfl, ?_⟩) ?_ ?_
  rotate_left
  ·intro w'
   go_simp
   with_reducible rfl
  rotate_left
  ·simp only [Act.put, List.setIfInBounds_toArray, List.set_cons_zero, List.set_cons_succ, i64_w, i32_w]
   rfl
  refine pure_ (i := 3) (N := some 31) (v := ?_) (a' := ?_) #[T,T,F,T,F,F,F,F,F,F,F,F,F] rfl rfl (any_of HT_.out (by kernel_rfl)) (fun _ _ _ h => h) (Or.inl ⟨by rfl, ?_⟩) ?_ ?_
  rotate_left
  ·intro w'
   go_simp
   with_reducible rfl
  rotate_left
  ·simp only [Act.put, List.setIfInBounds_toArray, List.set_cons_zero, List.set_cons_succ, i64_w, i32_w]
   rfl
  refine pure_ (i := 5) (N := some 33) (v := ?_) (a' := ?_) #[T,T,F,T,F,T,F,F,F,F,F,F,F] rfl rfl (any_of HT_.out (by kernel_rfl)) (fun _ _ _ h => h) (Or.inl ⟨by rfl, ?_⟩) ?_ ?_
  rotate_left
  ·intro w'
   go_simp
   with_reducible rfl
  rotate_left
  ·simp only [Act.put, List.setIfInBounds_toArray, List.set_cons_zero, List.set_cons_succ, i64_w, i32_w]
   rfl
  refine pure_ (i := 6) (N := some 34) (v := ?_) (a' := ?_) #[T,T,F,T,F,T,T,F,F,F,F,F,F] rfl rfl (any_of HT_.out (by kernel_rfl)) (fun _ _ _ h => h) (Or.inl ⟨by rfl, ?_⟩) ?_ ?_
  rotate_left
  ·intro w'
   go_simp
   with_reducible rfl
  rotate_left
  ·simp only [Act.put, List.setIfInBounds_toArray, List.set_cons_zero, List.set_cons_succ, i64_w, i32_w]
   rfl
  refine pure_ (i := 8) (N := some 36) (v := ?_) (a' := ?_) #[T,T,F,T,F,T,T,F,T,F,F,F,F] rfl rfl (any_of HT_.out (by kernel_rfl)) (fun _ _ _ h => h) (Or.inl ⟨by rfl, ?_⟩) ?_ ?_
  rotate_left
  ·intro w'
   go_simp
   with_reducible rfl
  rotate_left
  ·simp only [Act.put, List.setIfInBounds_toArray, List.set_cons_zero, List.set_cons_succ, i64_w, i32_w]
   rfl
  refine take_ (i := 2) (N := some 30) (v := ?_) (a' := ?_) #[T,T,T,T,F,T,T,F,T,F,F,F,F] rfl rfl (take_ofW HT_.out HW_.out (by kernel_rfl)) (fun _ _ _ h => h) (Or.inl ⟨by rfl, ?_⟩) hHeld ?_ ?_
  rotate_left
  ·rintro w' ⟨s0, s1⟩
   go_simp
   with_reducible rfl
  rotate_left
  ·simp only [Act.put, List.setIfInBounds_toArray, List.set_cons_zero, List.set_cons_succ, i64_w, i32_w]
   rfl
  refine pure_ (i := 4) (N := some 32) (v := ?_) (a' := ?_) #[T,T,T,T,T,T,T,F,T,F,F,F,F] rfl rfl (any_of HT_.out (by kernel_rfl)) (fun _ _ _ h => h) (Or.inl ⟨by rfl, ?_⟩) ?_ ?_
  rotate_left
  ·intro w'
   go_simp
   with_reducible rfl
  rotate_left
  ·simp only [Act.put, List.setIfInBounds_toArray, List.set_cons_zero, List.set_cons_succ, i64_w, i32_w]
   rfl
  refine take_ (i := 7) (N := some 35) (v := ?_) (a' := ?_) #[T,T,T,T,T,T,T,T,T,F,F,F,F] rfl rfl (take_ofW HT_.out HW_.out (by kernel_rfl)) (fun _ _ _ h => h) (Or.inl ⟨by rfl, ?_⟩) hHeld ?_ ?_
  rotate_left
  ·rintro w' ⟨s0, s1⟩
   go_simp
   with_reducible rfl
  rotate_left
  ·simp only [Act.put, List.setIfInBounds_toArray, List.set_cons_zero, List.set_cons_succ, i64_w, i32_w]
   rfl
  refine pure_ (i := 9) (N := some 37) (v := ?_) (a' := ?_) #[T,T,T,T,T,T,T,T,T,T,F,F,F] rfl rfl (any_of HT_.out (by kernel_rfl)) (fun _ _ _ h => h) (Or.inl ⟨by rfl, ?_⟩) ?_ ?_
  rotate_left
  ·intro w'
   go_simp
   with_reducible rfl
  rotate_left
  ·simp only [Act.put, List.setIfInBounds_toArray, List.set_cons_zero, List.set_cons_succ, i64_w, i32_w]
   rfl
  refine pure_ (i := 10) (N := some 38) (v := ?_) (a' := ?_) #[T,T,T,T,T,T,T,T,T,T,T,F,F] rfl rfl (any_of HT_.out (by kernel_rfl)) (fun _ _ _ h => h) (Or.inl ⟨by rfl, ?_⟩) ?_ ?_
  rotate_left
  ·intro w'
   go_simp
   with_reducible rfl
  rotate_left
  ·simp only [Act.put, List.setIfInBounds_toArray, List.set_cons_zero, List.set_cons_succ, i64_w, i32_w]
   rfl
  refine one_ (i := 11) (N := some 8) #[T,T,T,T,T,T,T,T,T,T,T,T,F] rfl rfl (one_of HT_.out (by kernel_rfl)) (by decide) (fun K hK => ?_)
  refine box_step ?hg (N := 8) ?hd (cs := #[.int .i64 0, .int .i64 0]) (t := 24) ?hr ?_; (case hd => rfl); (case hg => rfl); (case hr => first | (go_simp; done) | (go_simp; rfl))
  intro gb302 hg w60 hbox hb
  have HS0_ := (hb.cell (World.block_lt_of_cell? _ _ (hHeld.1))).trans (hHeld.1)
  have HS1_ := (hb.cell (World.block_lt_of_cell? _ _ (hHeld.2))).trans (hHeld.2)
  have n0_ := Az.mk (Kd.N_below (Kd.N_elderB (by (with_reducible repeat (first | apply Kd.N_alloc | apply Kd.N_drewN | apply Kd.N_drew)); exact HO292.out) gb302 (Nat.le_of_eq hg.symm)) hb)
  have n1_ := Az.mk (Kd.R_below (by (with_reducible repeat (first | apply Kd.R_alloc | apply Kd.R_drewN | apply Kd.R_drew)); exact HO296.out) hb)
  have n2_ := Az.mk (bkB (g := gb289) (o := .cells #[.int .i64 0, .int .i64 0] 24 (0, 0)) (by (with_reducible repeat (first | refine bkN ?_ _ | refine bkD ?_ | refine bkA ?_ _)); exact BK289.out) hb)
  have n3_ := Az.mk (bwT bw_20 hb)
  have n4_ := Az.mk (hbox)
  have n5_ := Az.mk ((by rw [hg]; exact (bwZ bw_20) : w.heap.size ≤ gb302))
  have n6_ := Az.mk ((by rw [hg]; exact (bwZ bw_20) : w.heap.size ≤ gb302))
  have n7_ := Az.mk ((by rw [hg]; exact Nat.ne_of_lt (blk_lt (g := gb289) (o := .cells #[.int .i64 0, .int .i64 0] 24 (0, 0)) (by (with_reducible repeat (first | refine bkN ?_ _ | refine bkD ?_ | refine bkA ?_ _)); exact BK289.out)) : gb289 ≠ gb302))
  have n8_ := Az.mk ((by rw [hg]; exact Nat.ne_of_gt (blk_lt (g := gb289) (o := .cells #[.int .i64 0, .int .i64 0] 24 (0, 0)) (by (with_reducible repeat (first | refine bkN ?_ _ | refine bkD ?_ | refine bkA ?_ _)); exact BK289.out)) : gb302 ≠ gb289))
  clear HO292
  clear HO296
  clear BK289
  clear HB
  have HO292 := n0_
  have HO296 := n1_
  have BK289 := n2_
  have HB := n3_
  have BK302 := n4_
  have GW302 := n5_
  have GE302 := n6_
  have NB289_302 := n7_
  have NB302_289 := n8_
  clear n0_ n1_ n2_ n3_ n4_ n5_ n6_ n7_ n8_
  clear hb hbox hg
  refine hK.out _ _ ⟨HS0_, HS1_⟩ (fun hHeld => ?_)
  clear hK K
  refine norm_ (a' := ?_) ?_ ?_
  rotate_left
  ·show Act.put _ (some 8) _ = _
   simp only [Act.put, List.setIfInBounds_toArray, List.set_cons_zero, List.set_cons_succ, i64_w, i32_w]
   rfl
  refine one_ (i := 12) (N := none) #[T,T,T,T,T,T,T,T,T,T,T,T,T] rfl rfl (one_of HT_.out (by kernel_rfl)) (by decide) (fun K hK => ?_)
  have hs61 : w60.cell? ⟨gb302, 0, none⟩ = some (.int .i64 0) := (bkC BK302.out 0).trans rfl
  have hfs61 := bkF BK302.out 0
  have hns61_0 := NB289_302.out
  have hms61_0 := NB302_289.out
  have hs62 : w60.cell? ⟨gb302, 1, none⟩ = some (.int .i64 0) := (bkC BK302.out 1).trans rfl
  have hfs62 := bkF BK302.out 1
  have hns62_0 := NB289_302.out
  have hms62_0 := NB302_289.out
  refine skip_ (w1 := ?_) (by rfl) rfl ?_ ?_
  rotate_left
  ·go_simp
   rfl
  refine hK.out _ _ ⟨((cell_far (p := ⟨gb302, _, none⟩) (by first | exact Kd.own_blk (Kd.R_ne HO296.out BK302.out (by decide)) | (rw [add_block]; exact Kd.own_blk (Kd.R_ne HO296.out BK302.out (by decide))) | (show (Addr.add _ _).block ≠ _; rw [add_block]; exact Kd.own_blk (Kd.R_ne HO296.out BK302.out (by decide))) | (dsimp only; exact Kd.own_blk (Kd.R_ne HO296.out BK302.out (by decide)))) _).trans (((cell_far (p := ⟨gb302, _, none⟩) (by first | exact Kd.own_blk (Kd.R_ne HO296.out BK302.out (by decide)) | (rw [add_block]; exact Kd.own_blk (Kd.R_ne HO296.out BK302.out (by decide))) | (show (Addr.add _ _).block ≠ _; rw [add_block]; exact Kd.own_blk (Kd.R_ne HO296.out BK302.out (by decide))) | (dsimp only; exact Kd.own_blk (Kd.R_ne HO296.out BK302.out (by decide)))) _).trans (hHeld.1)))), ((cell_far (p := ⟨gb302, _, none⟩) (by first | exact Kd.own_blk (Kd.R_ne HO296.out BK302.out (by decide)) | (rw [add_block]; exact Kd.own_blk (Kd.R_ne HO296.out BK302.out (by decide))) | (show (Addr.add _ _).block ≠ _; rw [add_block]; exact Kd.own_blk (Kd.R_ne HO296.out BK302.out (by decide))) | (dsimp only; exact Kd.own_blk (Kd.R_ne HO296.out BK302.out (by decide)))) _).trans (((cell_far (p := ⟨gb302, _, none⟩) (by first | exact Kd.own_blk (Kd.R_ne HO296.out BK302.out (by decide)) | (rw [add_block]; exact Kd.own_blk (Kd.R_ne HO296.out BK302.out (by decide))) | (show (Addr.add _ _).block ≠ _; rw [add_block]; exact Kd.own_blk (Kd.R_ne HO296.out BK302.out (by decide))) | (dsimp only; exact Kd.own_blk (Kd.R_ne HO296.out BK302.out (by decide)))) _).trans (hHeld.2))))⟩ (fun hHeld => ?_)
  clear hK K
  refine done_ (done_of HT_.out (by kernel_rfl)) ?_
  try go_wp2
  have n0_ : Az (Kd.N (Kd.slice 3 (Kd.int .i64)) 22 ((w60.setCell ⟨gb302, 0, none⟩ (.int .i64 (wrap64 (Int.tdiv (rd t293 0) t299)))).setCell ⟨gb302, 1, none⟩ (.int .i64 (wrap64 (Int.tdiv (rd t293 1) t299)))) w.heap.size (fun k_ => some k_ ≠ (.slice (some ad297) t293.length co57 : Value).ownBlock ∧ k_ ≠ gb289 ∧ k_ ≠ gb302) (.slice Ao54 t290.length co54) t290) := ⟨by (with_reducible repeat (first | apply Kd.N_alloc | apply Kd.N_drewN | apply Kd.N_drew)); exact Kd.N_mono (Kd.N_far (p := ⟨gb302, 1, none⟩) (Kd.N_far (p := ⟨gb302, 0, none⟩) (Kd.N_mono HO292.out (fun k_ hk => (⟨hk, hk.2⟩ : _ ∧ k_ ≠ gb302))) (fun _ hk => hk.2) (.int .i64 (wrap64 (Int.tdiv (rd t293 0) t299)))) (fun _ hk => hk.2) (.int .i64 (wrap64 (Int.tdiv (rd t293 1) t299)))) (fun _ hk => ⟨hk.1.1.2, ⟨hk.1.1.1, hk.1.2⟩⟩)⟩
  have n1_ : Az (Kd.R (Kd.int .i64) 3 ((w60.setCell ⟨gb302, 0, none⟩ (.int .i64 (wrap64 (Int.tdiv (rd t293 0) t299)))).setCell ⟨gb302, 1, none⟩ (.int .i64 (wrap64 (Int.tdiv (rd t293 1) t299)))) w.heap.size (fun _ => True) (.slice (some ad297) t293.length co57) t293) := ⟨by (with_reducible repeat (first | apply Kd.R_alloc | apply Kd.R_drewN | apply Kd.R_drew)); exact Kd.R_mono (Kd.R_far (p := ⟨gb302, 1, none⟩) (Kd.R_far (p := ⟨gb302, 0, none⟩) (Kd.R_types HO296.out BK302.out (by decide)) (fun _ hk => hk.2) (.int .i64 (wrap64 (Int.tdiv (rd t293 0) t299)))) (fun _ hk => hk.2) (.int .i64 (wrap64 (Int.tdiv (rd t293 1) t299)))) (fun _ hk => trivial)⟩
  have n2_ : Az (((w60.setCell ⟨gb302, 0, none⟩ (.int .i64 (wrap64 (Int.tdiv (rd t293 0) t299)))).setCell ⟨gb302, 1, none⟩ (.int .i64 (wrap64 (Int.tdiv (rd t293 1) t299)))).heap[gb289]? = some (.cells #[.int .i64 0, .int .i64 0] 24 (0, 0))) := ⟨by (with_reducible repeat (first | refine bkN ?_ _ | refine bkD ?_ | refine bkA ?_ _)); refine bkf ?_ NB289_302.out _; (with_reducible repeat (first | refine bkN ?_ _ | refine bkD ?_ | refine bkA ?_ _)); refine bkf ?_ NB289_302.out _; (with_reducible repeat (first | refine bkN ?_ _ | refine bkD ?_ | refine bkA ?_ _)); exact BK289.out⟩
  have n3_ : Az (((w60.setCell ⟨gb302, 0, none⟩ (.int .i64 (wrap64 (Int.tdiv (rd t293 0) t299)))).setCell ⟨gb302, 1, none⟩ (.int .i64 (wrap64 (Int.tdiv (rd t293 1) t299)))).heap[gb302]? = some (.cells #[.int .i64 (wrap64 (Int.tdiv (rd t293 0) t299)), .int .i64 (wrap64 (Int.tdiv (rd t293 1) t299))] 24 (0, 0))) := ⟨by (with_reducible repeat (first | refine bkN ?_ _ | refine bkD ?_ | refine bkA ?_ _)); refine bkp (cs := #[.int .i64 (wrap64 (Int.tdiv (rd t293 0) t299)), .int .i64 0]) ?_ 1 _ rfl; (with_reducible repeat (first | refine bkN ?_ _ | refine bkD ?_ | refine bkA ?_ _)); refine bkp (cs := #[.int .i64 0, .int .i64 0]) ?_ 0 _ rfl; (with_reducible repeat (first | refine bkN ?_ _ | refine bkD ?_ | refine bkA ?_ _)); exact BK302.out⟩
  have n4_ : Az (Below w.heap.size w ((w60.setCell ⟨gb302, 0, none⟩ (.int .i64 (wrap64 (Int.tdiv (rd t293 0) t299)))).setCell ⟨gb302, 1, none⟩ (.int .i64 (wrap64 (Int.tdiv (rd t293 1) t299))))) := ⟨by repeat (first | (with_reducible first | exact HB.out | apply bwA | apply pbN | apply bwD | refine bwS ?_ GE289.out | refine bwS ?_ GE302.out) | exact HB.out)⟩
  (try clear HO292)
  (try clear HO296)
  (try clear BK289)
  (try clear BK302)
  (try clear HB)
  generalize ((w60.setCell ⟨gb302, 0, none⟩ (.int .i64 (wrap64 (Int.tdiv (rd t293 0) t299)))).setCell ⟨gb302, 1, none⟩ (.int .i64 (wrap64 (Int.tdiv (rd t293 1) t299)))) = w63 at n0_ n1_ n2_ n3_ n4_ ⊢
  have HO292 := n0_
  have HO296 := n1_
  have BK289 := n2_
  have BK302 := n3_
  have HB := n4_
  clear n0_ n1_ n2_ n3_ n4_
  have n0_ := Az.mk (Kd.N_drew HO292.out)
  have n1_ := Az.mk (Kd.R_drew HO296.out)
  have n2_ := Az.mk (bkD BK289.out)
  have n3_ := Az.mk (bkD BK302.out)
  have n4_ := Az.mk (bwD HB.out)
  clear HO292
  clear HO296
  clear BK289
  clear BK302
  clear HB
  have HO292 := n0_
  have HO296 := n1_
  have BK289 := n2_
  have BK302 := n3_
  have HB := n4_
  clear n0_ n1_ n2_ n3_ n4_
  refine start_ (n := 16) (S := fun w' => w'.cell? ⟨gb302, 0, none⟩ = some (.int .i64 (wrap64 (Int.tdiv (rd t293 0) t299))) ∧ w'.cell? ⟨gb302, 1, none⟩ = some (.int .i64 (wrap64 (Int.tdiv (rd t293 1) t299)))) (ds := []) #[F,F,F,F,F,F,F,F,F,F,F,F,F,F,F,F] (by kernel_rfl) rfl rfl ⟨(bkC BK302.out 0).trans rfl, (bkC BK302.out 1).trans rfl⟩ (fun hHeld => ?_); refine with_tabW impl_SlopeOfCurve.tab8 impl_SlopeOfCurve.bits8 (fun HT_ HW_ => ?_)
  generalize w63.drew = w64 at HO292 HO296 BK289 BK302 HB hHeld ⊢
  refine pure_ (i := 0) (N := some 39) (v := ?_) (a' := ?_) #[T,F,F,F,F,F,F,F,F,F,F,F,F,F,F,F] rfl rfl (any_of HT_.out (by kernel_rfl)) (fun _ _ _ h => h) (Or.inl ⟨by rfl, ?_⟩) ?_ ?_
  rotate_left
  ·intro w'
   go_simp
   with_reducible rfl
  rotate_left
  ·simp only [Act.put, List.setIfInBounds_toArray, List.set_cons_zero, List.set_cons_succ, i64_w, i32_w]
   rfl
  refine take_ (i := 1) (N := some 40) (v := ?_) (a' := ?_) #[T,T,F,F,F,F,F,F,F,F,F,F,F,F,F,F] rfl rfl (take_ofW HT_.out HW_.out (by kernel_rfl)) (fun _ _ _ h => h) (Or.inl ⟨by rfl, ?_⟩) hHeld ?_ ?_
  rotate_left
  ·rintro w' ⟨s0, s1⟩
   go_simp
   with_reducible rfl
  rotate_left
  ·simp only [Act.put, List.setIfInBounds_toArray, List.set_cons_zero, List.set_cons_succ, i64_w, i32_w]
   rfl
  refine pure_ (i := 2) (N := some 41) (v := ?_) (a' := ?_) #[T,T,T,F,F,F,F,F,F,F,F,F,F,F,F,F] rfl rfl (any_of HT_.out (by kernel_rfl)) (fun _ _ _ h => h) (Or.inl ⟨by rfl, ?_⟩) ?_ ?_
  rotate_left
  ·intro w'
   go_simp
   with_reducible rfl
  rotate_left
  ·simp only [Act.put, List.setIfInBounds_toArray, List.set_cons_zero, List.set_cons_succ, i64_w, i32_w]
   rfl
  refine pure_ (i := 3) (N := some 42) (v := ?_) (a' := ?_) #[T,T,T,T,F,F,F,F,F,F,F,F,F,F,F,F] rfl rfl (any_of HT_.out (by kernel_rfl)) (fun _ _ _ h => h) (Or.inl ⟨by rfl, ?_⟩) ?_ ?_
  rotate_left
  ·intro w'
   go_simp
   with_reducible rfl
  rotate_left
  ·simp only [Act.put, List.setIfInBounds_toArray, List.set_cons_zero, List.set_cons_succ, i64_w, i32_w]
   rfl
  refine pure_ (i := 4) (N := some 43) (v := undef) (a' := ?_) #[T,T,T,T,T,F,F,F,F,F,F,F,F,F,F,F] rfl rfl (any_of HT_.out (by kernel_rfl)) (fun _ _ _ h => h) (Or.inr ⟨by rfl, rfl⟩) ?_ ?_
  rotate_left
  ·simp only [Act.put, List.setIfInBounds_toArray, List.set_cons_zero, List.set_cons_succ, i64_w, i32_w]
   rfl
  refine pure_ (i := 5) (N := some 44) (v := undef) (a' := ?_) #[T,T,T,T,T,T,F,F,F,F,F,F,F,F,F,F] rfl rfl (any_of HT_.out (by kernel_rfl)) (fun _ _ _ h => h) (Or.inr ⟨by rfl, rfl⟩) ?_ ?_
  rotate_left
  ·simp only [Act.put, List.setIfInBounds_toArray, List.set_cons_zero, List.set_cons_succ, i64_w, i32_w]
   rfl
  refine pure_ (i := 6) (N := some 45) (v := undef) (a' := ?_) #[T,T,T,T,T,T,T,F,F,F,F,F,F,F,F,F] rfl rfl (any_of HT_.out (by kernel_rfl)) (fun _ _ _ h => h) (Or.inr ⟨by rfl, rfl⟩) ?_ ?_
  rotate_left
  ·simp only [Act.put, List.setIfInBounds_toArray, List.set_cons_zero, List.set_cons_succ, i64_w, i32_w]
   rfl
  refine pure_ (i := 7) (N := some 46) (v := undef) (a' := ?_) #[T,T,T,T,T,T,T,T,F,F,F,F,F,F,F,F] rfl rfl (any_of HT_.out (by kernel_rfl)) (fun _ _ _ h => h) (Or.inr ⟨by rfl, rfl⟩) ?_ ?_
  rotate_left
  ·simp only [Act.put, List.setIfInBounds_toArray, List.set_cons_zero, List.set_cons_succ, i64_w, i32_w]
   rfl
  refine pure_ (i := 8) (N := some 47) (v := undef) (a' := ?_) #[T,T,T,T,T,T,T,T,T,F,F,F,F,F,F,F] rfl rfl (any_of HT_.out (by kernel_rfl)) (fun _ _ _ h => h) (Or.inr ⟨by rfl, rfl⟩) ?_ ?_
  rotate_left
  ·simp only [Act.put, List.setIfInBounds_toArray, List.set_cons_zero, List.set_cons_succ, i64_w, i32_w]
   rfl
  refine pure_ (i := 9) (N := some 48) (v := undef) (a' := ?_) #[T,T,T,T,T,T,T,T,T,T,F,F,F,F,F,F] rfl rfl (any_of HT_.out (by kernel_rfl)) (fun _ _ _ h => h) (Or.inr ⟨by rfl, rfl⟩) ?_ ?_
  rotate_left
  ·simp only [Act.put, List.setIfInBounds_toArray, List.set_cons_zero, List.set_cons_succ, i64_w, i32_w]
   rfl
  refine pure_ (i := 10) (N := some 49) (v := undef) (a' := ?_) #[T,T,T,T,T,T,T,T,T,T,T,F,F,F,F,F] rfl rfl (any_of HT_.out (by kernel_rfl)) (fun _ _ _ h => h) (Or.inr ⟨by rfl, rfl⟩) ?_ ?_
  rotate_left
  ·simp only [Act.put, List.setIfInBounds_toArray, List.set_cons_zero, List.set_cons_succ, i64_w, i32_w]
   rfl
  refine pure_ (i := 11) (N := some 50) (v := undef) (a' := ?_) #[T,T,T,T,T,T,T,T,T,T,T,T,F,F,F,F] rfl rfl (any_of HT_.out (by kernel_rfl)) (fun _ _ _ h => h) (Or.inr ⟨by rfl, rfl⟩) ?_ ?_
  rotate_left
  ·simp only [Act.put, List.setIfInBounds_toArray, List.set_cons_zero, List.set_cons_succ, i64_w, i32_w]
   rfl
  refine pure_ (i := 12) (N := some 51) (v := undef) (a' := ?_) #[T,T,T,T,T,T,T,T,T,T,T,T,T,F,F,F] rfl rfl (any_of HT_.out (by kernel_rfl)) (fun _ _ _ h => h) (Or.inr ⟨by rfl, rfl⟩) ?_ ?_
  rotate_left
  ·simp only [Act.put, List.setIfInBounds_toArray, List.set_cons_zero, List.set_cons_succ, i64_w, i32_w]
   rfl
  refine pure_ (i := 13) (N := some 52) (v := undef) (a' := ?_) #[T,T,T,T,T,T,T,T,T,T,T,T,T,T,F,F] rfl rfl (any_of HT_.out (by kernel_rfl)) (fun _ _ _ h => h) (Or.inr ⟨by rfl, rfl⟩) ?_ ?_
  rotate_left
  ·simp only [Act.put, List.setIfInBounds_toArray, List.set_cons_zero, List.set_cons_succ, i64_w, i32_w]
   rfl
  refine pure_ (i := 14) (N := some 53) (v := undef) (a' := ?_) #[T,T,T,T,T,T,T,T,T,T,T,T,T,T,T,F] rfl rfl (any_of HT_.out (by kernel_rfl)) (fun _ _ _ h => h) (Or.inr ⟨by rfl, rfl⟩) ?_ ?_
  rotate_left
  ·simp only [Act.put, List.setIfInBounds_toArray, List.set_cons_zero, List.set_cons_succ, i64_w, i32_w]
   rfl
  refine pure_ (i := 15) (N := some 54) (v := ?_) (a' := ?_) #[T,T,T,T,T,T,T,T,T,T,T,T,T,T,T,T] rfl rfl (any_of HT_.out (by kernel_rfl)) (fun _ _ _ h => h) (Or.inl ⟨by rfl, ?_⟩) ?_ ?_
  rotate_left
  ·intro w'
   go_simp
   with_reducible rfl
  rotate_left
  ·simp only [Act.put, List.setIfInBounds_toArray, List.set_cons_zero, List.set_cons_succ, i64_w, i32_w]
   rfl
  refine done_ (done_of HT_.out (by kernel_rfl)) ?_
  have hnb65 := NB302_289.out
  have hnc65 := NB289_302.out
  have hcz66_0 : w64.cell? ⟨gb302, 0, none⟩ = some (.int .i64 (wrap64 (Int.tdiv (rd t293 0) t299))) := (bkC BK302.out 0).trans rfl
  have hcz66_1 : w64.cell? ⟨gb302, 1, none⟩ = some (.int .i64 (wrap64 (Int.tdiv (rd t293 1) t299))) := (bkC BK302.out 1).trans rfl
  have hfz66_0 := bkF BK302.out 0
  have hfz66_1 := bkF BK302.out 1
  have hcz67_0 : w64.cell? ⟨gb289, 0, none⟩ = some (.int .i64 0) := (bkC BK289.out 0).trans rfl
  have hcz67_1 : w64.cell? ⟨gb289, 1, none⟩ = some (.int .i64 0) := (bkC BK289.out 1).trans rfl
  have hfz67_0 := bkF BK289.out 0
  have hfz67_1 := bkF BK289.out 1
  try go_wp2
  refine bodyPost_ret (results_ctt rfl _ _ gb289 24 #[.int .i64 (wrap64 (Int.tdiv (rd t293 0) t299)), .int .i64 (wrap64 (Int.tdiv (rd t293 1) t299))] (0, 0) _ rfl (by (with_reducible repeat (first | refine bkN ?_ _ | refine bkD ?_ | refine bkA ?_ _)); refine bkp (cs := #[.int .i64 (wrap64 (Int.tdiv (rd t293 0) t299)), .int .i64 0]) ?_ 1 _ rfl; (with_reducible repeat (first | refine bkN ?_ _ | refine bkD ?_ | refine bkA ?_ _)); refine bkp (cs := #[.int .i64 0, .int .i64 0]) ?_ 0 _ rfl; (with_reducible repeat (first | refine bkN ?_ _ | refine bkD ?_ | refine bkA ?_ _)); exact BK289.out) Try.underlying24 rfl (by kernel_rfl)) rfl ?_
  exact ⟨by first | rfl | (simp [eWn, eWs] <;> rfl) | (simp [*, eWn, eWs] <;> rfl), bw_20⟩
 rw [if_pos c17] at H
 have c17b0 : decide (0 < (wrap64 (Int.tdiv (rd t293 1) t299))) = true := decide_eq_true c17
 clear c17
 by_cases c18 : 2 < (t293.length : Int)
 rotate_left
 ·rw [if_neg c18] at H
  exact absurd H (by simp)
 rw [if_pos c18] at H
 have c18b0 : decide (2 < (t293.length : Int)) = true := decide_eq_true c18
 have c18b1 : decide (2 < t293.length) = true := decide_eq_true (by omega)
 clear c18
 by_cases c19 : (rd t293 2) = (wrap64 ((rd t293 0) + (rd t293 1)))
 rotate_left
 ·rw [if_neg c19] at H
  have c19b0 : ((rd t293 2) == (wrap64 ((rd t293 0) + (rd t293 1)))) = false := beq_eq_false_iff_ne.mpr c19
  have c19b1 : ((rd t293 2) != (wrap64 ((rd t293 0) + (rd t293 1)))) = true := bne_iff_ne.mpr c19
  simp only [Option.some.injEq, Prod.mk.injEq] at H
  obtain ⟨rfl, rfl, rfl, rfl⟩ := H
  go_enter Try.func10, Try.ntmps10
  try go_wp2_with (first | ((with_reducible refine gtD (N := 2) rfl ?_); refine bxE ?hg (N := 2) ?hd (cs := #[.int .i64 0, .int .i64 0]) (t := 24) ?hr ?_; (case hd => rfl); (case hg => rfl); (case hr => first | (go_simp; done) | (go_simp; rfl)); intro gb289 hg w36 hbox hb; have n0_ := Az.mk (bwT bw_20 hb); have n1_ := Az.mk (hbox); have n2_ := Az.mk ((by rw [hg]; exact (bwZ bw_20) : w.heap.size ≤ gb289)); have n3_ := n2_; clear HB; have HB := n0_; have BK289 := n1_; have GW289 := n2_; have GE289 := n3_; clear n0_ n1_ n2_ n3_; clear hb hbox hg) | ((with_reducible refine gtC (f := 40) rfl ?_); refine goesL_ (some 10) rfl rfl Try.func40 (by kernel_rfl) rfl #[] rfl ln_20 ?_; (with_reducible refine (impl_torus.calls  t290 _ A2.out).mono ?_); rintro e w37 ⟨v291, rfl, ho0, hb⟩; refine ⟨_, rfl, ?_⟩; have n0_ := Az.mk (Kd.N_lower (Kd.N_mono (ok' := fun k_ => k_ ≠ gb289) ho0 (fun k_ hk_ => (Kd.freshB (g := gb289) (o := .cells #[.int .i64 0, .int .i64 0] 24 (0, 0)) (by (with_reducible repeat (first | refine bkN ?_ _ | refine bkD ?_ | refine bkA ?_ _)); exact BK289.out) k_ hk_))) (bwZ bw_20)); have n1_ := Az.mk (bkB (g := gb289) (o := .cells #[.int .i64 0, .int .i64 0] 24 (0, 0)) (by (with_reducible repeat (first | refine bkN ?_ _ | refine bkD ?_ | refine bkA ?_ _)); exact BK289.out) hb); have n2_ := Az.mk (bwT bw_20 hb); clear BK289; clear HB; have HO292 := n0_; have BK289 := n1_; have HB := n2_; clear n0_ n1_ n2_; (try clear hb); (try clear hb2); (try clear hk); (try clear hi); (try clear ho0); obtain ⟨Ao38, co38, eo38⟩ := Kd.N_slice HO292.out; subst eo38) | ((with_reducible refine gtC (f := 27) rfl ?_); refine goesL_ (some 12) rfl rfl Try.func27 (by kernel_rfl) rfl #[.slice Ao38 t290.length co38, .slice A0 l0.length c0] rfl ln_20 ?_; (with_reducible refine (impl_PlainCurve.calls k _ _ t290 _ _ l0 t293 true _ ?side1 ?side2 ?side3 ?side4 A3.out).mono ?_); (case side1 => repeat (first | exact (Kd.N_reads' HO292.out).2.2 | (with_reducible refine Kd.C_alloc ?_ _) | (with_reducible refine Kd.C_drewN ?_ _) | (with_reducible refine Kd.C_drew ?_))); (case side2 => exact (Kd.N_reads' HO292.out).2.1); (case side3 => repeat (first | exact (Kd.C_below HR0.out HB.out) | (with_reducible refine Kd.C_alloc ?_ _) | (with_reducible refine Kd.C_drewN ?_ _) | (with_reducible refine Kd.C_drew ?_))); (case side4 => exact HC0.out); rintro e w39 ⟨v295, rfl, ho0, hb⟩; refine ⟨_, rfl, ?_⟩; have n0_ := Az.mk (Kd.N_elder' (by (with_reducible repeat (first | apply Kd.N_alloc | apply Kd.N_drewN | apply Kd.N_drew)); exact HO292.out) (Kd.R_base ho0) hb); have n1_ := Az.mk (Kd.R_lower ho0 (bwZ bw_20)); have n2_ := Az.mk (bkB (g := gb289) (o := .cells #[.int .i64 0, .int .i64 0] 24 (0, 0)) (by (with_reducible repeat (first | refine bkN ?_ _ | refine bkD ?_ | refine bkA ?_ _)); exact BK289.out) hb); have n3_ := Az.mk (bwT bw_20 hb); clear HO292; clear BK289; clear HB; have HO292 := n0_; have HO296 := n1_; have BK289 := n2_; have HB := n3_; clear n0_ n1_ n2_ n3_; (try clear hb); (try clear hb2); (try clear hk); (try clear hi); (try clear ho0)))
  have n0_ := Az.mk (Kd.N_drew HO292.out)
  have n1_ := Az.mk (Kd.R_drew HO296.out)
  have n2_ := Az.mk (bkD BK289.out)
  have n3_ := Az.mk (bwD HB.out)
  clear HO292
  clear HO296
  clear BK289
  clear HB
  have HO292 := n0_
  have HO296 := n1_
  have BK289 := n2_
  have HB := n3_
  clear n0_ n1_ n2_ n3_
  obtain ⟨Ao41, co41, eo41⟩ := Kd.R_slice HO296.out
  (first | subst eo41 | (injection eo41 with f1_ f2_ f3_; have f4_ := f1_.symm; have f5_ := f3_.symm; clear f1_ f2_ f3_; subst f4_; subst f5_))
  have p297 : 0 ≤ (0 : Int) := (by omega)
  have q297 : 0 < (t293.length : Int) := of_decide_eq_true (by first | (with_reducible assumption) | assumption)
  obtain ⟨ad297, e297, hx297_0⟩ := Kd.at_int (Kd.R_reads' HO296.out).2.2 0 p297 q297
  cases e297
  have qi297 : (0 < t293.length) = True := eq_true (by omega)
  (try rw [show ((0 : Int)).toNat = 0 from rfl] at hx297_0)
  (try rw [Addr.add_zero'] at hx297_0)
  replace p297 := eq_true p297
  replace q297 := eq_true q297
  have p298 : 0 ≤ (1 : Int) := (by omega)
  have q298 : 1 < (t293.length : Int) := of_decide_eq_true (by first | (with_reducible assumption) | assumption)
  obtain ⟨ad298, e298, hx298_0⟩ := Kd.at_int (Kd.R_reads' HO296.out).2.2 1 p298 q298
  obtain rfl : ad297 = ad298 := (by injection e298)
  (try simp only [show (1 : Int).toNat = 1 from rfl, Nat.reduceMul, Nat.reduceEqDiff, Go.Addr.add, ↓reduceIte] at hx298_0)
  have qi298 : (1 < t293.length) = True := eq_true (by omega)
  (try rw [show ((1 : Int)).toNat = 1 from rfl] at hx298_0)
  replace p298 := eq_true p298
  replace q298 := eq_true q298
  refine start_ (n := 8) (S := fun w' => w'.cell? ad297 = some (.int .i64 (rd t293 0)) ∧ w'.cell? ⟨ad297.block, ad297.off + 1, none⟩ = some (.int .i64 (rd t293 1))) (ds := []) #[F,F,F,F,F,F,F,F] (by kernel_rfl) rfl rfl ⟨hx297_0, hx298_0⟩ (fun hHeld => ?_); refine with_tabW impl_SlopeOfCurve.tab4 impl_SlopeOfCurve.bits4 (fun HT_ HW_ => ?_)
  generalize w39.drew = w40 at HO292 HO296 BK289 HB hx297_0 hx298_0 hHeld ⊢
  refine pure_ (i := 0) (N := some 18) (v := ?_) (a' := ?_) #[T,F,F,F,F,F,F,F] rfl rfl (any_of HT_.out (by kernel_rfl)) (fun _ _ _ h => h) (Or.inl ⟨by rfl, ?_⟩) ?_ ?_
  rotate_left
  ·intro w'
   go_simp
   with_reducible rfl
  rotate_left
  ·simp only [Act.put, List.setIfInBounds_toArray, List.set_cons_zero, List.set_cons_succ, i64_w, i32_w]
   rfl
  refine pure_ (i := 1) (N := some 19) (v := ?_) (a' := ?_) #[T,T,F,F,F,F,F,F] rfl rfl (any_of HT_.out (by kernel_rfl)) (fun _ _ _ h => h) (Or.inl ⟨by rfl, ?_⟩) ?_ ?_
  rotate_left
  ·intro w'
   go_simp
   with_reducible rfl
  rotate_left
  ·simp only [Act.put, List.setIfInBounds_toArray, List.set_cons_zero, List.set_cons_succ, i64_w, i32_w]
   rfl
  refine pure_ (i := 3) (N := some 21) (v := ?_) (a' := ?_) #[T,T,F,T,F,F,F,F] rfl rfl (any_of HT_.out (by kernel_rfl)) (fun _ _ _ h => h) (Or.inl ⟨by rfl, ?_⟩) ?_ ?_
  rotate_left
  ·intro w'
   go_simp
   with_reducible rfl
  rotate_left
  ·simp only [Act.put, List.setIfInBounds_toArray, List.set_cons_zero, List.set_cons_succ, i64_w, i32_w]
   rfl
  refine pure_ (i := 4) (N := some 22) (v := ?_) (a' := ?_) #[T,T,F,T,T,F,F,F] rfl rfl (any_of HT_.out (by kernel_rfl)) (fun _ _ _ h => h) (Or.inl ⟨by rfl, ?_⟩) ?_ ?_
  rotate_left
  ·intro w'
   go_simp
   with_reducible rfl
  rotate_left
  ·simp only [Act.put, List.setIfInBounds_toArray, List.set_cons_zero, List.set_cons_succ, i64_w, i32_w]
   rfl
  refine take_ (i := 2) (N := some 20) (v := ?_) (a' := ?_) #[T,T,T,T,T,F,F,F] rfl rfl (take_ofW HT_.out HW_.out (by kernel_rfl)) (fun _ _ _ h => h) (Or.inl ⟨by rfl, ?_⟩) hHeld ?_ ?_
  rotate_left
  ·rintro w' ⟨s0, s1⟩
   go_simp
   with_reducible rfl
  rotate_left
  ·simp only [Act.put, List.setIfInBounds_toArray, List.set_cons_zero, List.set_cons_succ, i64_w, i32_w]
   rfl
  refine take_ (i := 5) (N := some 23) (v := ?_) (a' := ?_) #[T,T,T,T,T,T,F,F] rfl rfl (take_ofW HT_.out HW_.out (by kernel_rfl)) (fun _ _ _ h => h) (Or.inl ⟨by rfl, ?_⟩) hHeld ?_ ?_
  rotate_left
  ·rintro w' ⟨s0, s1⟩
   go_simp
   with_reducible rfl
  rotate_left
  ·simp only [Act.put, List.setIfInBounds_toArray, List.set_cons_zero, List.set_cons_succ, i64_w, i32_w]
   rfl
  refine one_ (i := 6) (N := some 24) #[T,T,T,T,T,T,T,F] rfl rfl (one_of HT_.out (by kernel_rfl)) (by decide) (fun K hK => ?_)
  refine goes_ Try.func41 (by kernel_rfl) rfl #[.int .i64 (rd t293 0), .int .i64 (rd t293 1)] (by rfl) rfl rfl ln_20 ?_
  with_reducible refine (impl_gcd.calls k (rd t293 0) (rd t293 1) t299 _ A7.out).mono ?_
  rintro e w42 ⟨rfl, hb⟩
  have HS0_ := (hb.cell (World.block_lt_of_cell? _ _ (hHeld.1))).trans (hHeld.1)
  have HS1_ := (hb.cell (World.block_lt_of_cell? _ _ (hHeld.2))).trans (hHeld.2)
  refine ⟨_, rfl, ?_⟩
  have n0_ := Az.mk (Kd.N_below (by (with_reducible repeat (first | apply Kd.N_alloc | apply Kd.N_drewN | apply Kd.N_drew)); exact HO292.out) hb)
  have n1_ := Az.mk (Kd.R_below (by (with_reducible repeat (first | apply Kd.R_alloc | apply Kd.R_drewN | apply Kd.R_drew)); exact HO296.out) hb)
  have n2_ := Az.mk (bkB (g := gb289) (o := .cells #[.int .i64 0, .int .i64 0] 24 (0, 0)) (by (with_reducible repeat (first | refine bkN ?_ _ | refine bkD ?_ | refine bkA ?_ _)); exact BK289.out) hb)
  have n3_ := Az.mk (bwT bw_20 hb)
  clear HO292
  clear HO296
  clear BK289
  clear HB
  have HO292 := n0_
  have HO296 := n1_
  have BK289 := n2_
  have HB := n3_
  clear n0_ n1_ n2_ n3_
  (try clear hb)
  (try clear hb2)
  (try clear hk)
  (try clear hi)
  refine hK.out _ _ ⟨HS0_, HS1_⟩ (fun hHeld => ?_)
  clear hK K
  refine norm_ (a' := ?_) ?_ ?_
  rotate_left
  ·show Act.put _ (some 24) _ = _
   simp only [Act.put, List.setIfInBounds_toArray, List.set_cons_zero, List.set_cons_succ, i64_w, i32_w]
   rfl
  refine pure_ (i := 7) (N := some 7) (v := ?_) (a' := ?_) #[T,T,T,T,T,T,T,T] rfl rfl (any_of HT_.out (by kernel_rfl)) (fun _ _ _ h => h) (Or.inl ⟨by rfl, ?_⟩) ?_ ?_
  rotate_left
  ·intro w'
   go_simp
   with_reducible rfl
  rotate_left
  ·simp only [Act.put, List.setIfInBounds_toArray, List.set_cons_zero, List.set_cons_succ, i64_w, i32_w]
   rfl
  refine done_ (done_of HT_.out (by kernel_rfl)) ?_
  try go_wp2
  have n0_ := Az.mk (Kd.N_drew HO292.out)
  have n1_ := Az.mk (Kd.R_drew HO296.out)
  have n2_ := Az.mk (bkD BK289.out)
  have n3_ := Az.mk (bwD HB.out)
  clear HO292
  clear HO296
  clear BK289
  clear HB
  have HO292 := n0_
  have HO296 := n1_
  have BK289 := n2_
  have HB := n3_
  clear n0_ n1_ n2_ n3_
  have p300 : 0 ≤ (0 : Int) := (by omega)
  have q300 : 0 < (t293.length : Int) := of_decide_eq_true (by first | (with_reducible assumption) | assumption)
  obtain ⟨ad300, e300, hx300_0⟩ := Kd.at_int (Kd.R_reads' HO296.out).2.2 0 p300 q300
  obtain rfl : ad297 = ad300 := (by injection e300)
  have qi300 : (0 < t293.length) = True := eq_true (by omega)
  (try rw [show ((0 : Int)).toNat = 0 from rfl] at hx300_0)
  (try rw [Addr.add_zero'] at hx300_0)
  replace p300 := eq_true p300
  replace q300 := eq_true q300
  have p301 : 0 ≤ (1 : Int) := (by omega)
  have q301 : 1 < (t293.length : Int) := of_decide_eq_true (by first | (with_reducible assumption) | assumption)
  obtain ⟨ad301, e301, hx301_0⟩ := Kd.at_int (Kd.R_reads' HO296.out).2.2 1 p301 q301
  obtain rfl : ad297 = ad301 := (by injection e301)
  (try simp only [show (1 : Int).toNat = 1 from rfl, Nat.reduceMul, Nat.reduceEqDiff, Go.Addr.add, ↓reduceIte] at hx301_0)
  have qi301 : (1 < t293.length) = True := eq_true (by omega)
  (try rw [show ((1 : Int)).toNat = 1 from rfl] at hx301_0)
  replace p301 := eq_true p301
  replace q301 := eq_true q301
  refine start_ (n := 13) (S := fun w' => w'.cell? ad297 = some (.int .i64 (rd t293 0)) ∧ w'.cell? ⟨ad297.block, ad297.off + 1, none⟩ = some (.int .i64 (rd t293 1))) (ds := []) #[F,F,F,F,F,F,F,F,F,F,F,F,F] (by kernel_rfl) rfl rfl ⟨hx300_0, hx301_0⟩ (fun hHeld => ?_); refine with_tabW impl_SlopeOfCurve.tab7 impl_SlopeOfCurve.bits7 (fun HT_ HW_ => ?_)
  generalize w42.drew = w43 at HO292 HO296 BK289 HB hx300_0 hx301_0 hHeld ⊢
  refine pure_ (i := 0) (N := some 28) (v := ?_) (a' := ?_) #[T,F,F,F,F,F,F,F,F,F,F,F,F] rfl rfl (any_of HT_.out (by kernel_rfl)) (fun _ _ _ h => h) (Or.inl ⟨by rfl, ?_⟩) ?_ ?_
  rotate_left
  ·intro w'
   go_simp
   with_reducible rfl
  rotate_left
  ·simp only [Act.put, List.setIfInBounds_toArray, List.set_cons_zero, List.set_cons_succ, i64_w, i32_w]
   rfl
  refine pure_ (i := 1) (N := some 29) (v := ?_) (a' := ?_) #[T,T,F,F,F,F,F,F,F,F,F,F,F] rfl rfl (any_of HT_.out (by kernel_rfl)) (fun _ _ _ h => h) (Or.inl ⟨by rfl, ?_⟩) ?_ ?_
  rotate_left
  ·intro w'
   go_simp
   with_reducible rfl
  rotate_left
  ·simp only [Act.put, List.setIfInBounds_toArray, List.set_cons_zero, List.set_cons_succ, i64_w, i32_w]
   rfl
  refine pure_ (i := 3) (N := some 31) (v := ?_) (a' := ?_) #[T,T,F,T,F,F,F,F,F,F,F,F,F] rfl rfl (any_of HT_.out (by kernel_rfl)) (fun _ _ _ h => h) (Or.inl ⟨by rfl, ?_⟩) ?_ ?_
  rotate_left
  ·intro w'
   go_simp
   with_reducible rfl
  rotate_left
  ·simp only [Act.put, List.setIfInBounds_toArray, List.set_cons_zero, List.set_cons_succ, i64_w, i32_w]
   rfl
  refine pure_ (i := 5) (N := some 33) (v := ?_) (a' := ?_) #[T,T,F,T,F,T,F,F,F,F,F,F,F] rfl rfl (any_of HT_.out (by kernel_rfl)) (fun _ _ _ h => h) (Or.inl ⟨by rfl, ?_⟩) ?_ ?_
  rotate_left
  ·intro w'
   go_simp
   with_reducible rfl
  rotate_left
  ·simp only [Act.put, List.setIfInBounds_toArray, List.set_cons_zero, List.set_cons_succ, i64_w, i32_w]
   rfl
  refine pure_ (i := 6) (N := some 34) (v := ?_) (a' := ?_) #[T,T,F,T,F,T,T,F,F,F,F,F,F] rfl rfl (any_of HT_.out (by kernel_rfl)) (fun _ _ _ h => h) (Or.inl ⟨by rfl, ?_⟩) ?_ ?_
  rotate_left
  ·intro w'
   go_simp
   with_reducible rfl
  rotate_left
  ·simp only [Act.put, List.setIfInBounds_toArray, List.set_cons_zero, List.set_cons_succ, i64_w, i32_w]
   rfl
  refine pure_ (i := 8) (N := some 36) (v := ?_) (a' := ?_) #[T,T,F,T,F,T,T,F,T,F,F,F,F] rfl rfl (any_of HT_.out (by kernel_rfl)) (fun _ _ _ h => h) (Or.inl ⟨by rfl, ?_⟩) ?_ ?_
  rotate_left
  ·intro w'
   go_simp
   with_reducible rfl
  rotate_left
  ·simp only [Act.put, List.setIfInBounds_toArray, List.set_cons_zero, List.set_cons_succ, i64_w, i32_w]
   rfl
  refine take_ (i := 2) (N := some 30) (v := ?_) (a' := ?_) #[T,T,T,T,F,T,T,F,T,F,F,F,F] rfl rfl (take_ofW HT_.out HW_.out (by kernel_rfl)) (fun _ _ _ h => h) (Or.inl ⟨by rfl, ?_⟩) hHeld ?_ ?_
  rotate_left
  ·rintro w' ⟨s0, s1⟩
   go_simp
   with_reducible rfl
  rotate_left
  ·simp only [Act.put, List.setIfInBounds_toArray, List.set_cons_zero, List.set_cons_succ, i64_w, i32_w]
   rfl
  refine pure_ (i := 4) (N := some 32) (v := ?_) (a' := ?_) #[T,T,T,T,T,T,T,F,T,F,F,F,F] rfl rfl (any_of HT_.out (by kernel_rfl)) (fun _ _ _ h => h) (Or.inl ⟨by rfl, ?_⟩) ?_ ?_
  rotate_left
  ·intro w'
   go_simp
   with_reducible rfl
  rotate_left
  ·simp only [Act.put, List.setIfInBounds_toArray, List.set_cons_zero, List.set_cons_succ, i64_w, i32_w]
   rfl
  refine take_ (i := 7) (N := some 35) (v := ?_) (a' := ?_) #[T,T,T,T,T,T,T,T,T,F,F,F,F] rfl rfl (take_ofW HT_.out HW_.out (by kernel_rfl)) (fun _ _ _ h => h) (Or.inl ⟨by rfl, ?_⟩) hHeld ?_ ?_
  rotate_left
  ·rintro w' ⟨s0, s1⟩
   go_simp
   with_reducible rfl
  rotate_left
  ·simp only [Act.put, List.setIfInBounds_toArray, List.set_cons_zero, List.set_cons_succ, i64_w, i32_w]
   rfl
  refine pure_ (i := 9) (N := some 37) (v := ?_) (a' := ?_) #[T,T,T,T,T,T,T,T,T,T,F,F,F] rfl rfl (any_of HT_.out (by kernel_rfl)) (fun _ _ _ h => h) (Or.inl ⟨by rfl, ?_⟩) ?_ ?_
  rotate_left
  ·intro w'
   go_simp
   with_reducible rfl
  rotate_left
  ·simp only [Act.put, List.setIfInBounds_toArray, List.set_cons_zero, List.set_cons_succ, i64_w, i32_w]
   rfl
  refine pure_ (i := 10) (N := some 38) (v := ?_) (a' := ?_) #[T,T,T,T,T,T,T,T,T,T,T,F,F] rfl rfl (any_of HT_.out (by kernel_rfl)) (fun _ _ _ h => h) (Or.inl ⟨by rfl, ?_⟩) ?_ ?_
  rotate_left
  ·intro w'
   go_simp
   with_reducible rfl
  rotate_left
  ·simp only [Act.put, List.setIfInBounds_toArray, List.set_cons_zero, List.set_cons_succ, i64_w, i32_w]
   rfl
  refine one_ (i := 11) (N := some 8) #[T,T,T,T,T,T,T,T,T,T,T,T,F] rfl rfl (one_of HT_.out (by kernel_rfl)) (by decide) (fun K hK => ?_)
  refine box_step ?hg (N := 8) ?hd (cs := #[.int .i64 0, .int .i64 0]) (t := 24) ?hr ?_; (case hd => rfl); (case hg => rfl); (case hr => first | (go_simp; done) | (go_simp; rfl))
  intro gb302 hg w44 hbox hb
  have HS0_ := (hb.cell (World.block_lt_of_cell? _ _ (hHeld.1))).trans (hHeld.1)
  have HS1_ := (hb.cell (World.block_lt_of_cell? _ _ (hHeld.2))).trans (hHeld.2)
  have n0_ := Az.mk (Kd.N_below (Kd.N_elderB (by (with_reducible repeat (first | apply Kd.N_alloc | apply Kd.N_drewN | apply Kd.N_drew)); exact HO292.out) gb302 (Nat.le_of_eq hg.symm)) hb)
  have n1_ := Az.mk (Kd.R_below (by (with_reducible repeat (first | apply Kd.R_alloc | apply Kd.R_drewN | apply Kd.R_drew)); exact HO296.out) hb)
  have n2_ := Az.mk (bkB (g := gb289) (o := .cells #[.int .i64 0, .int .i64 0] 24 (0, 0)) (by (with_reducible repeat (first | refine bkN ?_ _ | refine bkD ?_ | refine bkA ?_ _)); exact BK289.out) hb)
  have n3_ := Az.mk (bwT bw_20 hb)
  have n4_ := Az.mk (hbox)
  have n5_ := Az.mk ((by rw [hg]; exact (bwZ bw_20) : w.heap.size ≤ gb302))
  have n6_ := Az.mk ((by rw [hg]; exact (bwZ bw_20) : w.heap.size ≤ gb302))
  have n7_ := Az.mk ((by rw [hg]; exact Nat.ne_of_lt (blk_lt (g := gb289) (o := .cells #[.int .i64 0, .int .i64 0] 24 (0, 0)) (by (with_reducible repeat (first | refine bkN ?_ _ | refine bkD ?_ | refine bkA ?_ _)); exact BK289.out)) : gb289 ≠ gb302))
  have n8_ := Az.mk ((by rw [hg]; exact Nat.ne_of_gt (blk_lt (g := gb289) (o := .cells #[.int .i64 0, .int .i64 0] 24 (0, 0)) (by (with_reducible repeat (first | refine bkN ?_ _ | refine bkD ?_ | refine bkA ?_ _)); exact BK289.out)) : gb302 ≠ gb289))
  clear HO292
  clear HO296
  clear BK289
  clear HB
  have HO292 := n0_
  have HO296 := n1_
  have BK289 := n2_
  have HB := n3_
  have BK302 := n4_
  have GW302 := n5_
  have GE302 := n6_
  have NB289_302 := n7_
  have NB302_289 := n8_
  clear n0_ n1_ n2_ n3_ n4_ n5_ n6_ n7_ n8_
  clear hb hbox hg
  refine hK.out _ _ ⟨HS0_, HS1_⟩ (fun hHeld => ?_)
  clear hK K
  refine norm_ (a' := ?_) ?_ ?_
  rotate_left
  ·show Act.put _ (some 8) _ = _
   simp only [Act.put, List.setIfInBounds_toArray, List.set_cons_zero, List.set_cons_succ, i64_w, i32_w]
   rfl
  refine one_ (i := 12) (N := none) #[T,T,T,T,T,T,T,T,T,T,T,T,T] rfl rfl (one_of HT_.out (by kernel_rfl)) (by decide) (fun K hK => ?_)
  have hs45 : w44.cell? ⟨gb302, 0, none⟩ = some (.int .i64 0) := (bkC BK302.out 0).trans rfl
  have hfs45 := bkF BK302.out 0
  have hns45_0 := NB289_302.out
  have hms45_0 := NB302_289.out
  have hs46 : w44.cell? ⟨gb302, 1, none⟩ = some (.int .i64 0) := (bkC BK302.out 1).trans rfl
  have hfs46 := bkF BK302.out 1
  have hns46_0 := NB289_302.out
  have hms46_0 := NB302_289.out
  refine skip_ (w1 := ?_) (by rfl) rfl ?_ ?_
  rotate_left
  ·go_simp
   rfl
  refine hK.out _ _ ⟨((cell_far (p := ⟨gb302, _, none⟩) (by first | exact Kd.own_blk (Kd.R_ne HO296.out BK302.out (by decide)) | (rw [add_block]; exact Kd.own_blk (Kd.R_ne HO296.out BK302.out (by decide))) | (show (Addr.add _ _).block ≠ _; rw [add_block]; exact Kd.own_blk (Kd.R_ne HO296.out BK302.out (by decide))) | (dsimp only; exact Kd.own_blk (Kd.R_ne HO296.out BK302.out (by decide)))) _).trans (((cell_far (p := ⟨gb302, _, none⟩) (by first | exact Kd.own_blk (Kd.R_ne HO296.out BK302.out (by decide)) | (rw [add_block]; exact Kd.own_blk (Kd.R_ne HO296.out BK302.out (by decide))) | (show (Addr.add _ _).block ≠ _; rw [add_block]; exact Kd.own_blk (Kd.R_ne HO296.out BK302.out (by decide))) | (dsimp only; exact Kd.own_blk (Kd.R_ne HO296.out BK302.out (by decide)))) _).trans (hHeld.1)))), ((cell_far (p := ⟨gb302, _, none⟩) (by first | exact Kd.own_blk (Kd.R_ne HO296.out BK302.out (by decide)) | (rw [add_block]; exact Kd.own_blk (Kd.R_ne HO296.out BK302.out (by decide))) | (show (Addr.add _ _).block ≠ _; rw [add_block]; exact Kd.own_blk (Kd.R_ne HO296.out BK302.out (by decide))) | (dsimp only; exact Kd.own_blk (Kd.R_ne HO296.out BK302.out (by decide)))) _).trans (((cell_far (p := ⟨gb302, _, none⟩) (by first | exact Kd.own_blk (Kd.R_ne HO296.out BK302.out (by decide)) | (rw [add_block]; exact Kd.own_blk (Kd.R_ne HO296.out BK302.out (by decide))) | (show (Addr.add _ _).block ≠ _; rw [add_block]; exact Kd.own_blk (Kd.R_ne HO296.out BK302.out (by decide))) | (dsimp only; exact Kd.own_blk (Kd.R_ne HO296.out BK302.out (by decide)))) _).trans (hHeld.2))))⟩ (fun hHeld => ?_)
  clear hK K
  refine done_ (done_of HT_.out (by kernel_rfl)) ?_
  try go_wp2
  have n0_ : Az (Kd.N (Kd.slice 3 (Kd.int .i64)) 22 ((w44.setCell ⟨gb302, 0, none⟩ (.int .i64 (wrap64 (Int.tdiv (rd t293 0) t299)))).setCell ⟨gb302, 1, none⟩ (.int .i64 (wrap64 (Int.tdiv (rd t293 1) t299)))) w.heap.size (fun k_ => some k_ ≠ (.slice (some ad297) t293.length co41 : Value).ownBlock ∧ k_ ≠ gb289 ∧ k_ ≠ gb302) (.slice Ao38 t290.length co38) t290) := ⟨by (with_reducible repeat (first | apply Kd.N_alloc | apply Kd.N_drewN | apply Kd.N_drew)); exact Kd.N_mono (Kd.N_far (p := ⟨gb302, 1, none⟩) (Kd.N_far (p := ⟨gb302, 0, none⟩) (Kd.N_mono HO292.out (fun k_ hk => (⟨hk, hk.2⟩ : _ ∧ k_ ≠ gb302))) (fun _ hk => hk.2) (.int .i64 (wrap64 (Int.tdiv (rd t293 0) t299)))) (fun _ hk => hk.2) (.int .i64 (wrap64 (Int.tdiv (rd t293 1) t299)))) (fun _ hk => ⟨hk.1.1.2, ⟨hk.1.1.1, hk.1.2⟩⟩)⟩
  have n1_ : Az (Kd.R (Kd.int .i64) 3 ((w44.setCell ⟨gb302, 0, none⟩ (.int .i64 (wrap64 (Int.tdiv (rd t293 0) t299)))).setCell ⟨gb302, 1, none⟩ (.int .i64 (wrap64 (Int.tdiv (rd t293 1) t299)))) w.heap.size (fun _ => True) (.slice (some ad297) t293.length co41) t293) := ⟨by (with_reducible repeat (first | apply Kd.R_alloc | apply Kd.R_drewN | apply Kd.R_drew)); exact Kd.R_mono (Kd.R_far (p := ⟨gb302, 1, none⟩) (Kd.R_far (p := ⟨gb302, 0, none⟩) (Kd.R_types HO296.out BK302.out (by decide)) (fun _ hk => hk.2) (.int .i64 (wrap64 (Int.tdiv (rd t293 0) t299)))) (fun _ hk => hk.2) (.int .i64 (wrap64 (Int.tdiv (rd t293 1) t299)))) (fun _ hk => trivial)⟩
  have n2_ : Az (((w44.setCell ⟨gb302, 0, none⟩ (.int .i64 (wrap64 (Int.tdiv (rd t293 0) t299)))).setCell ⟨gb302, 1, none⟩ (.int .i64 (wrap64 (Int.tdiv (rd t293 1) t299)))).heap[gb289]? = some (.cells #[.int .i64 0, .int .i64 0] 24 (0, 0))) := ⟨by (with_reducible repeat (first | refine bkN ?_ _ | refine bkD ?_ | refine bkA ?_ _)); refine bkf ?_ NB289_302.out _; (with_reducible repeat (first | refine bkN ?_ _ | refine bkD ?_ | refine bkA ?_ _)); refine bkf ?_ NB289_302.out _; (with_reducible repeat (first | refine bkN ?_ _ | refine bkD ?_ | refine bkA ?_ _)); exact BK289.out⟩
  have n3_ : Az (((w44.setCell ⟨gb302, 0, none⟩ (.int .i64 (wrap64 (Int.tdiv (rd t293 0) t299)))).setCell ⟨gb302, 1, none⟩ (.int .i64 (wrap64 (Int.tdiv (rd t293 1) t299)))).heap[gb302]? = some (.cells #[.int .i64 (wrap64 (Int.tdiv (rd t293 0) t299)), .int .i64 (wrap64 (Int.tdiv (rd t293 1) t299))] 24 (0, 0))) := ⟨by (with_reducible repeat (first | refine bkN ?_ _ | refine bkD ?_ | refine bkA ?_ _)); refine bkp (cs := #[.int .i64 (wrap64 (Int.tdiv (rd t293 0) t299)), .int .i64 0]) ?_ 1 _ rfl; (with_reducible repeat (first | refine bkN ?_ _ | refine bkD ?_ | refine bkA ?_ _)); refine bkp (cs := #[.int .i64 0, .int .i64 0]) ?_ 0 _ rfl; (with_reducible repeat (first | refine bkN ?_ _ | refine bkD ?_ | refine bkA ?_ _)); exact BK302.out⟩
  have n4_ : Az (Below w.heap.size w ((w44.setCell ⟨gb302, 0, none⟩ (.int .i64 (wrap64 (Int.tdiv (rd t293 0) t299)))).setCell ⟨gb302, 1, none⟩ (.int .i64 (wrap64 (Int.tdiv (rd t293 1) t299))))) := ⟨by repeat (first | (with_reducible first | exact HB.out | apply bwA | apply pbN | apply bwD | refine bwS ?_ GE289.out | refine bwS ?_ GE302.out) | exact HB.out)⟩
  (try clear HO292)
  (try clear HO296)
  (try clear BK289)
  (try clear BK302)
  (try clear HB)
  generalize ((w44.setCell ⟨gb302, 0, none⟩ (.int .i64 (wrap64 (Int.tdiv (rd t293 0) t299)))).setCell ⟨gb302, 1, none⟩ (.int .i64 (wrap64 (Int.tdiv (rd t293 1) t299)))) = w47 at n0_ n1_ n2_ n3_ n4_ ⊢
  have HO292 := n0_
  have HO296 := n1_
  have BK289 := n2_
  have BK302 := n3_
  have HB := n4_
  clear n0_ n1_ n2_ n3_ n4_
  have n0_ := Az.mk (Kd.N_drew HO292.out)
  have n1_ := Az.mk (Kd.R_drew HO296.out)
  have n2_ := Az.mk (bkD BK289.out)
  have n3_ := Az.mk (bkD BK302.out)
  have n4_ := Az.mk (bwD HB.out)
  clear HO292
  clear HO296
  clear BK289
  clear BK302
  clear HB
  have HO292 := n0_
  have HO296 := n1_
  have BK289 := n2_
  have BK302 := n3_
  have HB := n4_
  clear n0_ n1_ n2_ n3_ n4_
  have p303 : 0 ≤ (2 : Int) := (by omega)
  have q303 : 2 < (t293.length : Int) := of_decide_eq_true (by first | (with_reducible assumption) | assumption)
  obtain ⟨ad303, e303, hx303_0⟩ := Kd.at_int (Kd.R_reads' HO296.out).2.2 2 p303 q303
  obtain rfl : ad297 = ad303 := (by injection e303)
  (try simp only [show (2 : Int).toNat = 2 from rfl, Nat.reduceMul, Nat.reduceEqDiff, Go.Addr.add, ↓reduceIte] at hx303_0)
  have qi303 : (2 < t293.length) = True := eq_true (by omega)
  (try rw [show ((2 : Int)).toNat = 2 from rfl] at hx303_0)
  replace p303 := eq_true p303
  replace q303 := eq_true q303
  have p304 : 0 ≤ (0 : Int) := (by omega)
  have q304 : 0 < (t293.length : Int) := of_decide_eq_true (by first | (with_reducible assumption) | assumption)
  obtain ⟨ad304, e304, hx304_0⟩ := Kd.at_int (Kd.R_reads' HO296.out).2.2 0 p304 q304
  obtain rfl : ad297 = ad304 := (by injection e304)
  have qi304 : (0 < t293.length) = True := eq_true (by omega)
  (try rw [show ((0 : Int)).toNat = 0 from rfl] at hx304_0)
  (try rw [Addr.add_zero'] at hx304_0)
  replace p304 := eq_true p304
  replace q304 := eq_true q304
  have p305 : 0 ≤ (1 : Int) := (by omega)
  have q305 : 1 < (t293.length : Int) := of_decide_eq_true (by first | (with_reducible assumption) | assumption)
  obtain ⟨ad305, e305, hx305_0⟩ := Kd.at_int (Kd.R_reads' HO296.out).2.2 1 p305 q305
  obtain rfl : ad297 = ad305 := (by injection e305)
  (try simp only [show (1 : Int).toNat = 1 from rfl, Nat.reduceMul, Nat.reduceEqDiff, Go.Addr.add, ↓reduceIte] at hx305_0)
  have qi305 : (1 < t293.length) = True := eq_true (by omega)
  (try rw [show ((1 : Int)).toNat = 1 from rfl] at hx305_0)
  replace p305 := eq_true p305
  replace q305 := eq_true q305
  refine start_ (n := 16) (S := fun w' => w'.cell? ⟨gb302, 0, none⟩ = some (.int .i64 (wrap64 (Int.tdiv (rd t293 0) t299))) ∧ w'.cell? ⟨gb302, 1, none⟩ = some (.int .i64 (wrap64 (Int.tdiv (rd t293 1) t299))) ∧ w'.cell? ⟨ad297.block, ad297.off + 2, none⟩ = some (.int .i64 (rd t293 2)) ∧ w'.cell? ad297 = some (.int .i64 (rd t293 0)) ∧ w'.cell? ⟨ad297.block, ad297.off + 1, none⟩ = some (.int .i64 (rd t293 1))) (ds := []) #[F,F,F,F,F,F,F,F,F,F,F,F,F,F,F,F] (by kernel_rfl) rfl rfl ⟨(bkC BK302.out 0).trans rfl, (bkC BK302.out 1).trans rfl, hx303_0, hx304_0, hx305_0⟩ (fun hHeld => ?_); refine with_tabW impl_SlopeOfCurve.tab8 impl_SlopeOfCurve.bits8 (fun HT_ HW_ => ?_)
  generalize w47.drew = w48 at HO292 HO296 BK289 BK302 HB hx303_0 hx304_0 hx305_0 hHeld ⊢
  refine pure_ (i := 0) (N := some 39) (v := ?_) (a' := ?_) #[T,F,F,F,F,F,F,F,F,F,F,F,F,F,F,F] rfl rfl (any_of HT_.out (by kernel_rfl)) (fun _ _ _ h => h) (Or.inl ⟨by rfl, ?_⟩) ?_ ?_
  rotate_left
  ·intro w'
   go_simp
   with_reducible rfl
  rotate_left
  ·simp only [Act.put, List.setIfInBounds_toArray, List.set_cons_zero, List.set_cons_succ, i64_w, i32_w]
   rfl
  refine take_ (i := 1) (N := some 40) (v := ?_) (a' := ?_) #[T,T,F,F,F,F,F,F,F,F,F,F,F,F,F,F] rfl rfl (take_ofW HT_.out HW_.out (by kernel_rfl)) (fun _ _ _ h => h) (Or.inl ⟨by rfl, ?_⟩) hHeld ?_ ?_
  rotate_left
  ·rintro w' ⟨s0, s1, s2, s3, s4⟩
   go_simp
   with_reducible rfl
  rotate_left
  ·simp only [Act.put, List.setIfInBounds_toArray, List.set_cons_zero, List.set_cons_succ, i64_w, i32_w]
   rfl
  refine pure_ (i := 2) (N := some 41) (v := ?_) (a' := ?_) #[T,T,T,F,F,F,F,F,F,F,F,F,F,F,F,F] rfl rfl (any_of HT_.out (by kernel_rfl)) (fun _ _ _ h => h) (Or.inl ⟨by rfl, ?_⟩) ?_ ?_
  rotate_left
  ·intro w'
   go_simp
   with_reducible rfl
  rotate_left
  ·simp only [Act.put, List.setIfInBounds_toArray, List.set_cons_zero, List.set_cons_succ, i64_w, i32_w]
   rfl
  refine pure_ (i := 3) (N := some 42) (v := ?_) (a' := ?_) #[T,T,T,T,F,F,F,F,F,F,F,F,F,F,F,F] rfl rfl (any_of HT_.out (by kernel_rfl)) (fun _ _ _ h => h) (Or.inl ⟨by rfl, ?_⟩) ?_ ?_
  rotate_left
  ·intro w'
   go_simp
   with_reducible rfl
  rotate_left
  ·simp only [Act.put, List.setIfInBounds_toArray, List.set_cons_zero, List.set_cons_succ, i64_w, i32_w]
   rfl
  refine pure_ (i := 4) (N := some 43) (v := ?_) (a' := ?_) #[T,T,T,T,T,F,F,F,F,F,F,F,F,F,F,F] rfl rfl (any_of HT_.out (by kernel_rfl)) (fun _ _ _ h => h) (Or.inl ⟨by rfl, ?_⟩) ?_ ?_
  rotate_left
  ·intro w'
   go_simp
   with_reducible rfl
  rotate_left
  ·simp only [Act.put, List.setIfInBounds_toArray, List.set_cons_zero, List.set_cons_succ, i64_w, i32_w]
   rfl
  refine pure_ (i := 5) (N := some 44) (v := ?_) (a' := ?_) #[T,T,T,T,T,T,F,F,F,F,F,F,F,F,F,F] rfl rfl (any_of HT_.out (by kernel_rfl)) (fun _ _ _ h => h) (Or.inl ⟨by rfl, ?_⟩) ?_ ?_
  rotate_left
  ·intro w'
   go_simp
   with_reducible rfl
  rotate_left
  ·simp only [Act.put, List.setIfInBounds_toArray, List.set_cons_zero, List.set_cons_succ, i64_w, i32_w]
   rfl
  refine pure_ (i := 7) (N := some 46) (v := ?_) (a' := ?_) #[T,T,T,T,T,T,F,T,F,F,F,F,F,F,F,F] rfl rfl (any_of HT_.out (by kernel_rfl)) (fun _ _ _ h => h) (Or.inl ⟨by rfl, ?_⟩) ?_ ?_
  rotate_left
  ·intro w'
   go_simp
   with_reducible rfl
  rotate_left
  ·simp only [Act.put, List.setIfInBounds_toArray, List.set_cons_zero, List.set_cons_succ, i64_w, i32_w]
   rfl
  refine pure_ (i := 8) (N := some 47) (v := ?_) (a' := ?_) #[T,T,T,T,T,T,F,T,T,F,F,F,F,F,F,F] rfl rfl (any_of HT_.out (by kernel_rfl)) (fun _ _ _ h => h) (Or.inl ⟨by rfl, ?_⟩) ?_ ?_
  rotate_left
  ·intro w'
   go_simp
   with_reducible rfl
  rotate_left
  ·simp only [Act.put, List.setIfInBounds_toArray, List.set_cons_zero, List.set_cons_succ, i64_w, i32_w]
   rfl
  refine pure_ (i := 10) (N := some 49) (v := ?_) (a' := ?_) #[T,T,T,T,T,T,F,T,T,F,T,F,F,F,F,F] rfl rfl (any_of HT_.out (by kernel_rfl)) (fun _ _ _ h => h) (Or.inl ⟨by rfl, ?_⟩) ?_ ?_
  rotate_left
  ·intro w'
   go_simp
   with_reducible rfl
  rotate_left
  ·simp only [Act.put, List.setIfInBounds_toArray, List.set_cons_zero, List.set_cons_succ, i64_w, i32_w]
   rfl
  refine pure_ (i := 11) (N := some 50) (v := ?_) (a' := ?_) #[T,T,T,T,T,T,F,T,T,F,T,T,F,F,F,F] rfl rfl (any_of HT_.out (by kernel_rfl)) (fun _ _ _ h => h) (Or.inl ⟨by rfl, ?_⟩) ?_ ?_
  rotate_left
  ·intro w'
   go_simp
   with_reducible rfl
  rotate_left
  ·simp only [Act.put, List.setIfInBounds_toArray, List.set_cons_zero, List.set_cons_succ, i64_w, i32_w]
   rfl
  refine take_ (i := 6) (N := some 45) (v := ?_) (a' := ?_) #[T,T,T,T,T,T,T,T,T,F,T,T,F,F,F,F] rfl rfl (take_ofW HT_.out HW_.out (by kernel_rfl)) (fun _ _ _ h => h) (Or.inl ⟨by rfl, ?_⟩) hHeld ?_ ?_
  rotate_left
  ·rintro w' ⟨s0, s1, s2, s3, s4⟩
   go_simp
   with_reducible rfl
  rotate_left
  ·simp only [Act.put, List.setIfInBounds_toArray, List.set_cons_zero, List.set_cons_succ, i64_w, i32_w]
   rfl
  refine take_ (i := 9) (N := some 48) (v := ?_) (a' := ?_) #[T,T,T,T,T,T,T,T,T,T,T,T,F,F,F,F] rfl rfl (take_ofW HT_.out HW_.out (by kernel_rfl)) (fun _ _ _ h => h) (Or.inl ⟨by rfl, ?_⟩) hHeld ?_ ?_
  rotate_left
  ·rintro w' ⟨s0, s1, s2, s3, s4⟩
   go_simp
   with_reducible rfl
  rotate_left
  ·simp only [Act.put, List.setIfInBounds_toArray, List.set_cons_zero, List.set_cons_succ, i64_w, i32_w]
   rfl
  refine take_ (i := 12) (N := some 51) (v := ?_) (a' := ?_) #[T,T,T,T,T,T,T,T,T,T,T,T,T,F,F,F] rfl rfl (take_ofW HT_.out HW_.out (by kernel_rfl)) (fun _ _ _ h => h) (Or.inl ⟨by rfl, ?_⟩) hHeld ?_ ?_
  rotate_left
  ·rintro w' ⟨s0, s1, s2, s3, s4⟩
   go_simp
   with_reducible rfl
  rotate_left
  ·simp only [Act.put, List.setIfInBounds_toArray, List.set_cons_zero, List.set_cons_succ, i64_w, i32_w]
   rfl
  refine pure_ (i := 13) (N := some 52) (v := ?_) (a' := ?_) #[T,T,T,T,T,T,T,T,T,T,T,T,T,T,F,F] rfl rfl (any_of HT_.out (by kernel_rfl)) (fun _ _ _ h => h) (Or.inl ⟨by rfl, ?_⟩) ?_ ?_
  rotate_left
  ·intro w'
   go_simp
   with_reducible rfl
  rotate_left
  ·simp only [Act.put, List.setIfInBounds_toArray, List.set_cons_zero, List.set_cons_succ, i64_w, i32_w]
   rfl
  refine pure_ (i := 14) (N := some 53) (v := ?_) (a' := ?_) #[T,T,T,T,T,T,T,T,T,T,T,T,T,T,T,F] rfl rfl (any_of HT_.out (by kernel_rfl)) (fun _ _ _ h => h) (Or.inl ⟨by rfl, ?_⟩) ?_ ?_
  rotate_left
  ·intro w'
   go_simp
   with_reducible rfl
  rotate_left
  ·simp only [Act.put, List.setIfInBounds_toArray, List.set_cons_zero, List.set_cons_succ, i64_w, i32_w]
   rfl
  refine pure_ (i := 15) (N := some 54) (v := ?_) (a' := ?_) #[T,T,T,T,T,T,T,T,T,T,T,T,T,T,T,T] rfl rfl (any_of HT_.out (by kernel_rfl)) (fun _ _ _ h => h) (Or.inl ⟨by rfl, ?_⟩) ?_ ?_
  rotate_left
  ·intro w'
   go_simp
   with_reducible rfl
  rotate_left
  ·simp only [Act.put, List.setIfInBounds_toArray, List.set_cons_zero, List.set_cons_succ, i64_w, i32_w]
   rfl
  refine done_ (done_of HT_.out (by kernel_rfl)) ?_
  have hnb49 := NB302_289.out
  have hnc49 := NB289_302.out
  have hcz50_0 : w48.cell? ⟨gb302, 0, none⟩ = some (.int .i64 (wrap64 (Int.tdiv (rd t293 0) t299))) := (bkC BK302.out 0).trans rfl
  have hcz50_1 : w48.cell? ⟨gb302, 1, none⟩ = some (.int .i64 (wrap64 (Int.tdiv (rd t293 1) t299))) := (bkC BK302.out 1).trans rfl
  have hfz50_0 := bkF BK302.out 0
  have hfz50_1 := bkF BK302.out 1
  have hcz51_0 : w48.cell? ⟨gb289, 0, none⟩ = some (.int .i64 0) := (bkC BK289.out 0).trans rfl
  have hcz51_1 : w48.cell? ⟨gb289, 1, none⟩ = some (.int .i64 0) := (bkC BK289.out 1).trans rfl
  have hfz51_0 := bkF BK289.out 0
  have hfz51_1 := bkF BK289.out 1
  try go_wp2
  refine bodyPost_ret (results_ctt rfl _ _ gb289 24 #[.int .i64 (wrap64 (Int.tdiv (rd t293 0) t299)), .int .i64 (wrap64 (Int.tdiv (rd t293 1) t299))] (0, 0) _ rfl (by (with_reducible repeat (first | refine bkN ?_ _ | refine bkD ?_ | refine bkA ?_ _)); refine bkp (cs := #[.int .i64 (wrap64 (Int.tdiv (rd t293 0) t299)), .int .i64 0]) ?_ 1 _ rfl; (with_reducible repeat (first | refine bkN ?_ _ | refine bkD ?_ | refine bkA ?_ _)); refine bkp (cs := #[.int .i64 0, .int .i64 0]) ?_ 0 _ rfl; (with_reducible repeat (first | refine bkN ?_ _ | refine bkD ?_ | refine bkA ?_ _)); exact BK289.out) Try.underlying24 rfl (by kernel_rfl)) rfl ?_
  exact ⟨by first | rfl | (simp [eWn, eWs] <;> rfl) | (simp [*, eWn, eWs] <;> rfl), bw_20⟩
 rw [if_pos c19] at H
 have c19b0 : ((rd t293 2) == (wrap64 ((rd t293 0) + (rd t293 1)))) = true := beq_iff_eq.mpr c19
 have c19b1 : ((rd t293 2) != (wrap64 ((rd t293 0) + (rd t293 1)))) = false := bne_eq_false_iff_eq.mpr c19
 clear c19
 simp only [Option.some.injEq, Prod.mk.injEq] at H
 obtain ⟨rfl, rfl, rfl, rfl⟩ := H
 go_enter Try.func10, Try.ntmps10
 try go_wp2_with (first | ((with_reducible refine gtD (N := 2) rfl ?_); refine bxE ?hg (N := 2) ?hd (cs := #[.int .i64 0, .int .i64 0]) (t := 24) ?hr ?_; (case hd => rfl); (case hg => rfl); (case hr => first | (go_simp; done) | (go_simp; rfl)); intro gb289 hg w20 hbox hb; have n0_ := Az.mk (bwT bw_20 hb); have n1_ := Az.mk (hbox); have n2_ := Az.mk ((by rw [hg]; exact (bwZ bw_20) : w.heap.size ≤ gb289)); have n3_ := n2_; clear HB; have HB := n0_; have BK289 := n1_; have GW289 := n2_; have GE289 := n3_; clear n0_ n1_ n2_ n3_; clear hb hbox hg) | ((with_reducible refine gtC (f := 40) rfl ?_); refine goesL_ (some 10) rfl rfl Try.func40 (by kernel_rfl) rfl #[] rfl ln_20 ?_; (with_reducible refine (impl_torus.calls  t290 _ A2.out).mono ?_); rintro e w21 ⟨v291, rfl, ho0, hb⟩; refine ⟨_, rfl, ?_⟩; have n0_ := Az.mk (Kd.N_lower (Kd.N_mono (ok' := fun k_ => k_ ≠ gb289) ho0 (fun k_ hk_ => (Kd.freshB (g := gb289) (o := .cells #[.int .i64 0, .int .i64 0] 24 (0, 0)) (by (with_reducible repeat (first | refine bkN ?_ _ | refine bkD ?_ | refine bkA ?_ _)); exact BK289.out) k_ hk_))) (bwZ bw_20)); have n1_ := Az.mk (bkB (g := gb289) (o := .cells #[.int .i64 0, .int .i64 0] 24 (0, 0)) (by (with_reducible repeat (first | refine bkN ?_ _ | refine bkD ?_ | refine bkA ?_ _)); exact BK289.out) hb); have n2_ := Az.mk (bwT bw_20 hb); clear BK289; clear HB; have HO292 := n0_; have BK289 := n1_; have HB := n2_; clear n0_ n1_ n2_; (try clear hb); (try clear hb2); (try clear hk); (try clear hi); (try clear ho0); obtain ⟨Ao22, co22, eo22⟩ := Kd.N_slice HO292.out; subst eo22) | ((with_reducible refine gtC (f := 27) rfl ?_); refine goesL_ (some 12) rfl rfl Try.func27 (by kernel_rfl) rfl #[.slice Ao22 t290.length co22, .slice A0 l0.length c0] rfl ln_20 ?_; (with_reducible refine (impl_PlainCurve.calls k _ _ t290 _ _ l0 t293 true _ ?side1 ?side2 ?side3 ?side4 A3.out).mono ?_); (case side1 => repeat (first | exact (Kd.N_reads' HO292.out).2.2 | (with_reducible refine Kd.C_alloc ?_ _) | (with_reducible refine Kd.C_drewN ?_ _) | (with_reducible refine Kd.C_drew ?_))); (case side2 => exact (Kd.N_reads' HO292.out).2.1); (case side3 => repeat (first | exact (Kd.C_below HR0.out HB.out) | (with_reducible refine Kd.C_alloc ?_ _) | (with_reducible refine Kd.C_drewN ?_ _) | (with_reducible refine Kd.C_drew ?_))); (case side4 => exact HC0.out); rintro e w23 ⟨v295, rfl, ho0, hb⟩; refine ⟨_, rfl, ?_⟩; have n0_ := Az.mk (Kd.N_elder' (by (with_reducible repeat (first | apply Kd.N_alloc | apply Kd.N_drewN | apply Kd.N_drew)); exact HO292.out) (Kd.R_base ho0) hb); have n1_ := Az.mk (Kd.R_lower ho0 (bwZ bw_20)); have n2_ := Az.mk (bkB (g := gb289) (o := .cells #[.int .i64 0, .int .i64 0] 24 (0, 0)) (by (with_reducible repeat (first | refine bkN ?_ _ | refine bkD ?_ | refine bkA ?_ _)); exact BK289.out) hb); have n3_ := Az.mk (bwT bw_20 hb); clear HO292; clear BK289; clear HB; have HO292 := n0_; have HO296 := n1_; have BK289 := n2_; have HB := n3_; clear n0_ n1_ n2_ n3_; (try clear hb); (try clear hb2); (try clear hk); (try clear hi); (try clear ho0)))
 have n0_ := Az.mk (Kd.N_drew HO292.out)
 have n1_ := Az.mk (Kd.R_drew HO296.out)
 have n2_ := Az.mk (bkD BK289.out)
 have n3_ := Az.mk (bwD HB.out)
 clear HO292
 clear HO296
 clear BK289
 clear HB
 have HO292 := n0_
 have HO296 := n1_
 have BK289 := n2_
 have HB := n3_
 clear n0_ n1_ n2_ n3_
 obtain ⟨Ao25, co25, eo25⟩ := Kd.R_slice HO296.out
 (first | subst eo25 | (injection eo25 with f1_ f2_ f3_; have f4_ := f1_.symm; have f5_ := f3_.symm; clear f1_ f2_ f3_; subst f4_; subst f5_))
 have p297 : 0 ≤ (0 : Int) := (by omega)
 have q297 : 0 < (t293.length : Int) := of_decide_eq_true (by first | (with_reducible assumption) | assumption)
 obtain ⟨ad297, e297, hx297_0⟩ := Kd.at_int (Kd.R_reads' HO296.out).2.2 0 p297 q297
 cases e297
 have qi297 : (0 < t293.length) = True := eq_true (by omega)
 (try rw [show ((0 : Int)).toNat = 0 from rfl] at hx297_0)
 (try rw [Addr.add_zero'] at hx297_0)
 replace p297 := eq_true p297
 replace q297 := eq_true q297
 have p298 : 0 ≤ (1 : Int) := (by omega)
 have q298 : 1 < (t293.length : Int) := of_decide_eq_true (by first | (with_reducible assumption) | assumption)
 obtain ⟨ad298, e298, hx298_0⟩ := Kd.at_int (Kd.R_reads' HO296.out).2.2 1 p298 q298
 obtain rfl : ad297 = ad298 := (by injection e298)
 (try simp only [show (1 : Int).toNat = 1 from rfl, Nat.reduceMul, Nat.reduceEqDiff, Go.Addr.add, ↓reduceIte] at hx298_0)
 have qi298 : (1 < t293.length) = True := eq_true (by omega)
 (try rw [show ((1 : Int)).toNat = 1 from rfl] at hx298_0)
 replace p298 := eq_true p298
 replace q298 := eq_true q298
 refine start_ (n := 8) (S := fun w' => w'.cell? ad297 = some (.int .i64 (rd t293 0)) ∧ w'.cell? ⟨ad297.block, ad297.off + 1, none⟩ = some (.int .i64 (rd t293 1))) (ds := []) #[F,F,F,F,F,F,F,F] (by kernel_rfl) rfl rfl ⟨hx297_0, hx298_0⟩ (fun hHeld => ?_); refine with_tabW impl_SlopeOfCurve.tab4 impl_SlopeOfCurve.bits4 (fun HT_ HW_ => ?_)
 generalize w23.drew = w24 at HO292 HO296 BK289 HB hx297_0 hx298_0 hHeld ⊢
 refine pure_ (i := 0) (N := some 18) (v := ?_) (a' := ?_) #[T,F,F,F,F,F,F,F] rfl rfl (any_of HT_.out (by kernel_rfl)) (fun _ _ _ h => h) (Or.inl ⟨by rfl, ?_⟩) ?_ ?_
 rotate_left
 ·intro w'
  go_simp
  with_reducible rfl
 rotate_left
 ·simp only [Act.put, List.setIfInBounds_toArray, List.set_cons_zero, List.set_cons_succ, i64_w, i32_w]
  rfl
 refine pure_ (i := 1) (N := some 19) (v := ?_) (a' := ?_) #[T,T,F,F,F,F,F,F] rfl rfl (any_of HT_.out (by kernel_rfl)) (fun _ _ _ h => h) (Or.inl ⟨by rfl, ?_⟩) ?_ ?_
 rotate_left
 ·intro w'
  go_simp
  with_reducible rfl
 rotate_left
 ·simp only [Act.put, List.setIfInBounds_toArray, List.set_cons_zero, List.set_cons_succ, i64_w, i32_w]
  rfl
 refine pure_ (i := 3) (N := some 21) (v := ?_) (a' := ?_) #[T,T,F,T,F,F,F,F] rfl rfl (any_of HT_.out (by kernel_rfl)) (fun _ _ _ h => h) (Or.inl ⟨by rfl, ?_⟩) ?_ ?_
 rotate_left
 ·intro w'
  go_simp
  with_reducible rfl
 rotate_left
 ·simp only [Act.put, List.setIfInBounds_toArray, List.set_cons_zero, List.set_cons_succ, i64_w, i32_w]
  rfl
 refine pure_ (i := 4) (N := some 22) (v := ?_) (a' := ?_) #[T,T,F,T,T,F,F,F] rfl rfl (any_of HT_.out (by kernel_rfl)) (fun _ _ _ h => h) (Or.inl ⟨by rfl, ?_⟩) ?_ ?_
 rotate_left
 ·intro w'
  go_simp
  with_reducible rfl
 rotate_left
 ·simp only [Act.put, List.setIfInBounds_toArray, List.set_cons_zero, List.set_cons_succ, i64_w, i32_w]
  rfl
 refine take_ (i := 2) (N := some 20) (v := ?_) (a' := ?_) #[T,T,T,T,T,F,F,F] rfl rfl (take_ofW HT_.out HW_.out (by kernel_rfl)) (fun _ _ _ h => h) (Or.inl ⟨by rfl, ?_⟩) hHeld ?_ ?_
 rotate_left
 ·rintro w' ⟨s0, s1⟩
  go_simp
  with_reducible rfl
 rotate_left
 ·simp only [Act.put, List.setIfInBounds_toArray, List.set_cons_zero, List.set_cons_succ, i64_w, i32_w]
  rfl
 refine take_ (i := 5) (N := some 23) (v := ?_) (a' := ?_) #[T,T,T,T,T,T,F,F] rfl rfl (take_ofW HT_.out HW_.out (by kernel_rfl)) (fun _ _ _ h => h) (Or.inl ⟨by rfl, ?_⟩) hHeld ?_ ?_
 rotate_left
 ·rintro w' ⟨s0, s1⟩
  go_simp
  with_reducible rfl
 rotate_left
 ·simp only [Act.put, List.setIfInBounds_toArray, List.set_cons_zero, List.set_cons_succ, i64_w, i32_w]
  rfl
 refine one_ (i := 6) (N := some 24) #[T,T,T,T,T,T,T,F] rfl rfl (one_of HT_.out (by kernel_rfl)) (by decide) (fun K hK => ?_)
 refine goes_ Try.func41 (by kernel_rfl) rfl #[.int .i64 (rd t293 0), .int .i64 (rd t293 1)] (by rfl) rfl rfl ln_20 ?_
 with_reducible refine (impl_gcd.calls k (rd t293 0) (rd t293 1) t299 _ A7.out).mono ?_
 rintro e w26 ⟨rfl, hb⟩
 have HS0_ := (hb.cell (World.block_lt_of_cell? _ _ (hHeld.1))).trans (hHeld.1)
 have HS1_ := (hb.cell (World.block_lt_of_cell? _ _ (hHeld.2))).trans (hHeld.2)
 refine ⟨_, rfl, ?_⟩
 have n0_ := Az.mk (Kd.N_below (by (with_reducible repeat (first | apply Kd.N_alloc | apply Kd.N_drewN | apply Kd.N_drew)); exact HO292.out) hb)
 have n1_ := Az.mk (Kd.R_below (by (with_reducible repeat (first | apply Kd.R_alloc | apply Kd.R_drewN | apply Kd.R_drew)); exact HO296.out) hb)
 have n2_ := Az.mk (bkB (g := gb289) (o := .cells #[.int .i64 0, .int .i64 0] 24 (0, 0)) (by (with_reducible repeat (first | refine bkN ?_ _ | refine bkD ?_ | refine bkA ?_ _)); exact BK289.out) hb)
 have n3_ := Az.mk (bwT bw_20 hb)
 clear HO292
 clear HO296
 clear BK289
 clear HB
 have HO292 := n0_
 have HO296 := n1_
 have BK289 := n2_
 have HB := n3_
 clear n0_ n1_ n2_ n3_
 (try clear hb)
 (try clear hb2)
 (try clear hk)
 (try clear hi)
 refine hK.out _ _ ⟨HS0_, HS1_⟩ (fun hHeld => ?_)
 clear hK K
 refine norm_ (a' := ?_) ?_ ?_
 rotate_left
 ·show Act.put _ (some 24) _ = _
  simp only [Act.put, List.setIfInBounds_toArray, List.set_cons_zero, List.set_cons_succ, i64_w, i32_w]
  rfl
 refine pure_ (i := 7) (N := some 7) (v := ?_) (a' := ?_) #[T,T,T,T,T,T,T,T] rfl rfl (any_of HT_.out (by kernel_rfl)) (fun _ _ _ h => h) (Or.inl ⟨by rfl, ?_⟩) ?_ ?_
 rotate_left
 ·intro w'
  go_simp
  with_reducible rfl
 rotate_left
 ·simp only [Act.put, List.setIfInBounds_toArray, List.set_cons_zero, List.set_cons_succ, i64_w, i32_w]
  rfl
 refine done_ (done_of HT_.out (by kernel_rfl)) ?_
 try go_wp2
 have n0_ := Az.mk (Kd.N_drew HO292.out)
 have n1_ := Az.mk (Kd.R_drew HO296.out)
 have n2_ := Az.mk (bkD BK289.out)
 have n3_ := Az.mk (bwD HB.out)
 clear HO292
 clear HO296
 clear BK289
 clear HB
 have HO292 := n0_
 have HO296 := n1_
 have BK289 := n2_
 have HB := n3_
 clear n0_ n1_ n2_ n3_
 have p300 : 0 ≤ (0 : Int) := (by omega)
 have q300 : 0 < (t293.length : Int) := of_decide_eq_true (by first | (with_reducible assumption) | assumption)
 obtain ⟨ad300, e300, hx300_0⟩ := Kd.at_int (Kd.R_reads' HO296.out).2.2 0 p300 q300
 obtain rfl : ad297 = ad300 := (by injection e300)
 have qi300 : (0 < t293.length) = True := eq_true (by omega)
 (try rw [show ((0 : Int)).toNat = 0 from rfl] at hx300_0)
 (try rw [Addr.add_zero'] at hx300_0)
 replace p300 := eq_true p300
 replace q300 := eq_true q300
 have p301 : 0 ≤ (1 : Int) := (by omega)
 have q301 : 1 < (t293.length : Int) := of_decide_eq_true (by first | (with_reducible assumption) | assumption)
 obtain ⟨ad301, e301, hx301_0⟩ := Kd.at_int (Kd.R_reads' HO296.out).2.2 1 p301 q301
 obtain rfl : ad297 = ad301 := (by injection e301)
 (try simp only [show (1 : Int).toNat = 1 from rfl, Nat.reduceMul, Nat.reduceEqDiff, Go.Addr.add, ↓reduceIte] at hx301_0)
 have qi301 : (1 < t293.length) = True := eq_true (by omega)
 (try rw [show ((1 : Int)).toNat = 1 from rfl] at hx301_0)
 replace p301 := eq_true p301
 replace q301 := eq_true q301
 refine start_ (n := 13) (S := fun w' => w'.cell? ad297 = some (.int .i64 (rd t293 0)) ∧ w'.cell? ⟨ad297.block, ad297.off + 1, none⟩ = some (.int .i64 (rd t293 1))) (ds := []) #[F,F,F,F,F,F,F,F,F,F,F,F,F] (by kernel_rfl) rfl rfl ⟨hx300_0, hx301_0⟩ (fun hHeld => ?_); refine with_tabW impl_SlopeOfCurve.tab7 impl_SlopeOfCurve.bits7 (fun HT_ HW_ => ?_)
 generalize w26.drew = w27 at HO292 HO296 BK289 HB hx300_0 hx301_0 hHeld ⊢
 refine pure_ (i := 0) (N := some 28) (v := ?_) (a' := ?_) #[T,F,F,F,F,F,F,F,F,F,F,F,F] rfl rfl (any_of HT_.out (by kernel_rfl)) (fun _ _ _ h => h) (Or.inl ⟨by rfl, ?_⟩) ?_ ?_
 rotate_left
 ·intro w'
  go_simp
  with_reducible rfl
 rotate_left
 ·simp only [Act.put, List.setIfInBounds_toArray, List.set_cons_zero, List.set_cons_succ, i64_w, i32_w]
  rfl
 refine pure_ (i := 1) (N := some 29) (v := ?_) (a' := ?_) #[T,T,F,F,F,F,F,F,F,F,F,F,F] rfl rfl (any_of HT_.out (by kernel_rfl)) (fun _ _ _ h => h) (Or.inl ⟨by rfl, ?_⟩) ?_ ?_
 rotate_left
 ·intro w'
  go_simp
  with_reducible rfl
 rotate_left
 ·simp only [Act.put, List.setIfInBounds_toArray, List.set_cons_zero, List.set_cons_succ, i64_w, i32_w]
  rfl
 refine pure_ (i := 3) (N := some 31) (v := ?_) (a' := ?_) #[T,T,F,T,F,F,F,F,F,F,F,F,F] rfl rfl (any_of HT_.out (by kernel_rfl)) (fun _ _ _ h => h) (Or.inl ⟨by rfl, ?_⟩) ?_ ?_
 rotate_left
 ·intro w'
  go_simp
  with_reducible rfl
 rotate_left
 ·simp only [Act.put, List.setIfInBounds_toArray, List.set_cons_zero, List.set_cons_succ, i64_w, i32_w]
  rfl
 refine pure_ (i := 5) (N := some 33) (v := ?_) (a' := ?_) #[T,T,F,T,F,T,F,F,F,F,F,F,F] rfl rfl (any_of HT_.out (by kernel_rfl)) (fun _ _ _ h => h) (Or.inl ⟨by rfl, ?_⟩) ?_ ?_
 rotate_left
 ·intro w'
  go_simp
  with_reducible rfl
 rotate_left
 ·simp only [Act.put, List.setIfInBounds_toArray, List.set_cons_zero, List.set_cons_succ, i64_w, i32_w]
  rfl
 refine pure_ (i := 6) (N := some 34) (v := ?_) (a' := ?_) #[T,T,F,T,F,T,T,F,F,F,F,F,F] rfl rfl (any_of HT_.out (by kernel_rfl)) (fun _ _ _ h => h) (Or.inl ⟨by rfl, ?_⟩) ?_ ?_
 rotate_left
 ·intro w'
  go_simp
  with_reducible rfl
 rotate_left
 ·simp only [Act.put, List.setIfInBounds_toArray, List.set_cons_zero, List.set_cons_succ, i64_w, i32_w]
  rfl
 refine pure_ (i := 8) (N := some 36) (v := ?_) (a' := ?_) #[T,T,F,T,F,T,T,F,T,F,F,F,F] rfl rfl (any_of HT_.out (by kernel_rfl)) (fun _ _ _ h => h) (Or.inl ⟨by rfl, ?_⟩) ?_ ?_
 rotate_left
 ·intro w'
  go_simp
  with_reducible rfl
 rotate_left
 ·simp only [Act.put, List.setIfInBounds_toArray, List.set_cons_zero, List.set_cons_succ, i64_w, i32_w]
  rfl
 refine take_ (i := 2) (N := some 30) (v := ?_) (a' := ?_) #[T,T,T,T,F,T,T,F,T,F,F,F,F] rfl rfl (take_ofW HT_.out HW_.out (by kernel_rfl)) (fun _ _ _ h => h) (Or.inl ⟨by rfl, ?_⟩) hHeld ?_ ?_
 rotate_left
 ·rintro w' ⟨s0, s1⟩
  go_simp
  with_reducible rfl
 rotate_left
 ·simp only [Act.put, List.setIfInBounds_toArray, List.set_cons_zero, List.set_cons_succ, i64_w, i32_w]
  rfl
 refine pure_ (i := 4) (N := some 32) (v := ?_) (a' := ?_) #[T,T,T,T,T,T,T,F,T,F,F,F,F] rfl rfl (any_of HT_.out (by kernel_rfl)) (fun _ _ _ h => h) (Or.inl ⟨by rfl, ?_⟩) ?_ ?_
 rotate_left
 ·intro w'
  go_simp
  with_reducible rfl
 rotate_left
 ·simp only [Act.put, List.setIfInBounds_toArray, List.set_cons_zero, List.set_cons_succ, i64_w, i32_w]
  rfl
 refine take_ (i := 7) (N := some 35) (v := ?_) (a' := ?_) #[T,T,T,T,T,T,T,T,T,F,F,F,F] rfl rfl (take_ofW HT_.out HW_.out (by kernel_rfl)) (fun _ _ _ h => h) (Or.inl ⟨by rfl, ?_⟩) hHeld ?_ ?_
 rotate_left
 ·rintro w' ⟨s0, s1⟩
  go_simp
  with_reducible rfl
 rotate_left
 ·simp only [Act.put, List.setIfInBounds_toArray, List.set_cons_zero, List.set_cons_succ, i64_w, i32_w]
  rfl
 refine pure_ (i := 9) (N := some 37) (v := ?_) (a' := ?_) #[T,T,T,T,T,T,T,T,T,T,F,F,F] rfl rfl (any_of HT_.out (by kernel_rfl)) (fun _ _ _ h => h) (Or.inl ⟨by rfl, ?_⟩) ?_ ?_
 rotate_left
 ·intro w'
  go_simp
  with_reducible rfl
 rotate_left
 ·simp only [Act.put, List.setIfInBounds_toArray, List.set_cons_zero, List.set_cons_succ, i64_w, i32_w]
  rfl
 refine pure_ (i := 10) (N := some 38) (v := ?_) (a' := ?_) #[T,T,T,T,T,T,T,T,T,T,T,F,F] rfl rfl (any_of HT_.out (by kernel_rfl)) (fun _ _ _ h => h) (Or.inl ⟨by rfl, ?_⟩) ?_ ?_
 rotate_left
 ·intro w'
  go_simp
  with_reducible rfl
 rotate_left
 ·simp only [Act.put, List.setIfInBounds_toArray, List.set_cons_zero, List.set_cons_succ, i64_w, i32_w]
  rfl
 refine one_ (i := 11) (N := some 8) #[T,T,T,T,T,T,T,T,T,T,T,T,F] rfl rfl (one_of HT_.out (by kernel_rfl)) (by decide) (fun K hK => ?_)
 refine box_step ?hg (N := 8) ?hd (cs := #[.int .i64 0, .int .i64 0]) (t := 24) ?hr ?_; (case hd => rfl); (case hg => rfl); (case hr => first | (go_simp; done) | (go_simp; rfl))
 intro gb302 hg w28 hbox hb
 have HS0_ := (hb.cell (World.block_lt_of_cell? _ _ (hHeld.1))).trans (hHeld.1)
 have HS1_ := (hb.cell (World.block_lt_of_cell? _ _ (hHeld.2))).trans (hHeld.2)
 have n0_ := Az.mk (Kd.N_below (Kd.N_elderB (by (with_reducible repeat (first | apply Kd.N_alloc | apply Kd.N_drewN | apply Kd.N_drew)); exact HO292.out) gb302 (Nat.le_of_eq hg.symm)) hb)
 have n1_ := Az.mk (Kd.R_below (by (with_reducible repeat (first | apply Kd.R_alloc | apply Kd.R_drewN | apply Kd.R_drew)); exact HO296.out) hb)
 have n2_ := Az.mk (bkB (g := gb289) (o := .cells #[.int .i64 0, .int .i64 0] 24 (0, 0)) (by (with_reducible repeat (first | refine bkN ?_ _ | refine bkD ?_ | refine bkA ?_ _)); exact BK289.out) hb)
 have n3_ := Az.mk (bwT bw_20 hb)
 have n4_ := Az.mk (hbox)
 have n5_ := Az.mk ((by rw [hg]; exact (bwZ bw_20) : w.heap.size ≤ gb302))
 have n6_ := Az.mk ((by rw [hg]; exact (bwZ bw_20) : w.heap.size ≤ gb302))
 have n7_ := Az.mk ((by rw [hg]; exact Nat.ne_of_lt (blk_lt (g := gb289) (o := .cells #[.int .i64 0, .int .i64 0] 24 (0, 0)) (by (with_reducible repeat (first | refine bkN ?_ _ | refine bkD ?_ | refine bkA ?_ _)); exact BK289.out)) : gb289 ≠ gb302))
 have n8_ := Az.mk ((by rw [hg]; exact Nat.ne_of_gt (blk_lt (g := gb289) (o := .cells #[.int .i64 0, .int .i64 0] 24 (0, 0)) (by (with_reducible repeat (first | refine bkN ?_ _ | refine bkD ?_ | refine bkA ?_ _)); exact BK289.out)) : gb302 ≠ gb289))
 clear HO292
 clear HO296
 clear BK289
 clear HB
 have HO292 := n0_
 have HO296 := n1_
 have BK289 := n2_
 have HB := n3_
 have BK302 := n4_
 have GW302 := n5_
 have GE302 := n6_
 have NB289_302 := n7_
 have NB302_289 := n8_
 clear n0_ n1_ n2_ n3_ n4_ n5_ n6_ n7_ n8_
 clear hb hbox hg
 refine hK.out _ _ ⟨HS0_, HS1_⟩ (fun hHeld => ?_)
 clear hK K
 refine norm_ (a' := ?_) ?_ ?_
 rotate_left
 ·show Act.put _ (some 8) _ = _
  simp only [Act.put, List.setIfInBounds_toArray, List.set_cons_zero, List.set_cons_succ, i64_w, i32_w]
  rfl
 refine one_ (i := 12) (N := none) #[T,T,T,T,T,T,T,T,T,T,T,T,T] rfl rfl (one_of HT_.out (by kernel_rfl)) (by decide) (fun K hK => ?_)
 have hs29 : w28.cell? ⟨gb302, 0, none⟩ = some (.int .i64 0) := (bkC BK302.out 0).trans rfl
 have hfs29 := bkF BK302.out 0
 have hns29_0 := NB289_302.out
 have hms29_0 := NB302_289.out
 have hs30 : w28.cell? ⟨gb302, 1, none⟩ = some (.int .i64 0) := (bkC BK302.out 1).trans rfl
 have hfs30 := bkF BK302.out 1
 have hns30_0 := NB289_302.out
 have hms30_0 := NB302_289.out
 refine skip_ (w1 := ?_) (by rfl) rfl ?_ ?_
 rotate_left
 ·go_simp
  rfl
 refine hK.out _ _ ⟨((cell_far (p := ⟨gb302, _, none⟩) (by first | exact Kd.own_blk (Kd.R_ne HO296.out BK302.out (by decide)) | (rw [add_block]; exact Kd.own_blk (Kd.R_ne HO296.out BK302.out (by decide))) | (show (Addr.add _ _).block ≠ _; rw [add_block]; exact Kd.own_blk (Kd.R_ne HO296.out BK302.out (by decide))) | (dsimp only; exact Kd.own_blk (Kd.R_ne HO296.out BK302.out (by decide)))) _).trans (((cell_far (p := ⟨gb302, _, none⟩) (by first | exact Kd.own_blk (Kd.R_ne HO296.out BK302.out (by decide)) | (rw [add_block]; exact Kd.own_blk (Kd.R_ne HO296.out BK302.out (by decide))) | (show (Addr.add _ _).block ≠ _; rw [add_block]; exact Kd.own_blk (Kd.R_ne HO296.out BK302.out (by decide))) | (dsimp only; exact Kd.own_blk (Kd.R_ne HO296.out BK302.out (by decide)))) _).trans (hHeld.1)))), ((cell_far (p := ⟨gb302, _, none⟩) (by first | exact Kd.own_blk (Kd.R_ne HO296.out BK302.out (by decide)) | (rw [add_block]; exact Kd.own_blk (Kd.R_ne HO296.out BK302.out (by decide))) | (show (Addr.add _ _).block ≠ _; rw [add_block]; exact Kd.own_blk (Kd.R_ne HO296.out BK302.out (by decide))) | (dsimp only; exact Kd.own_blk (Kd.R_ne HO296.out BK302.out (by decide)))) _).trans (((cell_far (p := ⟨gb302, _, none⟩) (by first | exact Kd.own_blk (Kd.R_ne HO296.out BK302.out (by decide)) | (rw [add_block]; exact Kd.own_blk (Kd.R_ne HO296.out BK302.out (by decide))) | (show (Addr.add _ _).block ≠ _; rw [add_block]; exact Kd.own_blk (Kd.R_ne HO296.out BK302.out (by decide))) | (dsimp only; exact Kd.own_blk (Kd.R_ne HO296.out BK302.out (by decide)))) _).trans (hHeld.2))))⟩ (fun hHeld => ?_)
 clear hK K
 refine done_ (done_of HT_.out (by kernel_rfl)) ?_
 try go_wp2
 have n0_ : Az (Kd.N (Kd.slice 3 (Kd.int .i64)) 22 ((w28.setCell ⟨gb302, 0, none⟩ (.int .i64 (wrap64 (Int.tdiv (rd t293 0) t299)))).setCell ⟨gb302, 1, none⟩ (.int .i64 (wrap64 (Int.tdiv (rd t293 1) t299)))) w.heap.size (fun k_ => some k_ ≠ (.slice (some ad297) t293.length co25 : Value).ownBlock ∧ k_ ≠ gb289 ∧ k_ ≠ gb302) (.slice Ao22 t290.length co22) t290) := ⟨by (with_reducible repeat (first | apply Kd.N_alloc | apply Kd.N_drewN | apply Kd.N_drew)); exact Kd.N_mono (Kd.N_far (p := ⟨gb302, 1, none⟩) (Kd.N_far (p := ⟨gb302, 0, none⟩) (Kd.N_mono HO292.out (fun k_ hk => (⟨hk, hk.2⟩ : _ ∧ k_ ≠ gb302))) (fun _ hk => hk.2) (.int .i64 (wrap64 (Int.tdiv (rd t293 0) t299)))) (fun _ hk => hk.2) (.int .i64 (wrap64 (Int.tdiv (rd t293 1) t299)))) (fun _ hk => ⟨hk.1.1.2, ⟨hk.1.1.1, hk.1.2⟩⟩)⟩
 have n1_ : Az (Kd.R (Kd.int .i64) 3 ((w28.setCell ⟨gb302, 0, none⟩ (.int .i64 (wrap64 (Int.tdiv (rd t293 0) t299)))).setCell ⟨gb302, 1, none⟩ (.int .i64 (wrap64 (Int.tdiv (rd t293 1) t299)))) w.heap.size (fun _ => True) (.slice (some ad297) t293.length co25) t293) := ⟨by (with_reducible repeat (first | apply Kd.R_alloc | apply Kd.R_drewN | apply Kd.R_drew)); exact Kd.R_mono (Kd.R_far (p := ⟨gb302, 1, none⟩) (Kd.R_far (p := ⟨gb302, 0, none⟩) (Kd.R_types HO296.out BK302.out (by decide)) (fun _ hk => hk.2) (.int .i64 (wrap64 (Int.tdiv (rd t293 0) t299)))) (fun _ hk => hk.2) (.int .i64 (wrap64 (Int.tdiv (rd t293 1) t299)))) (fun _ hk => trivial)⟩
 have n2_ : Az (((w28.setCell ⟨gb302, 0, none⟩ (.int .i64 (wrap64 (Int.tdiv (rd t293 0) t299)))).setCell ⟨gb302, 1, none⟩ (.int .i64 (wrap64 (Int.tdiv (rd t293 1) t299)))).heap[gb289]? = some (.cells #[.int .i64 0, .int .i64 0] 24 (0, 0))) := ⟨by (with_reducible repeat (first | refine bkN ?_ _ | refine bkD ?_ | refine bkA ?_ _)); refine bkf ?_ NB289_302.out _; (with_reducible repeat (first | refine bkN ?_ _ | refine bkD ?_ | refine bkA ?_ _)); refine bkf ?_ NB289_302.out _; (with_reducible repeat (first | refine bkN ?_ _ | refine bkD ?_ | refine bkA ?_ _)); exact BK289.out⟩
 have n3_ : Az (((w28.setCell ⟨gb302, 0, none⟩ (.int .i64 (wrap64 (Int.tdiv (rd t293 0) t299)))).setCell ⟨gb302, 1, none⟩ (.int .i64 (wrap64 (Int.tdiv (rd t293 1) t299)))).heap[gb302]? = some (.cells #[.int .i64 (wrap64 (Int.tdiv (rd t293 0) t299)), .int .i64 (wrap64 (Int.tdiv (rd t293 1) t299))] 24 (0, 0))) := ⟨by (with_reducible repeat (first | refine bkN ?_ _ | refine bkD ?_ | refine bkA ?_ _)); refine bkp (cs := #[.int .i64 (wrap64 (Int.tdiv (rd t293 0) t299)), .int .i64 0]) ?_ 1 _ rfl; (with_reducible repeat (first | refine bkN ?_ _ | refine bkD ?_ | refine bkA ?_ _)); refine bkp (cs := #[.int .i64 0, .int .i64 0]) ?_ 0 _ rfl; (with_reducible repeat (first | refine bkN ?_ _ | refine bkD ?_ | refine bkA ?_ _)); exact BK302.out⟩
 have n4_ : Az (Below w.heap.size w ((w28.setCell ⟨gb302, 0, none⟩ (.int .i64 (wrap64 (Int.tdiv (rd t293 0) t299)))).setCell ⟨gb302, 1, none⟩ (.int .i64 (wrap64 (Int.tdiv (rd t293 1) t299))))) := ⟨by repeat (first | (with_reducible first | exact HB.out | apply bwA | apply pbN | apply bwD | refine bwS ?_ GE289.out | refine bwS ?_ GE302.out) | exact HB.out)⟩
 (try clear HO292)
 (try clear HO296)
 (try clear BK289)
 (try clear BK302)
 (try clear HB)
 generalize ((w28.setCell ⟨gb302, 0, none⟩ (.int .i64 (wrap64 (Int.tdiv (rd t293 0) t299)))).setCell ⟨gb302, 1, none⟩ (.int .i64 (wrap64 (Int.tdiv (rd t293 1) t299)))) = w31 at n0_ n1_ n2_ n3_ n4_ ⊢
 have HO292 := n0_
 have HO296 := n1_
 have BK289 := n2_
 have BK302 := n3_
 have HB := n4_
 clear n0_ n1_ n2_ n3_ n4_
 have n0_ := Az.mk (Kd.N_drew HO292.out)
 have n1_ := Az.mk (Kd.R_drew HO296.out)
 have n2_ := Az.mk (bkD BK289.out)
 have n3_ := Az.mk (bkD BK302.out)
 have n4_ := Az.mk (bwD HB.out)
 clear HO292
 clear HO296
 clear BK289
 clear BK302
 clear HB
 have HO292 := n0_
 have HO296 := n1_
 have BK289 := n2_
 have BK302 := n3_
 have HB := n4_
 clear n0_ n1_ n2_ n3_ n4_
 have p303 : 0 ≤ (2 : Int) := (by omega)
 have q303 : 2 < (t293.length : Int) := of_decide_eq_true (by first | (with_reducible assumption) | assumption)
 obtain ⟨ad303, e303, hx303_0⟩ := Kd.at_int (Kd.R_reads' HO296.out).2.2 2 p303 q303
 obtain rfl : ad297 = ad303 := (by injection e303)
 (try simp only [show (2 : Int).toNat = 2 from rfl, Nat.reduceMul, Nat.reduceEqDiff, Go.Addr.add, ↓reduceIte] at hx303_0)
 have qi303 : (2 < t293.length) = True := eq_true (by omega)
 (try rw [show ((2 : Int)).toNat = 2 from rfl] at hx303_0)
 replace p303 := eq_true p303
 replace q303 := eq_true q303
 have p304 : 0 ≤ (0 : Int) := (by omega)
 have q304 : 0 < (t293.length : Int) := of_decide_eq_true (by first | (with_reducible assumption) | assumption)
 obtain ⟨ad304, e304, hx304_0⟩ := Kd.at_int (Kd.R_reads' HO296.out).2.2 0 p304 q304
 obtain rfl : ad297 = ad304 := (by injection e304)
 have qi304 : (0 < t293.length) = True := eq_true (by omega)
 (try rw [show ((0 : Int)).toNat = 0 from rfl] at hx304_0)
 (try rw [Addr.add_zero'] at hx304_0)
 replace p304 := eq_true p304
 replace q304 := eq_true q304
 have p305 : 0 ≤ (1 : Int) := (by omega)
 have q305 : 1 < (t293.length : Int) := of_decide_eq_true (by first | (with_reducible assumption) | assumption)
 obtain ⟨ad305, e305, hx305_0⟩ := Kd.at_int (Kd.R_reads' HO296.out).2.2 1 p305 q305
 obtain rfl : ad297 = ad305 := (by injection e305)
 (try simp only [show (1 : Int).toNat = 1 from rfl, Nat.reduceMul, Nat.reduceEqDiff, Go.Addr.add, ↓reduceIte] at hx305_0)
 have qi305 : (1 < t293.length) = True := eq_true (by omega)
 (try rw [show ((1 : Int)).toNat = 1 from rfl] at hx305_0)
 replace p305 := eq_true p305
 replace q305 := eq_true q305
 refine start_ (n := 16) (S := fun w' => w'.cell? ⟨gb302, 0, none⟩ = some (.int .i64 (wrap64 (Int.tdiv (rd t293 0) t299))) ∧ w'.cell? ⟨gb302, 1, none⟩ = some (.int .i64 (wrap64 (Int.tdiv (rd t293 1) t299))) ∧ w'.cell? ⟨ad297.block, ad297.off + 2, none⟩ = some (.int .i64 (rd t293 2)) ∧ w'.cell? ad297 = some (.int .i64 (rd t293 0)) ∧ w'.cell? ⟨ad297.block, ad297.off + 1, none⟩ = some (.int .i64 (rd t293 1))) (ds := []) #[F,F,F,F,F,F,F,F,F,F,F,F,F,F,F,F] (by kernel_rfl) rfl rfl ⟨(bkC BK302.out 0).trans rfl, (bkC BK302.out 1).trans rfl, hx303_0, hx304_0, hx305_0⟩ (fun hHeld => ?_); refine with_tabW impl_SlopeOfCurve.tab8 impl_SlopeOfCurve.bits8 (fun HT_ HW_ => ?_)
 generalize w31.drew = w32 at HO292 HO296 BK289 BK302 HB hx303_0 hx304_0 hx305_0 hHeld ⊢
 refine pure_ (i := 0) (N := some 39) (v := ?_) (a' := ?_) #[T,F,F,F,F,F,F,F,F,F,F,F,F,F,F,F] rfl rfl (any_of HT_.out (by kernel_rfl)) (fun _ _ _ h => h) (Or.inl ⟨by rfl, ?_⟩) ?_ ?_
 rotate_left
 ·intro w'
  go_simp
  with_reducible rfl
 rotate_left
 ·simp only [Act.put, List.setIfInBounds_toArray, List.set_cons_zero, List.set_cons_succ, i64_w, i32_w]
  rfl
 refine take_ (i := 1) (N := some 40) (v := ?_) (a' := ?_) #[T,T,F,F,F,F,F,F,F,F,F,F,F,F,F,F] rfl rfl (take_ofW HT_.out HW_.out (by kernel_rfl)) (fun _ _ _ h => h) (Or.inl ⟨by rfl, ?_⟩) hHeld ?_ ?_
 rotate_left
 ·rintro w' ⟨s0, s1, s2, s3, s4⟩
  go_simp
  with_reducible rfl
 rotate_left
 ·simp only [Act.put, List.setIfInBounds_toArray, List.set_cons_zero, List.set_cons_succ, i64_w, i32_w]
  rfl
 refine pure_ (i := 2) (N := some 41) (v := ?_) (a' := ?_) #[T,T,T,F,F,F,F,F,F,F,F,F,F,F,F,F] rfl rfl (any_of HT_.out (by kernel_rfl)) (fun _ _ _ h => h) (Or.inl ⟨by rfl, ?_⟩) ?_ ?_
 rotate_left
 ·intro w'
  go_simp
  with_reducible rfl
 rotate_left
 ·simp only [Act.put, List.setIfInBounds_toArray, List.set_cons_zero, List.set_cons_succ, i64_w, i32_w]
  rfl
 refine pure_ (i := 3) (N := some 42) (v := ?_) (a' := ?_) #[T,T,T,T,F,F,F,F,F,F,F,F,F,F,F,F] rfl rfl (any_of HT_.out (by kernel_rfl)) (fun _ _ _ h => h) (Or.inl ⟨by rfl, ?_⟩) ?_ ?_
 rotate_left
 ·intro w'
  go_simp
  with_reducible rfl
 rotate_left
 ·simp only [Act.put, List.setIfInBounds_toArray, List.set_cons_zero, List.set_cons_succ, i64_w, i32_w]
  rfl
 refine pure_ (i := 4) (N := some 43) (v := ?_) (a' := ?_) #[T,T,T,T,T,F,F,F,F,F,F,F,F,F,F,F] rfl rfl (any_of HT_.out (by kernel_rfl)) (fun _ _ _ h => h) (Or.inl ⟨by rfl, ?_⟩) ?_ ?_
 rotate_left
 ·intro w'
  go_simp
  with_reducible rfl
 rotate_left
 ·simp only [Act.put, List.setIfInBounds_toArray, List.set_cons_zero, List.set_cons_succ, i64_w, i32_w]
  rfl
 refine pure_ (i := 5) (N := some 44) (v := ?_) (a' := ?_) #[T,T,T,T,T,T,F,F,F,F,F,F,F,F,F,F] rfl rfl (any_of HT_.out (by kernel_rfl)) (fun _ _ _ h => h) (Or.inl ⟨by rfl, ?_⟩) ?_ ?_
 rotate_left
 ·intro w'
  go_simp
  with_reducible rfl
 rotate_left
 ·simp only [Act.put, List.setIfInBounds_toArray, List.set_cons_zero, List.set_cons_succ, i64_w, i32_w]
  rfl
 refine pure_ (i := 7) (N := some 46) (v := ?_) (a' := ?_) #[T,T,T,T,T,T,F,T,F,F,F,F,F,F,F,F] rfl rfl (any_of HT_.out (by kernel_rfl)) (fun _ _ _ h => h) (Or.inl ⟨by rfl, ?_⟩) ?_ ?_
 rotate_left
 ·intro w'
  go_simp
  with_reducible rfl
 rotate_left
 ·simp only [Act.put, List.setIfInBounds_toArray, List.set_cons_zero, List.set_cons_succ, i64_w, i32_w]
  rfl
 refine pure_ (i := 8) (N := some 47) (v := ?_) (a' := ?_) #[T,T,T,T,T,T,F,T,T,F,F,F,F,F,F,F] rfl rfl (any_of HT_.out (by kernel_rfl)) (fun _ _ _ h => h) (Or.inl ⟨by rfl, ?_⟩) ?_ ?_
 rotate_left
 ·intro w'
  go_simp
  with_reducible rfl
 rotate_left
 ·simp only [Act.put, List.setIfInBounds_toArray, List.set_cons_zero, List.set_cons_succ, i64_w, i32_w]
  rfl
 refine pure_ (i := 10) (N := some 49) (v := ?_) (a' := ?_) #[T,T,T,T,T,T,F,T,T,F,T,F,F,F,F,F] rfl rfl (any_of HT_.out (by kernel_rfl)) (fun _ _ _ h => h) (Or.inl ⟨by rfl, ?_⟩) ?_ ?_
 rotate_left
 ·intro w'
  go_simp
  with_reducible rfl
 rotate_left
 ·simp only [Act.put, List.setIfInBounds_toArray, List.set_cons_zero, List.set_cons_succ, i64_w, i32_w]
  rfl
 refine pure_ (i := 11) (N := some 50) (v := ?_) (a' := ?_) #[T,T,T,T,T,T,F,T,T,F,T,T,F,F,F,F] rfl rfl (any_of HT_.out (by kernel_rfl)) (fun _ _ _ h => h) (Or.inl ⟨by rfl, ?_⟩) ?_ ?_
 rotate_left
 ·intro w'
  go_simp
  with_reducible rfl
 rotate_left
 ·simp only [Act.put, List.setIfInBounds_toArray, List.set_cons_zero, List.set_cons_succ, i64_w, i32_w]
  rfl
 refine take_ (i := 6) (N := some 45) (v := ?_) (a' := ?_) #[T,T,T,T,T,T,T,T,T,F,T,T,F,F,F,F] rfl rfl (take_ofW HT_.out HW_.out (by kernel_rfl)) (fun _ _ _ h => h) (Or.inl ⟨by rfl, ?_⟩) hHeld ?_ ?_
 rotate_left
 ·rintro w' ⟨s0, s1, s2, s3, s4⟩
  go_simp
  with_reducible rfl
 rotate_left
 ·simp only [Act.put, List.setIfInBounds_toArray, List.set_cons_zero, List.set_cons_succ, i64_w, i32_w]
  rfl
 refine take_ (i := 9) (N := some 48) (v := ?_) (a' := ?_) #[T,T,T,T,T,T,T,T,T,T,T,T,F,F,F,F] rfl rfl (take_ofW HT_.out HW_.out (by kernel_rfl)) (fun _ _ _ h => h) (Or.inl ⟨by rfl, ?_⟩) hHeld ?_ ?_
 rotate_left
 ·rintro w' ⟨s0, s1, s2, s3, s4⟩
  go_simp
  with_reducible rfl
 rotate_left
 ·simp only [Act.put, List.setIfInBounds_toArray, List.set_cons_zero, List.set_cons_succ, i64_w, i32_w]
  rfl
 refine take_ (i := 12) (N := some 51) (v := ?_) (a' := ?_) #[T,T,T,T,T,T,T,T,T,T,T,T,T,F,F,F] rfl rfl (take_ofW HT_.out HW_.out (by kernel_rfl)) (fun _ _ _ h => h) (Or.inl ⟨by rfl, ?_⟩) hHeld ?_ ?_
 rotate_left
 ·rintro w' ⟨s0, s1, s2, s3, s4⟩
  go_simp
  with_reducible rfl
 rotate_left
 ·simp only [Act.put, List.setIfInBounds_toArray, List.set_cons_zero, List.set_cons_succ, i64_w, i32_w]
  rfl
 refine pure_ (i := 13) (N := some 52) (v := ?_) (a' := ?_) #[T,T,T,T,T,T,T,T,T,T,T,T,T,T,F,F] rfl rfl (any_of HT_.out (by kernel_rfl)) (fun _ _ _ h => h) (Or.inl ⟨by rfl, ?_⟩) ?_ ?_
 rotate_left
 ·intro w'
  go_simp
  with_reducible rfl
 rotate_left
 ·simp only [Act.put, List.setIfInBounds_toArray, List.set_cons_zero, List.set_cons_succ, i64_w, i32_w]
  rfl
 refine pure_ (i := 14) (N := some 53) (v := ?_) (a' := ?_) #[T,T,T,T,T,T,T,T,T,T,T,T,T,T,T,F] rfl rfl (any_of HT_.out (by kernel_rfl)) (fun _ _ _ h => h) (Or.inl ⟨by rfl, ?_⟩) ?_ ?_
 rotate_left
 ·intro w'
  go_simp
  with_reducible rfl
 rotate_left
 ·simp only [Act.put, List.setIfInBounds_toArray, List.set_cons_zero, List.set_cons_succ, i64_w, i32_w]
  rfl
 refine pure_ (i := 15) (N := some 54) (v := ?_) (a' := ?_) #[T,T,T,T,T,T,T,T,T,T,T,T,T,T,T,T] rfl rfl (any_of HT_.out (by kernel_rfl)) (fun _ _ _ h => h) (Or.inl ⟨by rfl, ?_⟩) ?_ ?_
 rotate_left
 ·intro w'
  go_simp
  with_reducible rfl
 rotate_left
 ·simp only [Act.put, List.setIfInBounds_toArray, List.set_cons_zero, List.set_cons_succ, i64_w, i32_w]
  rfl
 refine done_ (done_of HT_.out (by kernel_rfl)) ?_
 have hnb33 := NB302_289.out
 have hnc33 := NB289_302.out
 have hcz34_0 : w32.cell? ⟨gb302, 0, none⟩ = some (.int .i64 (wrap64 (Int.tdiv (rd t293 0) t299))) := (bkC BK302.out 0).trans rfl
 have hcz34_1 : w32.cell? ⟨gb302, 1, none⟩ = some (.int .i64 (wrap64 (Int.tdiv (rd t293 1) t299))) := (bkC BK302.out 1).trans rfl
 have hfz34_0 := bkF BK302.out 0
 have hfz34_1 := bkF BK302.out 1
 have hcz35_0 : w32.cell? ⟨gb289, 0, none⟩ = some (.int .i64 0) := (bkC BK289.out 0).trans rfl
 have hcz35_1 : w32.cell? ⟨gb289, 1, none⟩ = some (.int .i64 0) := (bkC BK289.out 1).trans rfl
 have hfz35_0 := bkF BK289.out 0
 have hfz35_1 := bkF BK289.out 1
 try go_wp2
 refine bodyPost_ret (results_ctt rfl _ _ gb289 24 #[.int .i64 (wrap64 (-(wrap64 (Int.tdiv (rd t293 0) t299)))), .int .i64 (wrap64 (Int.tdiv (rd t293 1) t299))] (0, 0) _ rfl (by (with_reducible repeat (first | refine bkN ?_ _ | refine bkD ?_ | refine bkA ?_ _)); refine bkp (cs := #[.int .i64 (wrap64 (-(wrap64 (Int.tdiv (rd t293 0) t299)))), .int .i64 0]) ?_ 1 _ rfl; (with_reducible repeat (first | refine bkN ?_ _ | refine bkD ?_ | refine bkA ?_ _)); refine bkp (cs := #[.int .i64 0, .int .i64 0]) ?_ 0 _ rfl; (with_reducible repeat (first | refine bkN ?_ _ | refine bkD ?_ | refine bkA ?_ _)); refine bkf ?_ NB289_302.out _; (with_reducible repeat (first | refine bkN ?_ _ | refine bkD ?_ | refine bkA ?_ _)); exact BK289.out) Try.underlying24 rfl (by kernel_rfl)) rfl ?_
 exact ⟨by first | rfl | (simp [eWn, eWs] <;> rfl) | (simp [*, eWn, eWs] <;> rfl), bw_20⟩

end Go.Proofs.Ytjmgbaphlhimhaa.P
