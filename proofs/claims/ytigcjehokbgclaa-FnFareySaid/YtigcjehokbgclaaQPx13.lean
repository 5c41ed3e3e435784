-- By this session's driver (wip/tools/mk.py) of the kit's print program, over several statements at once. Not trusted: Lean checks it.
import Derived.Test.YtigcjehokbgclaaQWZip
import Derived.Test.YtigcjehokbgclaaQPx0
import Derived.Test.YtigcjehokbgclaaQPx2
import Derived.Test.YtigcjehokbgclaaQPx5
import Derived.Test.YtigcjehokbgclaaQPx12
namespace Go.Proofs.Ytigcjehokbgclaa.P
open Go.RowKit Go.Proofs.YtigcjehokbgclaaW.PrintWords Go.Proofs.YtigcjehokbgclaaW.PrintLast Go.Proofs.YtigcjehokbgclaaW.PrintMore
attribute [local go_sem] max2_int min2_int max_two min_two max_three min_three max_four min_four   -- for this text's walks alone
set_option linter.unusedVariables false
set_option linter.unusedSimpArgs false
theorem bw_13 {n : Nat} {v v' : World} (h : Below n v v' := by repeat (first | (with_reducible first | exact HB.out | apply bwA | apply pbN | apply bwD | refine bwS ?_ GE343.out | refine bwS ?_ GE344.out | refine bwS ?_ GE353.out | refine bwS ?_ GE354.out) | exact HB.out)) : Below n v v' := h
theorem ln_13 {P : Prop} (h : P := by (try simp only [List.map_toArray, List.map_cons, List.map_nil]); first | done | rfl | (simp only [List.length_drop, List.length_take]; rfl)) : P := h
open Option renaming bind_eq_some_iff → be

attribute [local go_sem high] eqA25
/-! ### spec_SlopeDistance: function 14 -/
def spec_SlopeDistance.j0 : Nat → Bool → Int → Int → Int → Int → Option (Int)
 | 0, _, _, _, _, _ => none
 | k + 1, x16, x344000, x344001, x345000, x345001 => if x16 = true then (some (-1)) else ((spec_l14Bezout.f k x344000 x344001).bind fun bt347 => (if (wrap64 ((wrap64 (x344000 * x345001)) - (wrap64 (x344001 * x345000)))) < 0 then ((spec_l14Far.f k (wrap64 (-(wrap64 ((wrap64 (bt347.1 * x345000)) + (wrap64 (bt347.2 * x345001)))))) (wrap64 (-(wrap64 ((wrap64 (x344000 * x345001)) - (wrap64 (x344001 * x345000))))))).bind fun t349 => (some t349)) else ((spec_l14Far.f k (wrap64 ((wrap64 (bt347.1 * x345000)) + (wrap64 (bt347.2 * x345001)))) (wrap64 ((wrap64 (x344000 * x345001)) - (wrap64 (x344001 * x345000))))).bind fun t350 => (some t350))))
def spec_SlopeDistance.f (k : Nat) (a0_0 : Int) (a0_1 : Int) (a1_0 : Int) (a1_1 : Int) : Option (Int) := (spec_IsSlope.f k a0_0 a0_1).bind fun t345 => (if t345 = true then ((spec_IsSlope.f k a1_0 a1_1).bind fun t346 => (spec_SlopeDistance.j0 k (!t346) a0_0 a0_1 a1_0 a1_1)) else (spec_SlopeDistance.j0 k true a0_0 a0_1 a1_0 a1_1))
theorem spec_SlopeDistance.mono_l : ∀ k, (∀ y0 y1 y2 y3 y4, LeO (spec_SlopeDistance.j0 k y0 y1 y2 y3 y4) (spec_SlopeDistance.j0 (k + 1) y0 y1 y2 y3 y4))
 | 0 => fun _ _ _ _ _ r h => by simp [spec_SlopeDistance.j0] at h
 | k + 1 => by
  have ih0 := spec_SlopeDistance.mono_l k
  have i0 := fun z0 z1 z2 z3 z4 => MoO.mk (ih0 z0 z1 z2 z3 z4)
  ·intro y0 y1 y2 y3 y4
   unfold spec_SlopeDistance.j0
   exact mo_
theorem spec_SlopeDistance.mono : ∀ a0 a1 a2 a3 k, LeO (spec_SlopeDistance.f k a0 a1 a2 a3) (spec_SlopeDistance.f (k + 1) a0 a1 a2 a3) := by
 intro a0 a1 a2 a3 k
 have ih0 := spec_SlopeDistance.mono_l k
 have i0 := fun z0 z1 z2 z3 z4 => MoO.mk (ih0 z0 z1 z2 z3 z4)
 unfold spec_SlopeDistance.f
 exact mo_
instance spec_SlopeDistance.mi {a0 a1 a2 a3 k} : MoO (spec_SlopeDistance.f k a0 a1 a2 a3) (spec_SlopeDistance.f (k + 1) a0 a1 a2 a3) := ⟨spec_SlopeDistance.mono _ _ _ _ _⟩
set_option maxHeartbeats 8000000 in
set_option maxRecDepth 100000 in
theorem spec_SlopeDistance.calls (k : Nat) (a0_0 : Int) (a0_1 : Int) (a1_0 : Int) (a1_1 : Int) (r : Int) (w : World) (h : spec_SlopeDistance.f k a0_0 a0_1 a1_0 a1_1 = some r) :
  Calls Try.prog 14 #[.agg #[.int .i64 a0_0, .int .i64 a0_1], .agg #[.int .i64 a1_0, .int .i64 a1_1]] w fun e w' => e = .returned (.int .i64 r) ∧ Below w.heap.size w w' := by
 have hu25 := Try.underlying25
 have HB := Az.mk (Below.refl w.heap.size w)
 have H : ((spec_IsSlope.f k a0_0 a0_1).bind fun t345 => (if t345 = true then ((spec_IsSlope.f k a1_0 a1_1).bind fun t346 => (spec_SlopeDistance.j0 k (!t346) a0_0 a0_1 a1_0 a1_1)) else (spec_SlopeDistance.j0 k true a0_0 a0_1 a1_0 a1_1))) = some r := h
 clear h
 have HC3 := Az.mk H
 clear H
 go_enter Try.func14, Try.ntmps14
 go_upto_region 1 with (first | ((with_reducible refine gtD (N := 2) rfl ?_); refine bx (N := 2) (cs := #[.int .i64 a0_0, .int .i64 a0_1]) (t := 25) ?_; intro gb343 hg w4 hbox hb; have BK343 := Az.mk (hbox); have GW343 := gwz hg bw_13; have GE343 := gwz hg bw_13; replace HB := Az.mk (bwT bw_13 hb); clear hb hbox hg) | ((with_reducible refine gtD (N := 3) rfl ?_); refine bx (N := 3) (cs := #[.int .i64 a1_0, .int .i64 a1_1]) (t := 25) ?_; intro gb344 hg w5 hbox hb; have BK344 := Az.mk (hbox); have GW344 := gwz hg bw_13; have GE344 := gwz hg bw_13; replace HB := Az.mk (bwT bw_13 hb); have NB343_344 := nlt BK343 hg; have NB344_343 := ngt BK343 hg; replace BK343 := bkz BK343 hb; clear hb hbox hg))
 (try simp only [Act.put, List.setIfInBounds_toArray, List.set_cons_zero, List.set_cons_succ])
 go_cut [16] (fun v16 wc => ∃ (kq : Nat) (x16_2 : Bool), v16 = .bool x16_2 ∧ Az (spec_SlopeDistance.j0 kq x16_2 a0_0 a0_1 a1_0 a1_1 = some r) ∧ Az (kq ≤ k) ∧ Az (wc.heap[gb343]? = some (.cells #[.int .i64 a0_0, .int .i64 a0_1] 25 (0, 0))) ∧ Az (wc.heap[gb344]? = some (.cells #[.int .i64 a1_0, .int .i64 a1_1] 25 (0, 0))) ∧ Az (Below w.heap.size w wc))
 case first =>
  have H := HC3.out
  clear HC3
  replace H := bez H
  obtain ⟨t345, A6, H⟩ := H
  try dsimp only at H
  by_cases c7 : t345 = true
  rotate_left
  ·replace c7 := Bool.eq_false_iff.mpr c7
   subst c7
   rw [if_neg (show ¬ (false = true) by decide)] at H
   have H' := Az.mk H
   clear H
   have hnb14 := NB343_344.out
   have hnc14 := NB344_343.out
   have hcz15_0 := bkc0 BK343
   have hcz15_1 := bkc1 BK343
   have hfz15_0 := bkF BK343.out 0
   have hfz15_1 := bkF BK343.out 1
   go_wp2_with (first | ((with_reducible refine gtC (f := 22) rfl ?_); refine clz Try.func22 (some 10) #[.agg #[.int .i64 a0_0, .int .i64 a0_1]] ?_; (with_reducible refine (spec_IsSlope.calls k a0_0 a0_1 false _ A6.out).mono ?_); rintro e w16 ⟨rfl, hb⟩; refine ⟨_, rfl, ?_⟩; replace BK343 := bkz BK343 hb; replace BK344 := bkz BK344 hb; replace HB := Az.mk (bwT bw_13 hb); (try clear hb)))
   go_meet
   case rel => exact ⟨_, (true), rq2, H', ⟨by first | omega | exact Nat.le_refl _⟩, ⟨bk1 BK343⟩, ⟨bk1 BK344⟩, ⟨bw_13⟩⟩
  subst c7
  rw [if_pos rfl] at H
  replace H := bez H
  obtain ⟨t346, A8, H⟩ := H
  try dsimp only at H
  have H' := Az.mk H
  clear H
  have hnb9 := NB343_344.out
  have hnc9 := NB344_343.out
  have hcz10_0 := bkc0 BK343
  have hcz10_1 := bkc1 BK343
  have hfz10_0 := bkF BK343.out 0
  have hfz10_1 := bkF BK343.out 1
  go_wp2_with (first | ((with_reducible refine gtC (f := 22) rfl ?_); refine clz Try.func22 (some 10) #[.agg #[.int .i64 a0_0, .int .i64 a0_1]] ?_; (with_reducible refine (spec_IsSlope.calls k a0_0 a0_1 true _ A6.out).mono ?_); rintro e w11 ⟨rfl, hb⟩; refine ⟨_, rfl, ?_⟩; replace BK343 := bkz BK343 hb; replace BK344 := bkz BK344 hb; replace HB := Az.mk (bwT bw_13 hb); (try clear hb); obtain ⟨hcz12_0, hcz12_1, hfz12_0, hfz12_1⟩ := bq2 BK344) | (go_at_call 22; (with_reducible refine (spec_IsSlope.calls k a1_0 a1_1 t346 _ A8.out).mono ?_); rintro e w13 ⟨rfl, hb⟩; replace BK343 := bkz BK343 hb; replace BK344 := bkz BK344 hb; replace HB := Az.mk (bwT bw_13 hb); (try clear hb)))
  go_meet
  case rel => exact ⟨_, (!t346), rq2, H', ⟨by first | omega | exact Nat.le_refl _⟩, ⟨bk1 BK343⟩, ⟨bk1 BK344⟩, ⟨bw_13⟩⟩
 clear HC3
 try clear c7
 try clear hcz10_0
 try clear hcz10_1
 try clear hcz12_0
 try clear hcz12_1
 try clear hcz15_0
 try clear hcz15_1
 try clear hfz10_0
 try clear hfz10_1
 try clear hfz12_0
 try clear hfz12_1
 try clear hfz15_0
 try clear hfz15_1
 obtain ⟨kq, x16_2, rfl, HA, HJ2, BK343, BK344, HB⟩ := hcut
 cases kq with
 | zero => exact absurd HA.out (by simp [spec_SlopeDistance.j0])
 | succ kj2 =>
  have H := HA.out
  clear HA
  simp only [spec_SlopeDistance.j0] at H
  by_cases c17 : x16_2 = true
  ·subst c17
   rw [if_pos rfl] at H
   obtain rfl := Option.some.inj H
   go_wp2
   go_ret
   exact ⟨rq1, bw_13⟩
  replace c17 := Bool.eq_false_iff.mpr c17
  subst c17
  rw [if_neg (show ¬ (false = true) by decide)] at H
  replace H := bez H
  obtain ⟨⟨t347, t348⟩, A18, H⟩ := H
  try dsimp only at H
  by_cases c19 : (wrap64 ((wrap64 (a0_0 * a1_1)) - (wrap64 (a0_1 * a1_0)))) < 0
  ·rw [if_pos c19] at H
   have c19b0 : decide ((wrap64 ((wrap64 (a0_0 * a1_1)) - (wrap64 (a0_1 * a1_0)))) < 0) = true := decide_eq_true c19
   clear c19
   replace H := bez H
   obtain ⟨t349, A20, H⟩ := H
   replace H : (some t349) = some r := H
   obtain rfl := Option.some.inj H
   have hnb21 := NB343_344.out
   have hnc21 := NB344_343.out
   have hcz22_0 := bkc0 BK343
   have hcz22_1 := bkc1 BK343
   have hfz22_0 := bkF BK343.out 0
   have hfz22_1 := bkF BK343.out 1
   go_wp2_with (first | ((with_reducible refine gtC (f := 38) rfl ?_); refine clz Try.func38 (some 22) #[.int .i64 a0_0, .int .i64 a0_1] ?_; (with_reducible refine (spec_l14Bezout.calls kj2 a0_0 a0_1 t347 t348 _ A18.out).mono ?_); rintro e w' ⟨rfl, ⟨nd, rfl⟩⟩; refine ⟨_, rfl, ?_⟩; obtain ⟨hcz23_0, hcz23_1, hfz23_0, hfz23_1⟩ := bq2 BK344) | ((with_reducible refine gtC (f := 39) rfl ?_); refine clz Try.func39 (some 53) #[.int .i64 (wrap64 (-(wrap64 ((wrap64 (t347 * a1_0)) + (wrap64 (t348 * a1_1)))))), .int .i64 (wrap64 (-(wrap64 ((wrap64 (a0_0 * a1_1)) - (wrap64 (a0_1 * a1_0))))))] ?_; (with_reducible refine (spec_l14Far.calls kj2 (wrap64 (-(wrap64 ((wrap64 (t347 * a1_0)) + (wrap64 (t348 * a1_1)))))) (wrap64 (-(wrap64 ((wrap64 (a0_0 * a1_1)) - (wrap64 (a0_1 * a1_0)))))) t349 _ A20.out).mono ?_); rintro e w' ⟨rfl, ⟨nd, rfl⟩⟩; refine ⟨_, rfl, ?_⟩))
   go_ret
   exact ⟨rq1, bw_13⟩
  rw [if_neg c19] at H
  have c19b0 : decide ((wrap64 ((wrap64 (a0_0 * a1_1)) - (wrap64 (a0_1 * a1_0)))) < 0) = false := decide_eq_false c19
  clear c19
  replace H := bez H
  obtain ⟨t350, A24, H⟩ := H
  replace H : (some t350) = some r := H
  obtain rfl := Option.some.inj H
  have hnb25 := NB343_344.out
  have hnc25 := NB344_343.out
  have hcz26_0 := bkc0 BK343
  have hcz26_1 := bkc1 BK343
  have hfz26_0 := bkF BK343.out 0
  have hfz26_1 := bkF BK343.out 1
  go_wp2_with (first | ((with_reducible refine gtC (f := 38) rfl ?_); refine clz Try.func38 (some 22) #[.int .i64 a0_0, .int .i64 a0_1] ?_; (with_reducible refine (spec_l14Bezout.calls kj2 a0_0 a0_1 t347 t348 _ A18.out).mono ?_); rintro e w' ⟨rfl, ⟨nd, rfl⟩⟩; refine ⟨_, rfl, ?_⟩; obtain ⟨hcz27_0, hcz27_1, hfz27_0, hfz27_1⟩ := bq2 BK344) | ((with_reducible refine gtC (f := 39) rfl ?_); refine clz Try.func39 (some 53) #[.int .i64 (wrap64 ((wrap64 (t347 * a1_0)) + (wrap64 (t348 * a1_1)))), .int .i64 (wrap64 ((wrap64 (a0_0 * a1_1)) - (wrap64 (a0_1 * a1_0))))] ?_; (with_reducible refine (spec_l14Far.calls kj2 (wrap64 ((wrap64 (t347 * a1_0)) + (wrap64 (t348 * a1_1)))) (wrap64 ((wrap64 (a0_0 * a1_1)) - (wrap64 (a0_1 * a1_0)))) t350 _ A24.out).mono ?_); rintro e w' ⟨rfl, ⟨nd, rfl⟩⟩; refine ⟨_, rfl, ?_⟩))
  go_ret
  exact ⟨rq1, bw_13⟩

/-! ### laws_sameSlopes: function 15 -/
def laws_sameSlopes.l0 : Nat → List (S25) → List (S25) → Int → Option (Bool)
 | 0, _, _, _ => none
 | k + 1, x0, x1, x5 => if x5 < (x0.length : Int) then (if 0 ≤ x5 then (if x5 < (x1.length : Int) then (if (!(((rd_T25 x0 x5).f0) == ((rd_T25 x1 x5).f0)) || (!(((rd_T25 x0 x5).f1) == ((rd_T25 x1 x5).f1)))) = true then (some false) else (laws_sameSlopes.l0 k x0 x1 (wrap64 (x5 + 1)))) else (none)) else (none)) else (some true)
def laws_sameSlopes.f (k : Nat) (l0 : List (S25)) (l1 : List (S25)) : Option (Bool) := if (l0.length : Int) = (l1.length : Int) then (laws_sameSlopes.l0 k l0 l1 0) else (some false)
theorem laws_sameSlopes.mono_l : ∀ k, (∀ y0 y1 y2, LeO (laws_sameSlopes.l0 k y0 y1 y2) (laws_sameSlopes.l0 (k + 1) y0 y1 y2))
 | 0 => fun _ _ _ r h => by simp [laws_sameSlopes.l0] at h
 | k + 1 => by
  have ih0 := laws_sameSlopes.mono_l k
  have i0 := fun z0 z1 z2 => MoO.mk (ih0 z0 z1 z2)
  ·intro y0 y1 y2
   unfold laws_sameSlopes.l0
   exact mo_
theorem laws_sameSlopes.mono : ∀ a0 a1 k, LeO (laws_sameSlopes.f k a0 a1) (laws_sameSlopes.f (k + 1) a0 a1) := by
 intro a0 a1 k
 have ih0 := laws_sameSlopes.mono_l k
 have i0 := fun z0 z1 z2 => MoO.mk (ih0 z0 z1 z2)
 unfold laws_sameSlopes.f
 exact mo_
instance laws_sameSlopes.mi {a0 a1 k} : MoO (laws_sameSlopes.f k a0 a1) (laws_sameSlopes.f (k + 1) a0 a1) := ⟨laws_sameSlopes.mono _ _ _⟩
set_option maxHeartbeats 8000000 in
set_option maxRecDepth 100000 in
theorem laws_sameSlopes.calls (k : Nat) (A0 : Option Addr) (c0 : Nat) (l0 : List (S25)) (A1 : Option Addr) (c1 : Nat) (l1 : List (S25)) (r : Bool) (w : World) (hr0 : Kd.C k25 w A0 l0.length l0) (hc0 : l0.length ≤ c0) (hr1 : Kd.C k25 w A1 l1.length l1) (hc1 : l1.length ≤ c1) (h : laws_sameSlopes.f k l0 l1 = some r) :
  Calls Try.prog 15 #[.slice A0 l0.length c0, .slice A1 l1.length c1] w fun e w' => e = .returned (.bool r) ∧ Drawn0 w w' := by
 have hu25 := Try.underlying25
 have HR0 := Az.mk hr0
 have HC0 := Az.mk hc0
 clear hr0 hc0
 have HR1 := Az.mk hr1
 have HC1 := Az.mk hc1
 clear hr1 hc1
 have H : (if (l0.length : Int) = (l1.length : Int) then (laws_sameSlopes.l0 k l0 l1 0) else (some false)) = some r := h
 clear h
 by_cases c3 : (l0.length : Int) = (l1.length : Int)
 rotate_left
 ·rw [if_neg c3] at H
  have c3b0 : ((l0.length : Int) == (l1.length : Int)) = false := beq_eq_false_iff_ne.mpr c3
  have c3b1 : ((l0.length : Int) != (l1.length : Int)) = true := bne_iff_ne.mpr c3
  have c3b2 : (l0.length == l1.length) = false := by first | simpa using c3 | (simp at c3 ⊢; omega)
  obtain rfl := Option.some.inj H
  go_enter Try.func15, Try.ntmps15
  go_wp2
  repeat (go_quiet (fail); try go_wp2)
  go_ret
  exact ⟨by first | rfl | (simp; done) | (simp [*]; done), by repeat (first | exact Drawn0.refl _ | apply Drawn0.step)⟩
 rw [if_pos c3] at H
 have c3b0 : ((l0.length : Int) == (l1.length : Int)) = true := beq_iff_eq.mpr c3
 have c3b1 : ((l0.length : Int) != (l1.length : Int)) = false := bne_eq_false_iff_eq.mpr c3
 have c3b2 : (l0.length == l1.length) = true := by first | simpa using c3 | (simp at c3 ⊢; omega)
 clear c3
 have H' := Az.mk H
 clear H
 go_enter Try.func15, Try.ntmps15
 go_wp2
 repeat (go_quiet (fail); try go_wp2)
 go_loopg [5] k (fun kq v5 w' => ∃ (x5_1 : Int), v5 = .int .i64 x5_1 ∧ Az (laws_sameSlopes.l0 kq l0 l1 x5_1 = some r) ∧ Az (kq ≤ k) ∧ Drawn0 w w')
 case atStart => exact ⟨(0), rq2, H', ⟨Nat.le_refl _⟩, by repeat (first | exact Drawn0.refl _ | apply Drawn0.step)⟩
 clear H'
 try clear c1
 try clear c3
 try clear c3b0
 try clear c3b1
 try clear c3b2
 obtain ⟨x5_1, rfl, HA, HK1, ⟨m1, rfl⟩⟩ := hrel
 cases gk with
 | zero => exact absurd HA.out (by simp [laws_sameSlopes.l0])
 | succ k1 =>
  have H := HA.out
  clear HA
  simp only [laws_sameSlopes.l0] at H
  by_cases c4 : x5_1 < (l0.length : Int)
  rotate_left
  ·rw [if_neg c4] at H
   have c4b0 : decide (x5_1 < (l0.length : Int)) = false := decide_eq_false c4
   clear c4
   obtain rfl := Option.some.inj H
   go_wp2
   repeat (go_quiet (fail); try go_wp2)
   go_ret
   exact ⟨by first | rfl | (simp; done) | (simp [*]; done), by repeat (first | exact Drawn0.refl _ | apply Drawn0.step)⟩
  rw [if_pos c4] at H
  have c4b0 : decide (x5_1 < (l0.length : Int)) = true := decide_eq_true c4
  clear c4
  by_cases c5 : 0 ≤ x5_1
  rotate_left
  ·rw [if_neg c5] at H
   exact absurd H (by simp)
  rw [if_pos c5] at H
  have c5b0 : decide (0 ≤ x5_1) = true := decide_eq_true c5
  clear c5
  by_cases c6 : x5_1 < (l1.length : Int)
  rotate_left
  ·rw [if_neg c6] at H
   exact absurd H (by simp)
  rw [if_pos c6] at H
  have c6b0 : decide (x5_1 < (l1.length : Int)) = true := decide_eq_true c6
  clear c6
  by_cases c7 : (!(((rd_T25 l0 x5_1).f0) == ((rd_T25 l1 x5_1).f0)) || (!(((rd_T25 l0 x5_1).f1) == ((rd_T25 l1 x5_1).f1)))) = true
  ·rw [if_pos c7] at H
   have c7b0 : (!(((rd_T25 l0 x5_1).f0) == ((rd_T25 l1 x5_1).f0)) || (!(((rd_T25 l0 x5_1).f1) == ((rd_T25 l1 x5_1).f1)))) = true := c7
   clear c7
   obtain rfl := Option.some.inj H
   have p351 : 0 ≤ (x5_1 : Int) := of_decide_eq_true (by first | (with_reducible assumption) | assumption)
   have q351 : x5_1 < (l0.length : Int) := of_decide_eq_true (by first | (with_reducible assumption) | assumption)
   obtain ⟨ad351, e351, hx351_0, hx351_1⟩ := at_T25 HR0.out x5_1 p351 q351
   cases e351
   replace p351 := eq_true p351
   replace q351 := eq_true q351
   have p352 : 0 ≤ (x5_1 : Int) := of_decide_eq_true (by first | (with_reducible assumption) | assumption)
   have q352 : x5_1 < (l1.length : Int) := of_decide_eq_true (by first | (with_reducible assumption) | assumption)
   obtain ⟨ad352, e352, hx352_0, hx352_1⟩ := at_T25 HR1.out x5_1 p352 q352
   cases e352
   replace p352 := eq_true p352
   replace q352 := eq_true q352
   go_wp2
   repeat (go_quiet (fail); try go_wp2)
   go_ret
   exact ⟨by first | rfl | (simp; done) | (simp [*]; done), by repeat (first | exact Drawn0.refl _ | apply Drawn0.step)⟩
  rw [if_neg c7] at H
  have c7b0 : (!(((rd_T25 l0 x5_1).f0) == ((rd_T25 l1 x5_1).f0)) || (!(((rd_T25 l0 x5_1).f1) == ((rd_T25 l1 x5_1).f1)))) = false := by simpa using c7
  clear c7
  have H' := Az.mk H
  clear H
  have p351 : 0 ≤ (x5_1 : Int) := of_decide_eq_true (by first | (with_reducible assumption) | assumption)
  have q351 : x5_1 < (l0.length : Int) := of_decide_eq_true (by first | (with_reducible assumption) | assumption)
  obtain ⟨ad351, e351, hx351_0, hx351_1⟩ := at_T25 HR0.out x5_1 p351 q351
  cases e351
  replace p351 := eq_true p351
  replace q351 := eq_true q351
  have p352 : 0 ≤ (x5_1 : Int) := of_decide_eq_true (by first | (with_reducible assumption) | assumption)
  have q352 : x5_1 < (l1.length : Int) := of_decide_eq_true (by first | (with_reducible assumption) | assumption)
  obtain ⟨ad352, e352, hx352_0, hx352_1⟩ := at_T25 HR1.out x5_1 p352 q352
  cases e352
  replace p352 := eq_true p352
  replace q352 := eq_true q352
  go_wp2
  repeat (go_quiet (fail); try go_wp2)
  go_roundg k1
  case measure => have := HK1.out; omega
  case rel => exact ⟨(wrap64 (x5_1 + 1)), rq2, H', ⟨by have := HK1.out; omega⟩, by repeat (first | exact Drawn0.refl _ | apply Drawn0.step)⟩

/-! ### spec_CrossNumber: function 18 -/
def spec_CrossNumber.f (k : Nat) (a0_0 : Int) (a0_1 : Int) (a1_0 : Int) (a1_1 : Int) : Option (Int) := (spec_IsSlope.f k a0_0 a0_1).bind fun t355 => (if t355 = true then ((spec_IsSlope.f k a1_0 a1_1).bind fun t356 => (if t356 = true then ((spec_l3Abs.f (wrap64 ((wrap64 (a0_0 * a1_1)) - (wrap64 (a0_1 * a1_0))))).bind fun t357 => (some t357)) else (some (-1)))) else (some (-1)))
theorem spec_CrossNumber.mono : ∀ a0 a1 a2 a3 k, LeO (spec_CrossNumber.f k a0 a1 a2 a3) (spec_CrossNumber.f (k + 1) a0 a1 a2 a3) := by
 intro a0 a1 a2 a3 k
 unfold spec_CrossNumber.f
 exact mo_
instance spec_CrossNumber.mi {a0 a1 a2 a3 k} : MoO (spec_CrossNumber.f k a0 a1 a2 a3) (spec_CrossNumber.f (k + 1) a0 a1 a2 a3) := ⟨spec_CrossNumber.mono _ _ _ _ _⟩
set_option maxHeartbeats 8000000 in
set_option maxRecDepth 100000 in
theorem spec_CrossNumber.calls (k : Nat) (a0_0 : Int) (a0_1 : Int) (a1_0 : Int) (a1_1 : Int) (r : Int) (w : World) (h : spec_CrossNumber.f k a0_0 a0_1 a1_0 a1_1 = some r) :
  Calls Try.prog 18 #[.agg #[.int .i64 a0_0, .int .i64 a0_1], .agg #[.int .i64 a1_0, .int .i64 a1_1]] w fun e w' => e = .returned (.int .i64 r) ∧ Below w.heap.size w w' := by
 have hu25 := Try.underlying25
 have HB := Az.mk (Below.refl w.heap.size w)
 have H : ((spec_IsSlope.f k a0_0 a0_1).bind fun t355 => (if t355 = true then ((spec_IsSlope.f k a1_0 a1_1).bind fun t356 => (if t356 = true then ((spec_l3Abs.f (wrap64 ((wrap64 (a0_0 * a1_1)) - (wrap64 (a0_1 * a1_0))))).bind fun t357 => (some t357)) else (some (-1)))) else (some (-1)))) = some r := h
 clear h
 replace H := bez H
 obtain ⟨t355, A3, H⟩ := H
 try dsimp only at H
 by_cases c4 : t355 = true
 rotate_left
 ·replace c4 := Bool.eq_false_iff.mpr c4
  subst c4
  rw [if_neg (show ¬ (false = true) by decide)] at H
  obtain rfl := Option.some.inj H
  go_enter Try.func18, Try.ntmps18
  go_wp2_with (first | ((with_reducible refine gtD (N := 2) rfl ?_); refine bx (N := 2) (cs := #[.int .i64 a0_0, .int .i64 a0_1]) (t := 25) ?_; intro gb353 hg w24 hbox hb; have BK353 := Az.mk (hbox); have GW353 := gwz hg bw_13; have GE353 := gwz hg bw_13; replace HB := Az.mk (bwT bw_13 hb); clear hb hbox hg) | ((with_reducible refine gtD (N := 3) rfl ?_); refine bx (N := 3) (cs := #[.int .i64 a1_0, .int .i64 a1_1]) (t := 25) ?_; intro gb354 hg w25 hbox hb; have BK354 := Az.mk (hbox); have GW354 := gwz hg bw_13; have GE354 := gwz hg bw_13; replace HB := Az.mk (bwT bw_13 hb); have NB353_354 := nlt BK353 hg; have NB354_353 := ngt BK353 hg; replace BK353 := bkz BK353 hb; clear hb hbox hg; have hnb26 := NB353_354.out; have hnc26 := NB354_353.out; obtain ⟨hcz27_0, hcz27_1, hfz27_0, hfz27_1⟩ := bq2 BK353) | ((with_reducible refine gtC (f := 22) rfl ?_); refine clz Try.func22 (some 6) #[.agg #[.int .i64 a0_0, .int .i64 a0_1]] ?_; (with_reducible refine (spec_IsSlope.calls k a0_0 a0_1 false _ A3.out).mono ?_); rintro e w28 ⟨rfl, hb⟩; refine ⟨_, rfl, ?_⟩; replace BK353 := bkz BK353 hb; replace BK354 := bkz BK354 hb; replace HB := Az.mk (bwT bw_13 hb); (try clear hb)))
  go_ret
  exact ⟨rq1, bw_13⟩
 subst c4
 rw [if_pos rfl] at H
 replace H := bez H
 obtain ⟨t356, A5, H⟩ := H
 try dsimp only at H
 by_cases c6 : t356 = true
 rotate_left
 ·replace c6 := Bool.eq_false_iff.mpr c6
  subst c6
  rw [if_neg (show ¬ (false = true) by decide)] at H
  obtain rfl := Option.some.inj H
  go_enter Try.func18, Try.ntmps18
  go_wp2_with (first | ((with_reducible refine gtD (N := 2) rfl ?_); refine bx (N := 2) (cs := #[.int .i64 a0_0, .int .i64 a0_1]) (t := 25) ?_; intro gb353 hg w17 hbox hb; have BK353 := Az.mk (hbox); have GW353 := gwz hg bw_13; have GE353 := gwz hg bw_13; replace HB := Az.mk (bwT bw_13 hb); clear hb hbox hg) | ((with_reducible refine gtD (N := 3) rfl ?_); refine bx (N := 3) (cs := #[.int .i64 a1_0, .int .i64 a1_1]) (t := 25) ?_; intro gb354 hg w18 hbox hb; have BK354 := Az.mk (hbox); have GW354 := gwz hg bw_13; have GE354 := gwz hg bw_13; replace HB := Az.mk (bwT bw_13 hb); have NB353_354 := nlt BK353 hg; have NB354_353 := ngt BK353 hg; replace BK353 := bkz BK353 hb; clear hb hbox hg; have hnb19 := NB353_354.out; have hnc19 := NB354_353.out; obtain ⟨hcz20_0, hcz20_1, hfz20_0, hfz20_1⟩ := bq2 BK353) | ((with_reducible refine gtC (f := 22) rfl ?_); refine clz Try.func22 (some 6) #[.agg #[.int .i64 a0_0, .int .i64 a0_1]] ?_; (with_reducible refine (spec_IsSlope.calls k a0_0 a0_1 true _ A3.out).mono ?_); rintro e w21 ⟨rfl, hb⟩; refine ⟨_, rfl, ?_⟩; replace BK353 := bkz BK353 hb; replace BK354 := bkz BK354 hb; replace HB := Az.mk (bwT bw_13 hb); (try clear hb); obtain ⟨hcz22_0, hcz22_1, hfz22_0, hfz22_1⟩ := bq2 BK354) | (go_at_call 22; (with_reducible refine (spec_IsSlope.calls k a1_0 a1_1 false _ A5.out).mono ?_); rintro e w23 ⟨rfl, hb⟩; replace BK353 := bkz BK353 hb; replace BK354 := bkz BK354 hb; replace HB := Az.mk (bwT bw_13 hb); (try clear hb)))
  go_ret
  exact ⟨rq1, bw_13⟩
 subst c6
 rw [if_pos rfl] at H
 replace H := bez H
 obtain ⟨t357, A7, H⟩ := H
 replace H : (some t357) = some r := H
 obtain rfl := Option.some.inj H
 go_enter Try.func18, Try.ntmps18
 go_wp2_with (first | ((with_reducible refine gtD (N := 2) rfl ?_); refine bx (N := 2) (cs := #[.int .i64 a0_0, .int .i64 a0_1]) (t := 25) ?_; intro gb353 hg w8 hbox hb; have BK353 := Az.mk (hbox); have GW353 := gwz hg bw_13; have GE353 := gwz hg bw_13; replace HB := Az.mk (bwT bw_13 hb); clear hb hbox hg) | ((with_reducible refine gtD (N := 3) rfl ?_); refine bx (N := 3) (cs := #[.int .i64 a1_0, .int .i64 a1_1]) (t := 25) ?_; intro gb354 hg w9 hbox hb; have BK354 := Az.mk (hbox); have GW354 := gwz hg bw_13; have GE354 := gwz hg bw_13; replace HB := Az.mk (bwT bw_13 hb); have NB353_354 := nlt BK353 hg; have NB354_353 := ngt BK353 hg; replace BK353 := bkz BK353 hb; clear hb hbox hg; have hnb10 := NB353_354.out; have hnc10 := NB354_353.out; obtain ⟨hcz11_0, hcz11_1, hfz11_0, hfz11_1⟩ := bq2 BK353) | ((with_reducible refine gtC (f := 22) rfl ?_); refine clz Try.func22 (some 6) #[.agg #[.int .i64 a0_0, .int .i64 a0_1]] ?_; (with_reducible refine (spec_IsSlope.calls k a0_0 a0_1 true _ A3.out).mono ?_); rintro e w12 ⟨rfl, hb⟩; refine ⟨_, rfl, ?_⟩; replace BK353 := bkz BK353 hb; replace BK354 := bkz BK354 hb; replace HB := Az.mk (bwT bw_13 hb); (try clear hb); obtain ⟨hcz13_0, hcz13_1, hfz13_0, hfz13_1⟩ := bq2 BK354) | (go_at_call 22; (with_reducible refine (spec_IsSlope.calls k a1_0 a1_1 true _ A5.out).mono ?_); rintro e w14 ⟨rfl, hb⟩; replace BK353 := bkz BK353 hb; replace BK354 := bkz BK354 hb; replace HB := Az.mk (bwT bw_13 hb); (try clear hb); obtain ⟨hcz15_0, hcz15_1, hfz15_0, hfz15_1⟩ := bq2 BK353; obtain ⟨hcz16_0, hcz16_1, hfz16_0, hfz16_1⟩ := bq2 BK354) | ((with_reducible refine gtC (f := 43) rfl ?_); refine clz Try.func43 (some 24) #[.int .i64 (wrap64 ((wrap64 (a0_0 * a1_1)) - (wrap64 (a0_1 * a1_0))))] ?_; (with_reducible refine (spec_l3Abs.calls (wrap64 ((wrap64 (a0_0 * a1_1)) - (wrap64 (a0_1 * a1_0)))) t357 _ A7.out).mono ?_); rintro e w' ⟨rfl, ⟨nd, rfl⟩⟩; refine ⟨_, rfl, ?_⟩))
 go_ret
 exact ⟨rq1, bw_13⟩

end Go.Proofs.Ytigcjehokbgclaa.P
