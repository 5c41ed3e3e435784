-- By this session's driver (wip/tools/mk.py) of the kit's print program, over several statements at once. Not trusted: Lean checks it.
import Derived.Test.YtnoiijdffdpabaaDoorQWZip
import Derived.Test.YtnoiijdffdpabaaDoorQPx0
import Derived.Test.YtnoiijdffdpabaaDoorQPx2
import Derived.Test.YtnoiijdffdpabaaDoorQPx13
import Derived.Test.YtnoiijdffdpabaaDoorQPx15
import Derived.Test.YtnoiijdffdpabaaDoorQPx19
import Derived.Test.YtnoiijdffdpabaaDoorQPx20
namespace Go.Proofs.YtnoiijdffdpabaaDoor.P
open Go.RowKit Go.Proofs.YtnoiijdffdpabaaDoorW.PrintWords Go.Proofs.YtnoiijdffdpabaaDoorW.PrintLast Go.Proofs.YtnoiijdffdpabaaDoorW.PrintMore
attribute [local go_sem] max2_int min2_int max_two min_two max_three min_three max_four min_four   -- for this text's walks alone
set_option linter.unusedVariables false
set_option linter.unusedSimpArgs false
theorem bw_23 {n : Nat} {v v' : World} (h : Below n v v' := by repeat (first | (with_reducible first | exact HB.out | apply bwA | apply pbN | apply bwD | refine bwS ?_ GE466.out | refine bwS ?_ GE471.out | refine bwS ?_ GE478.out | refine bwS ?_ GE482.out | refine bwS ?_ GE490.out) | exact HB.out)) : Below n v v' := h
theorem ln_23 {P : Prop} (h : P := by (try simp only [List.map_toArray, List.map_cons, List.map_nil]); first | done | rfl | (simp only [List.length_drop, List.length_take]; rfl)) : P := h
open Option renaming bind_eq_some_iff → be
theorem z23_0 {p : Prop} (h : p := by (with_reducible repeat (first | apply Kd.R_alloc | apply Kd.R_drewN | apply Kd.R_drew)); exact HO485.out) : p := h

attribute [local go_sem high] eqA35
/-! ### laws_sameSlopes: function 31 -/
def laws_sameSlopes.l0 : Nat → List (S35) → List (S35) → Int → Option (Bool)
 | 0, _, _, _ => none
 | k + 1, x0, x1, x5 => if x5 < (x0.length : Int) then (if 0 ≤ x5 then (if x5 < (x1.length : Int) then (if (!(((rd_T35 x0 x5).f0) == ((rd_T35 x1 x5).f0)) || (!(((rd_T35 x0 x5).f1) == ((rd_T35 x1 x5).f1)))) = true then (some false) else (laws_sameSlopes.l0 k x0 x1 (wrap64 (x5 + 1)))) else (none)) else (none)) else (some true)
def laws_sameSlopes.f (k : Nat) (l0 : List (S35)) (l1 : List (S35)) : Option (Bool) := if (l0.length : Int) = (l1.length : Int) then (laws_sameSlopes.l0 k l0 l1 0) else (some false)
theorem laws_sameSlopes.mono_l : ∀ k, (∀ y0 y1 y2, LeO (laws_sameSlopes.l0 k y0 y1 y2) (laws_sameSlopes.l0 (k + 1) y0 y1 y2))
 | 0 => fun _ _ _ r h => by simp [laws_sameSlopes.l0] at h
 | k + 1 => by
  have ih0 := laws_sameSlopes.mono_l k
  have i0 := fun z0 z1 z2 => MoO.mk (ih0 z0 z1 z2)
  ·intro y0 y1 y2
   unfold laws_sameSlopes.l0
   exact mo_
theorem laws_sameSlopes.mono : ∀ a0 a1 k, LeO (laws_sameSlopes.f k a0 a1) (laws_sameSlopes.f (k + 1) a0 a1) := by
 intro a0 a1 k
 have ih0 := laws_sameSlopes.mono_l k
 have i0 := fun z0 z1 z2 => MoO.mk (ih0 z0 z1 z2)
 unfold laws_sameSlopes.f
 exact mo_
instance laws_sameSlopes.mi {a0 a1 k} : MoO (laws_sameSlopes.f k a0 a1) (laws_sameSlopes.f (k + 1) a0 a1) := ⟨laws_sameSlopes.mono _ _ _⟩
set_option maxHeartbeats 8000000 in
set_option maxRecDepth 100000 in
theorem laws_sameSlopes.calls (k : Nat) (A0 : Option Addr) (c0 : Nat) (l0 : List (S35)) (A1 : Option Addr) (c1 : Nat) (l1 : List (S35)) (r : Bool) (w : World) (hr0 : Kd.C k35 w A0 l0.length l0) (hc0 : l0.length ≤ c0) (hr1 : Kd.C k35 w A1 l1.length l1) (hc1 : l1.length ≤ c1) (h : laws_sameSlopes.f k l0 l1 = some r) :
  Calls Tryd.prog 31 #[.slice A0 l0.length c0, .slice A1 l1.length c1] w fun e w' => e = .returned (.bool r) ∧ Drawn0 w w' := by
 have hu35 := Tryd.underlying35
 have HR0 := Az.mk hr0
 have HC0 := Az.mk hc0
 clear hr0 hc0
 have HR1 := Az.mk hr1
 have HC1 := Az.mk hc1
 clear hr1 hc1
 have H : (if (l0.length : Int) = (l1.length : Int) then (laws_sameSlopes.l0 k l0 l1 0) else (some false)) = some r := h
 clear h
 by_cases c3 : (l0.length : Int) = (l1.length : Int)
 rotate_left
 ·rw [if_neg c3] at H
  have c3b0 : ((l0.length : Int) == (l1.length : Int)) = false := beq_eq_false_iff_ne.mpr c3
  have c3b1 : ((l0.length : Int) != (l1.length : Int)) = true := bne_iff_ne.mpr c3
  have c3b2 : (l0.length == l1.length) = false := by first | simpa using c3 | (simp at c3 ⊢; omega)
  obtain rfl := Option.some.inj H
  go_enter Tryd.func31, Tryd.ntmps31
  go_wp2
  repeat (go_quiet (fail); try go_wp2)
  go_ret
  exact ⟨by first | rfl | (simp; done) | (simp [*]; done), by repeat (first | exact Drawn0.refl _ | apply Drawn0.step)⟩
 rw [if_pos c3] at H
 have c3b0 : ((l0.length : Int) == (l1.length : Int)) = true := beq_iff_eq.mpr c3
 have c3b1 : ((l0.length : Int) != (l1.length : Int)) = false := bne_eq_false_iff_eq.mpr c3
 have c3b2 : (l0.length == l1.length) = true := by first | simpa using c3 | (simp at c3 ⊢; omega)
 clear c3
 have H' := Az.mk H
 clear H
 go_enter Tryd.func31, Tryd.ntmps31
 go_wp2
 repeat (go_quiet (fail); try go_wp2)
 go_loopg [5] k (fun kq v5 w' => ∃ (x5_1 : Int), v5 = .int .i64 x5_1 ∧ Az (laws_sameSlopes.l0 kq l0 l1 x5_1 = some r) ∧ Az (kq ≤ k) ∧ Drawn0 w w')
 case atStart => exact ⟨(0), rq2, H', ⟨Nat.le_refl _⟩, by repeat (first | exact Drawn0.refl _ | apply Drawn0.step)⟩
 clear H'
 try clear c1
 try clear c3
 try clear c3b0
 try clear c3b1
 try clear c3b2
 obtain ⟨x5_1, rfl, HA, HK1, ⟨m1, rfl⟩⟩ := hrel
 cases gk with
 | zero => exact absurd HA.out (by simp [laws_sameSlopes.l0])
 | succ k1 =>
  have H := HA.out
  clear HA
  simp only [laws_sameSlopes.l0] at H
  by_cases c4 : x5_1 < (l0.length : Int)
  rotate_left
  ·rw [if_neg c4] at H
   have c4b0 : decide (x5_1 < (l0.length : Int)) = false := decide_eq_false c4
   clear c4
   obtain rfl := Option.some.inj H
   go_wp2
   repeat (go_quiet (fail); try go_wp2)
   go_ret
   exact ⟨by first | rfl | (simp; done) | (simp [*]; done), by repeat (first | exact Drawn0.refl _ | apply Drawn0.step)⟩
  rw [if_pos c4] at H
  have c4b0 : decide (x5_1 < (l0.length : Int)) = true := decide_eq_true c4
  clear c4
  by_cases c5 : 0 ≤ x5_1
  rotate_left
  ·rw [if_neg c5] at H
   exact absurd H (by simp)
  rw [if_pos c5] at H
  have c5b0 : decide (0 ≤ x5_1) = true := decide_eq_true c5
  clear c5
  by_cases c6 : x5_1 < (l1.length : Int)
  rotate_left
  ·rw [if_neg c6] at H
   exact absurd H (by simp)
  rw [if_pos c6] at H
  have c6b0 : decide (x5_1 < (l1.length : Int)) = true := decide_eq_true c6
  clear c6
  by_cases c7 : (!(((rd_T35 l0 x5_1).f0) == ((rd_T35 l1 x5_1).f0)) || (!(((rd_T35 l0 x5_1).f1) == ((rd_T35 l1 x5_1).f1)))) = true
  ·rw [if_pos c7] at H
   have c7b0 : (!(((rd_T35 l0 x5_1).f0) == ((rd_T35 l1 x5_1).f0)) || (!(((rd_T35 l0 x5_1).f1) == ((rd_T35 l1 x5_1).f1)))) = true := c7
   clear c7
   obtain rfl := Option.some.inj H
   have p464 : 0 ≤ (x5_1 : Int) := of_decide_eq_true (by first | (with_reducible assumption) | assumption)
   have q464 : x5_1 < (l0.length : Int) := of_decide_eq_true (by first | (with_reducible assumption) | assumption)
   obtain ⟨ad464, e464, hx464_0, hx464_1⟩ := at_T35 HR0.out x5_1 p464 q464
   cases e464
   replace p464 := eq_true p464
   replace q464 := eq_true q464
   have p465 : 0 ≤ (x5_1 : Int) := of_decide_eq_true (by first | (with_reducible assumption) | assumption)
   have q465 : x5_1 < (l1.length : Int) := of_decide_eq_true (by first | (with_reducible assumption) | assumption)
   obtain ⟨ad465, e465, hx465_0, hx465_1⟩ := at_T35 HR1.out x5_1 p465 q465
   cases e465
   replace p465 := eq_true p465
   replace q465 := eq_true q465
   go_wp2
   repeat (go_quiet (fail); try go_wp2)
   go_ret
   exact ⟨by first | rfl | (simp; done) | (simp [*]; done), by repeat (first | exact Drawn0.refl _ | apply Drawn0.step)⟩
  rw [if_neg c7] at H
  have c7b0 : (!(((rd_T35 l0 x5_1).f0) == ((rd_T35 l1 x5_1).f0)) || (!(((rd_T35 l0 x5_1).f1) == ((rd_T35 l1 x5_1).f1)))) = false := by simpa using c7
  clear c7
  have H' := Az.mk H
  clear H
  have p464 : 0 ≤ (x5_1 : Int) := of_decide_eq_true (by first | (with_reducible assumption) | assumption)
  have q464 : x5_1 < (l0.length : Int) := of_decide_eq_true (by first | (with_reducible assumption) | assumption)
  obtain ⟨ad464, e464, hx464_0, hx464_1⟩ := at_T35 HR0.out x5_1 p464 q464
  cases e464
  replace p464 := eq_true p464
  replace q464 := eq_true q464
  have p465 : 0 ≤ (x5_1 : Int) := of_decide_eq_true (by first | (with_reducible assumption) | assumption)
  have q465 : x5_1 < (l1.length : Int) := of_decide_eq_true (by first | (with_reducible assumption) | assumption)
  obtain ⟨ad465, e465, hx465_0, hx465_1⟩ := at_T35 HR1.out x5_1 p465 q465
  cases e465
  replace p465 := eq_true p465
  replace q465 := eq_true q465
  go_wp2
  repeat (go_quiet (fail); try go_wp2)
  go_roundg k1
  case measure => have := HK1.out; omega
  case rel => exact ⟨(wrap64 (x5_1 + 1)), rq2, H', ⟨by have := HK1.out; omega⟩, by repeat (first | exact Drawn0.refl _ | apply Drawn0.step)⟩

/-! ### impl_FixedSlopes: function 32 -/
def impl_FixedSlopes.j0 : Nat → Int → Int → Int → Bool → Int → Int → Int → Int → Option ((List (S35)))
 | 0, _, _, _, _, _, _, _, _ => none
 | k + 1, x3, x4, x5, x28, x467000, x467001, x467002, x467003 => if x28 = true then ((impl_SlopeOf.f k x467001 (wrap64 (x467003 - x3))).bind fun bt468 => (if bt468.2.2 = true then (some (([(⟨bt468.1, bt468.2.1⟩ : S35)] : List (S35)))) else (some ([] : List (S35))))) else ((impl_SlopeOf.f k x4 x5).bind fun bt475 => (if bt475.2.2 = true then (some (([(⟨bt475.1, bt475.2.1⟩ : S35)] : List (S35)))) else (some ([] : List (S35)))))
def impl_FixedSlopes.f (k : Nat) (a0_0 : Int) (a0_1 : Int) (a0_2 : Int) (a0_3 : Int) : Option ((List (S35))) := (impl_KindOf.f k a0_0 a0_1 a0_2 a0_3).bind fun t467 => (if t467.toList = ([116, 119, 105, 115, 116] : List UInt8) then (if (wrap64 (a0_0 - (wrap64 (Int.tdiv (wrap64 (a0_0 + a0_3)) 2)))) = 0 then (impl_FixedSlopes.j0 k (wrap64 (Int.tdiv (wrap64 (a0_0 + a0_3)) 2)) (wrap64 (a0_0 - (wrap64 (Int.tdiv (wrap64 (a0_0 + a0_3)) 2)))) a0_2 (a0_2 == 0) a0_0 a0_1 a0_2 a0_3) else (impl_FixedSlopes.j0 k (wrap64 (Int.tdiv (wrap64 (a0_0 + a0_3)) 2)) (wrap64 (a0_0 - (wrap64 (Int.tdiv (wrap64 (a0_0 + a0_3)) 2)))) a0_2 false a0_0 a0_1 a0_2 a0_3)) else (some ([] : List (S35))))
theorem impl_FixedSlopes.mono_l : ∀ k, (∀ y0 y1 y2 y3 y4 y5 y6 y7, LeO (impl_FixedSlopes.j0 k y0 y1 y2 y3 y4 y5 y6 y7) (impl_FixedSlopes.j0 (k + 1) y0 y1 y2 y3 y4 y5 y6 y7))
 | 0 => fun _ _ _ _ _ _ _ _ r h => by simp [impl_FixedSlopes.j0] at h
 | k + 1 => by
  have ih0 := impl_FixedSlopes.mono_l k
  have i0 := fun z0 z1 z2 z3 z4 z5 z6 z7 => MoO.mk (ih0 z0 z1 z2 z3 z4 z5 z6 z7)
  ·intro y0 y1 y2 y3 y4 y5 y6 y7
   unfold impl_FixedSlopes.j0
   exact mo_
theorem impl_FixedSlopes.mono : ∀ a0 a1 a2 a3 k, LeO (impl_FixedSlopes.f k a0 a1 a2 a3) (impl_FixedSlopes.f (k + 1) a0 a1 a2 a3) := by
 intro a0 a1 a2 a3 k
 have ih0 := impl_FixedSlopes.mono_l k
 have i0 := fun z0 z1 z2 z3 z4 z5 z6 z7 => MoO.mk (ih0 z0 z1 z2 z3 z4 z5 z6 z7)
 unfold impl_FixedSlopes.f
 exact mo_
instance impl_FixedSlopes.mi {a0 a1 a2 a3 k} : MoO (impl_FixedSlopes.f k a0 a1 a2 a3) (impl_FixedSlopes.f (k + 1) a0 a1 a2 a3) := ⟨impl_FixedSlopes.mono _ _ _ _ _⟩
set_option maxHeartbeats 8000000 in
set_option maxRecDepth 100000 in
theorem impl_FixedSlopes.calls (k : Nat) (a0_0 : Int) (a0_1 : Int) (a0_2 : Int) (a0_3 : Int) (r : List (S35)) (w : World) (h : impl_FixedSlopes.f k a0_0 a0_1 a0_2 a0_3 = some r) :
  Calls Tryd.prog 32 #[.agg #[.int .i64 a0_0, .int .i64 a0_1, .int .i64 a0_2, .int .i64 a0_3]] w fun e w' => ∃ v0_ : Value, e = .returned (v0_) ∧ Kd.R k35 35 w' w.heap.size (fun _ => True) v0_ r ∧ Below w.heap.size w w' := by
 have hu25 := Tryd.underlying25
 have hu35 := Tryd.underlying35
 have HB := Az.mk (Below.refl w.heap.size w)
 have H : ((impl_KindOf.f k a0_0 a0_1 a0_2 a0_3).bind fun t467 => (if t467.toList = ([116, 119, 105, 115, 116] : List UInt8) then (if (wrap64 (a0_0 - (wrap64 (Int.tdiv (wrap64 (a0_0 + a0_3)) 2)))) = 0 then (impl_FixedSlopes.j0 k (wrap64 (Int.tdiv (wrap64 (a0_0 + a0_3)) 2)) (wrap64 (a0_0 - (wrap64 (Int.tdiv (wrap64 (a0_0 + a0_3)) 2)))) a0_2 (a0_2 == 0) a0_0 a0_1 a0_2 a0_3) else (impl_FixedSlopes.j0 k (wrap64 (Int.tdiv (wrap64 (a0_0 + a0_3)) 2)) (wrap64 (a0_0 - (wrap64 (Int.tdiv (wrap64 (a0_0 + a0_3)) 2)))) a0_2 false a0_0 a0_1 a0_2 a0_3)) else (some ([] : List (S35))))) = some r := h
 clear h
 replace H := bez H
 obtain ⟨t467, A2, H⟩ := H
 try dsimp only at H
 by_cases c3 : t467.toList = ([116, 119, 105, 115, 116] : List UInt8)
 rotate_left
 ·rw [if_neg c3] at H
  have c3b0 : (t467.toList == ([116, 119, 105, 115, 116] : List UInt8)) = false := beq_eq_false_iff_ne.mpr c3
  have c3b1 : (t467.toList != ([116, 119, 105, 115, 116] : List UInt8)) = true := bne_iff_ne.mpr c3
  obtain rfl := Option.some.inj H
  go_enter Tryd.func32, Tryd.ntmps32
  go_wp2_with (first | ((with_reducible refine gtD (N := 1) rfl ?_); refine bx (N := 1) (cs := #[.int .i64 a0_0, .int .i64 a0_1, .int .i64 a0_2, .int .i64 a0_3]) (t := 25) ?_; intro gb466 hg w37 hbox hb; have BK466 := Az.mk (hbox); have GW466 := gwz hg bw_23; have GE466 := gwz hg bw_23; replace HB := Az.mk (bwT bw_23 hb); clear hb hbox hg; obtain ⟨hcz38_0, hcz38_1, hcz38_2, hcz38_3, hfz38_0, hfz38_1, hfz38_2, hfz38_3⟩ := bq4 BK466) | (go_at_call 27; (with_reducible refine (impl_KindOf.calls k a0_0 a0_1 a0_2 a0_3 t467 _ A2.out).mono ?_); rintro e w39 ⟨rfl, hb⟩; replace BK466 := bkz BK466 hb; replace HB := Az.mk (bwT bw_23 hb); (try clear hb)))
  repeat (go_quiet (fail); try go_wp2_with (first | ((with_reducible refine gtD (N := 1) rfl ?_); refine bx (N := 1) (cs := #[.int .i64 a0_0, .int .i64 a0_1, .int .i64 a0_2, .int .i64 a0_3]) (t := 25) ?_; intro gb466 hg w37 hbox hb; have BK466 := Az.mk (hbox); have GW466 := gwz hg bw_23; have GE466 := gwz hg bw_23; replace HB := Az.mk (bwT bw_23 hb); clear hb hbox hg; obtain ⟨hcz38_0, hcz38_1, hcz38_2, hcz38_3, hfz38_0, hfz38_1, hfz38_2, hfz38_3⟩ := bq4 BK466) | (go_at_call 27; (with_reducible refine (impl_KindOf.calls k a0_0 a0_1 a0_2 a0_3 t467 _ A2.out).mono ?_); rintro e w39 ⟨rfl, hb⟩; replace BK466 := bkz BK466 hb; replace HB := Az.mk (bwT bw_23 hb); (try clear hb))))
  go_ret
  exact ⟨_, rq1, by first | exact Kd.R_nil _ _ _ _ _ | exact Kd.N_nil _ _ _ _ _ | exact Kd.V_nil _ _ _ _ _ | exact Kd.Q_nil _ _ _ _ _ | exact Kd.S_nil _ _ _ _ _, bw_23⟩
 rw [if_pos c3] at H
 have c3b0 : (t467.toList == ([116, 119, 105, 115, 116] : List UInt8)) = true := beq_iff_eq.mpr c3
 have c3b1 : (t467.toList != ([116, 119, 105, 115, 116] : List UInt8)) = false := bne_eq_false_iff_eq.mpr c3
 clear c3
 have HC4 := Az.mk H
 clear H
 go_enter Tryd.func32, Tryd.ntmps32
 go_upto_region 5 with (first | ((with_reducible refine gtD (N := 1) rfl ?_); refine bx (N := 1) (cs := #[.int .i64 a0_0, .int .i64 a0_1, .int .i64 a0_2, .int .i64 a0_3]) (t := 25) ?_; intro gb466 hg w5 hbox hb; have BK466 := Az.mk (hbox); have GW466 := gwz hg bw_23; have GE466 := gwz hg bw_23; replace HB := Az.mk (bwT bw_23 hb); clear hb hbox hg; obtain ⟨hcz6_0, hcz6_1, hcz6_2, hcz6_3, hfz6_0, hfz6_1, hfz6_2, hfz6_3⟩ := bq4 BK466) | (go_at_call 27; (with_reducible refine (impl_KindOf.calls k a0_0 a0_1 a0_2 a0_3 t467 _ A2.out).mono ?_); rintro e w7 ⟨rfl, hb⟩; replace BK466 := bkz BK466 hb; replace HB := Az.mk (bwT bw_23 hb); (try clear hb); obtain ⟨hcz8_0, hcz8_1, hcz8_2, hcz8_3, hfz8_0, hfz8_1, hfz8_2, hfz8_3⟩ := bq4 BK466))
 repeat (go_quiet (first | ((with_reducible refine gtD (N := 1) rfl ?_); refine bx (N := 1) (cs := #[.int .i64 a0_0, .int .i64 a0_1, .int .i64 a0_2, .int .i64 a0_3]) (t := 25) ?_; intro gb466 hg w5 hbox hb; have BK466 := Az.mk (hbox); have GW466 := gwz hg bw_23; have GE466 := gwz hg bw_23; replace HB := Az.mk (bwT bw_23 hb); clear hb hbox hg; obtain ⟨hcz6_0, hcz6_1, hcz6_2, hcz6_3, hfz6_0, hfz6_1, hfz6_2, hfz6_3⟩ := bq4 BK466) | (go_at_call 27; (with_reducible refine (impl_KindOf.calls k a0_0 a0_1 a0_2 a0_3 t467 _ A2.out).mono ?_); rintro e w7 ⟨rfl, hb⟩; replace BK466 := bkz BK466 hb; replace HB := Az.mk (bwT bw_23 hb); (try clear hb); obtain ⟨hcz8_0, hcz8_1, hcz8_2, hcz8_3, hfz8_0, hfz8_1, hfz8_2, hfz8_3⟩ := bq4 BK466)); go_upto_region 5 with (first | ((with_reducible refine gtD (N := 1) rfl ?_); refine bx (N := 1) (cs := #[.int .i64 a0_0, .int .i64 a0_1, .int .i64 a0_2, .int .i64 a0_3]) (t := 25) ?_; intro gb466 hg w5 hbox hb; have BK466 := Az.mk (hbox); have GW466 := gwz hg bw_23; have GE466 := gwz hg bw_23; replace HB := Az.mk (bwT bw_23 hb); clear hb hbox hg; obtain ⟨hcz6_0, hcz6_1, hcz6_2, hcz6_3, hfz6_0, hfz6_1, hfz6_2, hfz6_3⟩ := bq4 BK466) | (go_at_call 27; (with_reducible refine (impl_KindOf.calls k a0_0 a0_1 a0_2 a0_3 t467 _ A2.out).mono ?_); rintro e w7 ⟨rfl, hb⟩; replace BK466 := bkz BK466 hb; replace HB := Az.mk (bwT bw_23 hb); (try clear hb); obtain ⟨hcz8_0, hcz8_1, hcz8_2, hcz8_3, hfz8_0, hfz8_1, hfz8_2, hfz8_3⟩ := bq4 BK466)))
 (try simp only [Act.put, List.setIfInBounds_toArray, List.set_cons_zero, List.set_cons_succ])
 go_cut [28] (fun v28 wc => ∃ (kq : Nat) (x28_3 : Bool), v28 = .bool x28_3 ∧ Az (impl_FixedSlopes.j0 kq (wrap64 (Int.tdiv (wrap64 (a0_0 + a0_3)) 2)) (wrap64 (a0_0 - (wrap64 (Int.tdiv (wrap64 (a0_0 + a0_3)) 2)))) a0_2 x28_3 a0_0 a0_1 a0_2 a0_3 = some r) ∧ Az (kq ≤ k) ∧ Az (wc.heap[gb466]? = some (.cells #[.int .i64 a0_0, .int .i64 a0_1, .int .i64 a0_2, .int .i64 a0_3] 25 (0, 0))) ∧ Az (Below w.heap.size w wc))
 case first =>
  have H := HC4.out
  clear HC4
  by_cases c9 : (wrap64 (a0_0 - (wrap64 (Int.tdiv (wrap64 (a0_0 + a0_3)) 2)))) = 0
  rotate_left
  ·rw [if_neg c9] at H
   have c9b0 : ((wrap64 (a0_0 - (wrap64 (Int.tdiv (wrap64 (a0_0 + a0_3)) 2)))) == 0) = false := beq_eq_false_iff_ne.mpr c9
   have c9b1 : ((wrap64 (a0_0 - (wrap64 (Int.tdiv (wrap64 (a0_0 + a0_3)) 2)))) != 0) = true := bne_iff_ne.mpr c9
   (first | rw [c9b0] | (simp only [i64_w, i32_w]; rw [c9b0]) | skip)
   have H' := Az.mk H
   clear H
   go_wp2
   repeat (go_quiet (fail); try go_wp2)
   go_meet
   case rel => exact ⟨_, (false), rq2, H', ⟨by first | omega | exact Nat.le_refl _⟩, ⟨bk1 BK466⟩, ⟨bw_23⟩⟩
  rw [if_pos c9] at H
  have c9b0 : ((wrap64 (a0_0 - (wrap64 (Int.tdiv (wrap64 (a0_0 + a0_3)) 2)))) == 0) = true := beq_iff_eq.mpr c9
  have c9b1 : ((wrap64 (a0_0 - (wrap64 (Int.tdiv (wrap64 (a0_0 + a0_3)) 2)))) != 0) = false := bne_eq_false_iff_eq.mpr c9
  clear c9
  (first | rw [c9b0] | (simp only [i64_w, i32_w]; rw [c9b0]) | skip)
  have H' := Az.mk H
  clear H
  go_wp2
  repeat (go_quiet (fail); try go_wp2)
  go_meet
  case rel => exact ⟨_, ((a0_2 == 0)), rq2, H', ⟨by first | omega | exact Nat.le_refl _⟩, ⟨bk1 BK466⟩, ⟨bw_23⟩⟩
 clear HC4
 try clear c3
 try clear c3b0
 try clear c3b1
 try clear c9
 try clear c9b0
 try clear c9b1
 try clear hcz6_0
 try clear hcz6_1
 try clear hcz6_2
 try clear hcz6_3
 try clear hcz8_0
 try clear hcz8_1
 try clear hcz8_2
 try clear hcz8_3
 try clear hfz6_0
 try clear hfz6_1
 try clear hfz6_2
 try clear hfz6_3
 try clear hfz8_0
 try clear hfz8_1
 try clear hfz8_2
 try clear hfz8_3
 obtain ⟨kq, x28_3, rfl, HA, HJ3, BK466, HB⟩ := hcut
 cases kq with
 | zero => exact absurd HA.out (by simp [impl_FixedSlopes.j0])
 | succ kj3 =>
  have H := HA.out
  clear HA
  simp only [impl_FixedSlopes.j0] at H
  by_cases c10 : x28_3 = true
  rotate_left
  ·replace c10 := Bool.eq_false_iff.mpr c10
   subst c10
   rw [if_neg (show ¬ (false = true) by decide)] at H
   replace H := bez H
   obtain ⟨⟨t475, t476, t477⟩, A25, H⟩ := H
   try dsimp only at H
   by_cases c26 : t477 = true
   rotate_left
   ·replace c26 := Bool.eq_false_iff.mpr c26
    subst c26
    rw [if_neg (show ¬ (false = true) by decide)] at H
    obtain rfl := Option.some.inj H
    go_wp2_with (first | (go_at_call 42; (with_reducible refine (impl_SlopeOf.calls kj3 (wrap64 (a0_0 - (wrap64 (Int.tdiv (wrap64 (a0_0 + a0_3)) 2)))) a0_2 t475 t476 false _ A25.out).mono ?_); rintro e w33 ⟨rfl, hb⟩; replace BK466 := bkz BK466 hb; replace HB := Az.mk (bwT bw_23 hb); (try clear hb)) | ((with_reducible refine gtD (N := 6) rfl ?_); refine bx (N := 6) (cs := #[.int .i64 0, .int .i64 0]) (t := 35) ?_; intro gb478 hg w34 hbox hb; have BK478 := Az.mk (hbox); have GW478 := gwz hg bw_23; have GE478 := gwz hg bw_23; replace HB := Az.mk (bwT bw_23 hb); have NB466_478 := nlt BK466 hg; have NB478_466 := ngt BK466 hg; replace BK466 := bkz BK466 hb; clear hb hbox hg; have hnb35 := NB478_466.out; have hnc35 := NB466_478.out; obtain ⟨hcz36_0, hcz36_1, hfz36_0, hfz36_1⟩ := bq2 BK478))
    repeat (go_quiet (fail); try go_wp2_with (first | (go_at_call 42; (with_reducible refine (impl_SlopeOf.calls kj3 (wrap64 (a0_0 - (wrap64 (Int.tdiv (wrap64 (a0_0 + a0_3)) 2)))) a0_2 t475 t476 false _ A25.out).mono ?_); rintro e w33 ⟨rfl, hb⟩; replace BK466 := bkz BK466 hb; replace HB := Az.mk (bwT bw_23 hb); (try clear hb)) | ((with_reducible refine gtD (N := 6) rfl ?_); refine bx (N := 6) (cs := #[.int .i64 0, .int .i64 0]) (t := 35) ?_; intro gb478 hg w34 hbox hb; have BK478 := Az.mk (hbox); have GW478 := gwz hg bw_23; have GE478 := gwz hg bw_23; replace HB := Az.mk (bwT bw_23 hb); have NB466_478 := nlt BK466 hg; have NB478_466 := ngt BK466 hg; replace BK466 := bkz BK466 hb; clear hb hbox hg; have hnb35 := NB478_466.out; have hnc35 := NB466_478.out; obtain ⟨hcz36_0, hcz36_1, hfz36_0, hfz36_1⟩ := bq2 BK478)))
    go_ret
    exact ⟨_, rq1, by first | exact Kd.R_nil _ _ _ _ _ | exact Kd.N_nil _ _ _ _ _ | exact Kd.V_nil _ _ _ _ _ | exact Kd.Q_nil _ _ _ _ _ | exact Kd.S_nil _ _ _ _ _, bw_23⟩
   subst c26
   rw [if_pos rfl] at H
   obtain ⟨y479, hy479⟩ : ∃ y_ : List (S35), y_ = (([(⟨t475, t476⟩ : S35)] : List (S35))) := ⟨_, rfl⟩
   replace H : (some y479) = some r := by first | (rw [hy479]; with_reducible exact H) | (have H2_ := (Option.bind_some _ _).symm.trans H; rw [hy479]; with_reducible exact H2_) | (have H2_ := (Option.bind_some _ _).symm.trans H; with_reducible exact H2_) | with_reducible exact H | (rw [hy479]; exact H) | exact H
   have Ny479 := Az.mk hy479
   clear hy479
   obtain rfl := Option.some.inj H
   go_wp2_with (first | (go_at_call 42; (with_reducible refine (impl_SlopeOf.calls kj3 (wrap64 (a0_0 - (wrap64 (Int.tdiv (wrap64 (a0_0 + a0_3)) 2)))) a0_2 t475 t476 true _ A25.out).mono ?_); rintro e w27 ⟨rfl, hb⟩; replace BK466 := bkz BK466 hb; replace HB := Az.mk (bwT bw_23 hb); (try clear hb)) | ((with_reducible refine gtD (N := 6) rfl ?_); refine bx (N := 6) (cs := #[.int .i64 0, .int .i64 0]) (t := 35) ?_; intro gb478 hg w28 hbox hb; have BK478 := Az.mk (hbox); have GW478 := gwz hg bw_23; have GE478 := gwz hg bw_23; replace HB := Az.mk (bwT bw_23 hb); have NB466_478 := nlt BK466 hg; have NB478_466 := ngt BK466 hg; replace BK466 := bkz BK466 hb; clear hb hbox hg; have hnb29 := NB478_466.out; have hnc29 := NB466_478.out; obtain ⟨hcz30_0, hcz30_1, hfz30_0, hfz30_1⟩ := bq2 BK478) | ((with_reducible refine gtD (N := 44) rfl ?_); refine Kd.R_lit k35 _ 35 ?hg (N := 44) ?hd (xs := ([(⟨t475, t476⟩ : S35)] : List (S35))) (inner := [.int .i64 t475, .int .i64 t476]) (ok := fun _ => True) (okp := fun _ => True) ?hr ?hp (fun _ hk => hk) trivial (Below.refl _ _) (Nat.le_refl _) (by simp) ?_; (case hd => rfl); (case hg => rfl); (case hr => first | (go_simp; done) | (go_simp; rfl)); (case hp => exact (Reps.c2 (show Kd.M k35 _ _ _ (⟨t475, t476⟩ : S35) [.int .i64 t475, .int .i64 t476] from (k35_mkM _ _ _ (⟨t475, t476⟩ : S35) )) (Reps.none _ _))); intro v480 w31 ho32 hb hg_ hnew_; clear hg_ hnew_; (first | rw [← Ny479.out] at ho32 | (simp only [Int.reduceToNat] at ho32; rw [← Ny479.out] at ho32)); have HO481 := Az.mk (Kd.R_lower (Kd.R_newB ho32 (g := gb478) (o := .cells #[.int .i64 t475, .int .i64 t476] 35 (0, 0)) bkv) (bwZ bw_23)); replace BK466 := Az.mk (bkB (g := gb466) (o := .cells #[.int .i64 a0_0, .int .i64 a0_1, .int .i64 a0_2, .int .i64 a0_3] 25 (0, 0)) bkv hb); replace BK478 := Az.mk (bkB (g := gb478) (o := .cells #[.int .i64 t475, .int .i64 t476] 35 (0, 0)) bkv hb); replace HB := Az.mk (bwT bw_23 hb); clear hb ho32))
   repeat (go_quiet (fail); try go_wp2_with (first | (go_at_call 42; (with_reducible refine (impl_SlopeOf.calls kj3 (wrap64 (a0_0 - (wrap64 (Int.tdiv (wrap64 (a0_0 + a0_3)) 2)))) a0_2 t475 t476 true _ A25.out).mono ?_); rintro e w27 ⟨rfl, hb⟩; replace BK466 := bkz BK466 hb; replace HB := Az.mk (bwT bw_23 hb); (try clear hb)) | ((with_reducible refine gtD (N := 6) rfl ?_); refine bx (N := 6) (cs := #[.int .i64 0, .int .i64 0]) (t := 35) ?_; intro gb478 hg w28 hbox hb; have BK478 := Az.mk (hbox); have GW478 := gwz hg bw_23; have GE478 := gwz hg bw_23; replace HB := Az.mk (bwT bw_23 hb); have NB466_478 := nlt BK466 hg; have NB478_466 := ngt BK466 hg; replace BK466 := bkz BK466 hb; clear hb hbox hg; have hnb29 := NB478_466.out; have hnc29 := NB466_478.out; obtain ⟨hcz30_0, hcz30_1, hfz30_0, hfz30_1⟩ := bq2 BK478) | ((with_reducible refine gtD (N := 44) rfl ?_); refine Kd.R_lit k35 _ 35 ?hg (N := 44) ?hd (xs := ([(⟨t475, t476⟩ : S35)] : List (S35))) (inner := [.int .i64 t475, .int .i64 t476]) (ok := fun _ => True) (okp := fun _ => True) ?hr ?hp (fun _ hk => hk) trivial (Below.refl _ _) (Nat.le_refl _) (by simp) ?_; (case hd => rfl); (case hg => rfl); (case hr => first | (go_simp; done) | (go_simp; rfl)); (case hp => exact (Reps.c2 (show Kd.M k35 _ _ _ (⟨t475, t476⟩ : S35) [.int .i64 t475, .int .i64 t476] from (k35_mkM _ _ _ (⟨t475, t476⟩ : S35) )) (Reps.none _ _))); intro v480 w31 ho32 hb hg_ hnew_; clear hg_ hnew_; (first | rw [← Ny479.out] at ho32 | (simp only [Int.reduceToNat] at ho32; rw [← Ny479.out] at ho32)); have HO481 := Az.mk (Kd.R_lower (Kd.R_newB ho32 (g := gb478) (o := .cells #[.int .i64 t475, .int .i64 t476] 35 (0, 0)) bkv) (bwZ bw_23)); replace BK466 := Az.mk (bkB (g := gb466) (o := .cells #[.int .i64 a0_0, .int .i64 a0_1, .int .i64 a0_2, .int .i64 a0_3] 25 (0, 0)) bkv hb); replace BK478 := Az.mk (bkB (g := gb478) (o := .cells #[.int .i64 t475, .int .i64 t476] 35 (0, 0)) bkv hb); replace HB := Az.mk (bwT bw_23 hb); clear hb ho32)))
   go_ret
   exact ⟨_, rq1, by (with_reducible repeat (first | apply Kd.R_alloc | apply Kd.R_drewN | apply Kd.R_drew)); exact Kd.R_mono HO481.out (fun _ hk => trivial), bw_23⟩
  subst c10
  rw [if_pos rfl] at H
  replace H := bez H
  obtain ⟨⟨t468, t469, t470⟩, A11, H⟩ := H
  try dsimp only at H
  by_cases c12 : t470 = true
  rotate_left
  ·replace c12 := Bool.eq_false_iff.mpr c12
   subst c12
   rw [if_neg (show ¬ (false = true) by decide)] at H
   obtain rfl := Option.some.inj H
   have hcz20_0 := bkc0 BK466
   have hcz20_1 := bkc1 BK466
   have hcz20_2 := bkc2 BK466
   have hcz20_3 := bkc3 BK466
   have hfz20_0 := bkF BK466.out 0
   have hfz20_1 := bkF BK466.out 1
   have hfz20_2 := bkF BK466.out 2
   have hfz20_3 := bkF BK466.out 3
   go_wp2_with (first | (go_at_call 42; (with_reducible refine (impl_SlopeOf.calls kj3 a0_1 (wrap64 (a0_3 - (wrap64 (Int.tdiv (wrap64 (a0_0 + a0_3)) 2)))) t468 t469 false _ A11.out).mono ?_); rintro e w21 ⟨rfl, hb⟩; replace BK466 := bkz BK466 hb; replace HB := Az.mk (bwT bw_23 hb); (try clear hb)) | ((with_reducible refine gtD (N := 6) rfl ?_); refine bx (N := 6) (cs := #[.int .i64 0, .int .i64 0]) (t := 35) ?_; intro gb471 hg w22 hbox hb; have BK471 := Az.mk (hbox); have GW471 := gwz hg bw_23; have GE471 := gwz hg bw_23; replace HB := Az.mk (bwT bw_23 hb); have NB466_471 := nlt BK466 hg; have NB471_466 := ngt BK466 hg; replace BK466 := bkz BK466 hb; clear hb hbox hg; have hnb23 := NB471_466.out; have hnc23 := NB466_471.out; obtain ⟨hcz24_0, hcz24_1, hfz24_0, hfz24_1⟩ := bq2 BK471))
   repeat (go_quiet (fail); try go_wp2_with (first | (go_at_call 42; (with_reducible refine (impl_SlopeOf.calls kj3 a0_1 (wrap64 (a0_3 - (wrap64 (Int.tdiv (wrap64 (a0_0 + a0_3)) 2)))) t468 t469 false _ A11.out).mono ?_); rintro e w21 ⟨rfl, hb⟩; replace BK466 := bkz BK466 hb; replace HB := Az.mk (bwT bw_23 hb); (try clear hb)) | ((with_reducible refine gtD (N := 6) rfl ?_); refine bx (N := 6) (cs := #[.int .i64 0, .int .i64 0]) (t := 35) ?_; intro gb471 hg w22 hbox hb; have BK471 := Az.mk (hbox); have GW471 := gwz hg bw_23; have GE471 := gwz hg bw_23; replace HB := Az.mk (bwT bw_23 hb); have NB466_471 := nlt BK466 hg; have NB471_466 := ngt BK466 hg; replace BK466 := bkz BK466 hb; clear hb hbox hg; have hnb23 := NB471_466.out; have hnc23 := NB466_471.out; obtain ⟨hcz24_0, hcz24_1, hfz24_0, hfz24_1⟩ := bq2 BK471)))
   go_ret
   exact ⟨_, rq1, by first | exact Kd.R_nil _ _ _ _ _ | exact Kd.N_nil _ _ _ _ _ | exact Kd.V_nil _ _ _ _ _ | exact Kd.Q_nil _ _ _ _ _ | exact Kd.S_nil _ _ _ _ _, bw_23⟩
  subst c12
  rw [if_pos rfl] at H
  obtain ⟨y472, hy472⟩ : ∃ y_ : List (S35), y_ = (([(⟨t468, t469⟩ : S35)] : List (S35))) := ⟨_, rfl⟩
  replace H : (some y472) = some r := by first | (rw [hy472]; with_reducible exact H) | (have H2_ := (Option.bind_some _ _).symm.trans H; rw [hy472]; with_reducible exact H2_) | (have H2_ := (Option.bind_some _ _).symm.trans H; with_reducible exact H2_) | with_reducible exact H | (rw [hy472]; exact H) | exact H
  have Ny472 := Az.mk hy472
  clear hy472
  obtain rfl := Option.some.inj H
  have hcz13_0 := bkc0 BK466
  have hcz13_1 := bkc1 BK466
  have hcz13_2 := bkc2 BK466
  have hcz13_3 := bkc3 BK466
  have hfz13_0 := bkF BK466.out 0
  have hfz13_1 := bkF BK466.out 1
  have hfz13_2 := bkF BK466.out 2
  have hfz13_3 := bkF BK466.out 3
  go_wp2_with (first | (go_at_call 42; (with_reducible refine (impl_SlopeOf.calls kj3 a0_1 (wrap64 (a0_3 - (wrap64 (Int.tdiv (wrap64 (a0_0 + a0_3)) 2)))) t468 t469 true _ A11.out).mono ?_); rintro e w14 ⟨rfl, hb⟩; replace BK466 := bkz BK466 hb; replace HB := Az.mk (bwT bw_23 hb); (try clear hb)) | ((with_reducible refine gtD (N := 6) rfl ?_); refine bx (N := 6) (cs := #[.int .i64 0, .int .i64 0]) (t := 35) ?_; intro gb471 hg w15 hbox hb; have BK471 := Az.mk (hbox); have GW471 := gwz hg bw_23; have GE471 := gwz hg bw_23; replace HB := Az.mk (bwT bw_23 hb); have NB466_471 := nlt BK466 hg; have NB471_466 := ngt BK466 hg; replace BK466 := bkz BK466 hb; clear hb hbox hg; have hnb16 := NB471_466.out; have hnc16 := NB466_471.out; obtain ⟨hcz17_0, hcz17_1, hfz17_0, hfz17_1⟩ := bq2 BK471) | ((with_reducible refine gtD (N := 44) rfl ?_); refine Kd.R_lit k35 _ 35 ?hg (N := 44) ?hd (xs := ([(⟨t468, t469⟩ : S35)] : List (S35))) (inner := [.int .i64 t468, .int .i64 t469]) (ok := fun _ => True) (okp := fun _ => True) ?hr ?hp (fun _ hk => hk) trivial (Below.refl _ _) (Nat.le_refl _) (by simp) ?_; (case hd => rfl); (case hg => rfl); (case hr => first | (go_simp; done) | (go_simp; rfl)); (case hp => exact (Reps.c2 (show Kd.M k35 _ _ _ (⟨t468, t469⟩ : S35) [.int .i64 t468, .int .i64 t469] from (k35_mkM _ _ _ (⟨t468, t469⟩ : S35) )) (Reps.none _ _))); intro v473 w18 ho19 hb hg_ hnew_; clear hg_ hnew_; (first | rw [← Ny472.out] at ho19 | (simp only [Int.reduceToNat] at ho19; rw [← Ny472.out] at ho19)); have HO474 := Az.mk (Kd.R_lower (Kd.R_newB ho19 (g := gb471) (o := .cells #[.int .i64 t468, .int .i64 t469] 35 (0, 0)) bkv) (bwZ bw_23)); replace BK466 := Az.mk (bkB (g := gb466) (o := .cells #[.int .i64 a0_0, .int .i64 a0_1, .int .i64 a0_2, .int .i64 a0_3] 25 (0, 0)) bkv hb); replace BK471 := Az.mk (bkB (g := gb471) (o := .cells #[.int .i64 t468, .int .i64 t469] 35 (0, 0)) bkv hb); replace HB := Az.mk (bwT bw_23 hb); clear hb ho19))
  repeat (go_quiet (fail); try go_wp2_with (first | (go_at_call 42; (with_reducible refine (impl_SlopeOf.calls kj3 a0_1 (wrap64 (a0_3 - (wrap64 (Int.tdiv (wrap64 (a0_0 + a0_3)) 2)))) t468 t469 true _ A11.out).mono ?_); rintro e w14 ⟨rfl, hb⟩; replace BK466 := bkz BK466 hb; replace HB := Az.mk (bwT bw_23 hb); (try clear hb)) | ((with_reducible refine gtD (N := 6) rfl ?_); refine bx (N := 6) (cs := #[.int .i64 0, .int .i64 0]) (t := 35) ?_; intro gb471 hg w15 hbox hb; have BK471 := Az.mk (hbox); have GW471 := gwz hg bw_23; have GE471 := gwz hg bw_23; replace HB := Az.mk (bwT bw_23 hb); have NB466_471 := nlt BK466 hg; have NB471_466 := ngt BK466 hg; replace BK466 := bkz BK466 hb; clear hb hbox hg; have hnb16 := NB471_466.out; have hnc16 := NB466_471.out; obtain ⟨hcz17_0, hcz17_1, hfz17_0, hfz17_1⟩ := bq2 BK471) | ((with_reducible refine gtD (N := 44) rfl ?_); refine Kd.R_lit k35 _ 35 ?hg (N := 44) ?hd (xs := ([(⟨t468, t469⟩ : S35)] : List (S35))) (inner := [.int .i64 t468, .int .i64 t469]) (ok := fun _ => True) (okp := fun _ => True) ?hr ?hp (fun _ hk => hk) trivial (Below.refl _ _) (Nat.le_refl _) (by simp) ?_; (case hd => rfl); (case hg => rfl); (case hr => first | (go_simp; done) | (go_simp; rfl)); (case hp => exact (Reps.c2 (show Kd.M k35 _ _ _ (⟨t468, t469⟩ : S35) [.int .i64 t468, .int .i64 t469] from (k35_mkM _ _ _ (⟨t468, t469⟩ : S35) )) (Reps.none _ _))); intro v473 w18 ho19 hb hg_ hnew_; clear hg_ hnew_; (first | rw [← Ny472.out] at ho19 | (simp only [Int.reduceToNat] at ho19; rw [← Ny472.out] at ho19)); have HO474 := Az.mk (Kd.R_lower (Kd.R_newB ho19 (g := gb471) (o := .cells #[.int .i64 t468, .int .i64 t469] 35 (0, 0)) bkv) (bwZ bw_23)); replace BK466 := Az.mk (bkB (g := gb466) (o := .cells #[.int .i64 a0_0, .int .i64 a0_1, .int .i64 a0_2, .int .i64 a0_3] 25 (0, 0)) bkv hb); replace BK471 := Az.mk (bkB (g := gb471) (o := .cells #[.int .i64 t468, .int .i64 t469] 35 (0, 0)) bkv hb); replace HB := Az.mk (bwT bw_23 hb); clear hb ho19)))
  go_ret
  exact ⟨_, rq1, by (with_reducible repeat (first | apply Kd.R_alloc | apply Kd.R_drewN | apply Kd.R_drew)); exact Kd.R_mono HO474.out (fun _ hk => trivial), bw_23⟩

/-! ### spec_FixedSlopes: function 33 -/
def spec_FixedSlopes.f (k : Nat) (a0_0 : Int) (a0_1 : Int) (a0_2 : Int) (a0_3 : Int) : Option ((List (S35))) := (some (([] : List (S35)) : List (S35))).bind fun y483 => ((spec_KindOf.f k a0_0 a0_1 a0_2 a0_3).bind fun t486 => (if t486.toList = ([116, 119, 105, 115, 116] : List UInt8) then ((spec_SlopeOf.f k (wrap64 (a0_0 - (wrap64 (Int.tdiv (wrap64 (a0_0 + a0_3)) 2)))) a0_2).bind fun bt487 => (if bt487.2.2 = true then (if y483.length < 8796093022208 then (some (y483 ++ [(⟨bt487.1, bt487.2.1⟩ : S35)])) else (none)) else ((spec_SlopeOf.f k a0_1 (wrap64 (a0_3 - (wrap64 (Int.tdiv (wrap64 (a0_0 + a0_3)) 2))))).bind fun bt494 => (if bt494.2.2 = true then (if y483.length < 8796093022208 then (some (y483 ++ [(⟨bt494.1, bt494.2.1⟩ : S35)])) else (none)) else (some y483))))) else (some y483)))
theorem spec_FixedSlopes.mono : ∀ a0 a1 a2 a3 k, LeO (spec_FixedSlopes.f k a0 a1 a2 a3) (spec_FixedSlopes.f (k + 1) a0 a1 a2 a3) := by
 intro a0 a1 a2 a3 k
 unfold spec_FixedSlopes.f
 exact mo_
instance spec_FixedSlopes.mi {a0 a1 a2 a3 k} : MoO (spec_FixedSlopes.f k a0 a1 a2 a3) (spec_FixedSlopes.f (k + 1) a0 a1 a2 a3) := ⟨spec_FixedSlopes.mono _ _ _ _ _⟩
set_option maxHeartbeats 8000000 in
set_option maxRecDepth 100000 in
theorem spec_FixedSlopes.calls (k : Nat) (a0_0 : Int) (a0_1 : Int) (a0_2 : Int) (a0_3 : Int) (r : List (S35)) (w : World) (h : spec_FixedSlopes.f k a0_0 a0_1 a0_2 a0_3 = some r) :
  Calls Tryd.prog 33 #[.agg #[.int .i64 a0_0, .int .i64 a0_1, .int .i64 a0_2, .int .i64 a0_3]] w fun e w' => ∃ v0_ : Value, e = .returned (v0_) ∧ Kd.R k35 35 w' w.heap.size (fun _ => True) v0_ r ∧ Below w.heap.size w w' := by
 have hu25 := Tryd.underlying25
 have hu35 := Tryd.underlying35
 have HB := Az.mk (Below.refl w.heap.size w)
 have H : ((some (([] : List (S35)) : List (S35))).bind fun y483 => ((spec_KindOf.f k a0_0 a0_1 a0_2 a0_3).bind fun t486 => (if t486.toList = ([116, 119, 105, 115, 116] : List UInt8) then ((spec_SlopeOf.f k (wrap64 (a0_0 - (wrap64 (Int.tdiv (wrap64 (a0_0 + a0_3)) 2)))) a0_2).bind fun bt487 => (if bt487.2.2 = true then (if y483.length < 8796093022208 then (some (y483 ++ [(⟨bt487.1, bt487.2.1⟩ : S35)])) else (none)) else ((spec_SlopeOf.f k a0_1 (wrap64 (a0_3 - (wrap64 (Int.tdiv (wrap64 (a0_0 + a0_3)) 2))))).bind fun bt494 => (if bt494.2.2 = true then (if y483.length < 8796093022208 then (some (y483 ++ [(⟨bt494.1, bt494.2.1⟩ : S35)])) else (none)) else (some y483))))) else (some y483)))) = some r := h
 clear h
 obtain ⟨y483, hy483⟩ : ∃ y_ : List (S35), y_ = (([] : List (S35))) := ⟨_, rfl⟩
 replace H : ((spec_KindOf.f k a0_0 a0_1 a0_2 a0_3).bind fun t486 => (if t486.toList = ([116, 119, 105, 115, 116] : List UInt8) then ((spec_SlopeOf.f k (wrap64 (a0_0 - (wrap64 (Int.tdiv (wrap64 (a0_0 + a0_3)) 2)))) a0_2).bind fun bt487 => (if bt487.2.2 = true then (if y483.length < 8796093022208 then (some (y483 ++ [(⟨bt487.1, bt487.2.1⟩ : S35)])) else (none)) else ((spec_SlopeOf.f k a0_1 (wrap64 (a0_3 - (wrap64 (Int.tdiv (wrap64 (a0_0 + a0_3)) 2))))).bind fun bt494 => (if bt494.2.2 = true then (if y483.length < 8796093022208 then (some (y483 ++ [(⟨bt494.1, bt494.2.1⟩ : S35)])) else (none)) else (some y483))))) else (some y483))) = some r := by first | (rw [hy483]; with_reducible exact H) | (have H2_ := (Option.bind_some _ _).symm.trans H; rw [hy483]; with_reducible exact H2_) | (have H2_ := (Option.bind_some _ _).symm.trans H; with_reducible exact H2_) | with_reducible exact H | (rw [hy483]; exact H) | exact H
 have Ny483 := Az.mk hy483
 clear hy483
 replace H := bez H
 obtain ⟨t486, A2, H⟩ := H
 try dsimp only at H
 by_cases c3 : t486.toList = ([116, 119, 105, 115, 116] : List UInt8)
 rotate_left
 ·rw [if_neg c3] at H
  have c3b0 : (t486.toList == ([116, 119, 105, 115, 116] : List UInt8)) = false := beq_eq_false_iff_ne.mpr c3
  have c3b1 : (t486.toList != ([116, 119, 105, 115, 116] : List UInt8)) = true := bne_iff_ne.mpr c3
  obtain rfl := Option.some.inj H
  go_enter Tryd.func33, Tryd.ntmps33
  go_wp2_with (first | ((with_reducible refine gtD (N := 1) rfl ?_); refine bx (N := 1) (cs := #[.int .i64 a0_0, .int .i64 a0_1, .int .i64 a0_2, .int .i64 a0_3]) (t := 25) ?_; intro gb482 hg w48 hbox hb; have BK482 := Az.mk (hbox); have GW482 := gwz hg bw_23; have GE482 := gwz hg bw_23; replace HB := Az.mk (bwT bw_23 hb); clear hb hbox hg) | ((with_reducible refine gtD (N := 7) rfl ?_); refine Kd.R_lit k35 _ 35 ?hg (N := 7) ?hd (xs := ([] : List (S35))) (inner := []) (ok := fun _ => True) (okp := fun _ => True) ?hr ?hp (fun _ hk => hk) trivial (Below.refl _ _) (Nat.le_refl _) (by simp) ?_; (case hd => rfl); (case hg => rfl); (case hr => first | (go_simp; done) | (go_simp; rfl)); (case hp => exact (Reps.none _ _)); intro v484 w49 ho50 hb hg_ hnew_; clear hg_ hnew_; (first | rw [← Ny483.out] at ho50 | (simp only [Int.reduceToNat] at ho50; rw [← Ny483.out] at ho50)); have HO485 := Az.mk (Kd.R_lower ho50 (bwZ bw_23)); replace BK482 := bkz BK482 hb; replace HB := Az.mk (bwT bw_23 hb); clear hb ho50; obtain ⟨hcz51_0, hcz51_1, hcz51_2, hcz51_3, hfz51_0, hfz51_1, hfz51_2, hfz51_3⟩ := bq4 BK482) | ((with_reducible refine gtC (f := 28) rfl ?_); refine clz Tryd.func28 (some 9) #[.agg #[.int .i64 a0_0, .int .i64 a0_1, .int .i64 a0_2, .int .i64 a0_3]] ?_; (with_reducible refine (spec_KindOf.calls k a0_0 a0_1 a0_2 a0_3 t486 _ A2.out).mono ?_); rintro e w52 ⟨rfl, hb⟩; refine ⟨_, rfl, ?_⟩; replace HO485 := Az.mk (Kd.R_below z23_0 hb); replace BK482 := bkz BK482 hb; replace HB := Az.mk (bwT bw_23 hb); (try clear hb)))
  go_ret
  exact ⟨_, rq1, by (with_reducible repeat (first | apply Kd.R_alloc | apply Kd.R_drewN | apply Kd.R_drew)); exact HO485.out, bw_23⟩
 rw [if_pos c3] at H
 have c3b0 : (t486.toList == ([116, 119, 105, 115, 116] : List UInt8)) = true := beq_iff_eq.mpr c3
 have c3b1 : (t486.toList != ([116, 119, 105, 115, 116] : List UInt8)) = false := bne_eq_false_iff_eq.mpr c3
 clear c3
 replace H := bez H
 obtain ⟨⟨t487, t488, t489⟩, A4, H⟩ := H
 try dsimp only at H
 by_cases c5 : t489 = true
 ·subst c5
  rw [if_pos rfl] at H
  by_cases c6 : y483.length < 8796093022208
  rotate_left
  ·rw [if_neg c6] at H
   exact absurd H (by simp)
  rw [if_pos c6] at H
  have LMc6 := Az.mk c6
  clear c6
  obtain ⟨y491, hy491⟩ : ∃ y_ : List (S35), y_ = (y483 ++ [(⟨t487, t488⟩ : S35)]) := ⟨_, rfl⟩
  replace H : (some y491) = some r := by first | (rw [hy491]; with_reducible exact H) | (have H2_ := (Option.bind_some _ _).symm.trans H; rw [hy491]; with_reducible exact H2_) | (have H2_ := (Option.bind_some _ _).symm.trans H; with_reducible exact H2_) | with_reducible exact H | (rw [hy491]; exact H) | exact H
  have Ny491 := Az.mk hy491
  clear hy491
  obtain rfl := Option.some.inj H
  go_enter Tryd.func33, Tryd.ntmps33
  go_wp2_with (first | ((with_reducible refine gtD (N := 1) rfl ?_); refine bx (N := 1) (cs := #[.int .i64 a0_0, .int .i64 a0_1, .int .i64 a0_2, .int .i64 a0_3]) (t := 25) ?_; intro gb482 hg w7 hbox hb; have BK482 := Az.mk (hbox); have GW482 := gwz hg bw_23; have GE482 := gwz hg bw_23; replace HB := Az.mk (bwT bw_23 hb); clear hb hbox hg) | ((with_reducible refine gtD (N := 7) rfl ?_); refine Kd.R_lit k35 _ 35 ?hg (N := 7) ?hd (xs := ([] : List (S35))) (inner := []) (ok := fun _ => True) (okp := fun _ => True) ?hr ?hp (fun _ hk => hk) trivial (Below.refl _ _) (Nat.le_refl _) (by simp) ?_; (case hd => rfl); (case hg => rfl); (case hr => first | (go_simp; done) | (go_simp; rfl)); (case hp => exact (Reps.none _ _)); intro v484 w8 ho9 hb hg_ hnew_; clear hg_ hnew_; (first | rw [← Ny483.out] at ho9 | (simp only [Int.reduceToNat] at ho9; rw [← Ny483.out] at ho9)); have HO485 := Az.mk (Kd.R_lower ho9 (bwZ bw_23)); replace BK482 := bkz BK482 hb; replace HB := Az.mk (bwT bw_23 hb); clear hb ho9; obtain ⟨hcz10_0, hcz10_1, hcz10_2, hcz10_3, hfz10_0, hfz10_1, hfz10_2, hfz10_3⟩ := bq4 BK482) | ((with_reducible refine gtC (f := 28) rfl ?_); refine clz Tryd.func28 (some 9) #[.agg #[.int .i64 a0_0, .int .i64 a0_1, .int .i64 a0_2, .int .i64 a0_3]] ?_; (with_reducible refine (spec_KindOf.calls k a0_0 a0_1 a0_2 a0_3 t486 _ A2.out).mono ?_); rintro e w11 ⟨rfl, hb⟩; refine ⟨_, rfl, ?_⟩; replace HO485 := Az.mk (Kd.R_below z23_0 hb); replace BK482 := bkz BK482 hb; replace HB := Az.mk (bwT bw_23 hb); (try clear hb); obtain ⟨hcz12_0, hcz12_1, hcz12_2, hcz12_3, hfz12_0, hfz12_1, hfz12_2, hfz12_3⟩ := bq4 BK482) | ((with_reducible refine gtC (f := 44) rfl ?_); refine clz Tryd.func44 (some 25) #[.int .i64 (wrap64 (a0_0 - (wrap64 (Int.tdiv (wrap64 (a0_0 + a0_3)) 2)))), .int .i64 a0_2] ?_; (with_reducible refine (spec_SlopeOf.calls k (wrap64 (a0_0 - (wrap64 (Int.tdiv (wrap64 (a0_0 + a0_3)) 2)))) a0_2 t487 t488 true _ A4.out).mono ?_); rintro e w13 ⟨rfl, hb⟩; refine ⟨_, rfl, ?_⟩; replace HO485 := Az.mk (Kd.R_below z23_0 hb); replace BK482 := bkz BK482 hb; replace HB := Az.mk (bwT bw_23 hb); (try clear hb)) | ((with_reducible refine gtD (N := 5) rfl ?_); refine bx (N := 5) (cs := #[.int .i64 0, .int .i64 0]) (t := 35) ?_; intro gb490 hg w14 hbox hb; replace HO485 := Az.mk (Kd.R_below (Kd.R_elderB z23_0 gb490 (Nat.le_of_eq hg.symm)) hb); have BK490 := Az.mk (hbox); have GW490 := gwz hg bw_23; have GE490 := gwz hg bw_23; replace HB := Az.mk (bwT bw_23 hb); have NB482_490 := nlt BK482 hg; have NB490_482 := ngt BK482 hg; replace BK482 := bkz BK482 hb; clear hb hbox hg; have hnb15 := NB490_482.out; have hnc15 := NB482_490.out; obtain ⟨hcz16_0, hcz16_1, hfz16_0, hfz16_1⟩ := bq2 BK490) | ((with_reducible refine gate_builtin (b := .append) (xs := #[.tmp 41, .tmp 43]) rfl ?_); at_builtin; refine Kd.R_append k35 (w0 := w) w.heap.size rfl (.tmp 41) (.tmp 43) 48 35 (.agg #[(.int .i64 0), (.int .i64 0)]) 16 rfl Tryd.underlying48 info35 rfl (by decide) (by omega) v484 y483 (⟨t487, t488⟩ : S35) [.int .i64 t487, .int .i64 t488] (fun k_ => k_ ≠ gb490) (fun _ => False) rfl (by first | (go_simp; done) | (go_simp; rfl)) ?aP (fun _ hk => hk.elim) ?aF ?aO ?aB ?aS ?aL ?_; (case aP => exact k35_mkM _ _ _ (⟨t487, t488⟩ : S35)); (case aB => exact bw_23); (case aF => exact (fun k_ hk => Kd.freshB (g := gb490) (o := .cells #[.int .i64 t487, .int .i64 t488] 35 (0, 0)) bkv k_ hk)); (case aO => exact (by (with_reducible repeat (first | apply Kd.R_alloc | apply Kd.R_drewN | apply Kd.R_drew)); exact Kd.R_mono (Kd.R_far (p := ⟨gb490, 1, none⟩) (Kd.R_far (p := ⟨gb490, 0, none⟩) (Kd.R_mono HO485.out (fun k_ hk => (⟨hk, hk.2⟩ : _ ∧ k_ ≠ gb490))) (fun _ hk => hk.2) (.int .i64 t487)) (fun _ hk => hk.2) (.int .i64 t488)) (fun _ hk => hk.1.2))); (case aS => exact (bwZ bw_23)); (case aL => have := LMc6.out; omega); intro v492 w17 ho hb hg hat; rw [← Ny491.out] at ho; have n0_ := Az.mk (blk_grown (g := gb482) (o := .cells #[.int .i64 a0_0, .int .i64 a0_1, .int .i64 a0_2, .int .i64 a0_3] 25 (0, 0)) bkv hg (Kd.R_ne HO485.out BK482.out (by decide))); have n1_ := Az.mk (blk_grown (g := gb490) (o := .cells #[.int .i64 t487, .int .i64 t488] 35 (0, 0)) bkv hg (Kd.R_away HO485.out (fun _ hk => hk.2))); have n2_ := Az.mk (hb); have n3_ := Az.mk (ho); clear BK482; clear BK490; clear HB; clear HO485; have BK482 := n0_; have BK490 := n1_; have HB := n2_; have HO493 := n3_; clear n0_ n1_ n2_ n3_; clear ho hb hg hat))
  go_ret
  exact ⟨_, rq1, by (with_reducible repeat (first | apply Kd.R_alloc | apply Kd.R_drewN | apply Kd.R_drew)); exact Kd.R_mono HO493.out (fun _ hk => trivial), bw_23⟩
 replace c5 := Bool.eq_false_iff.mpr c5
 subst c5
 rw [if_neg (show ¬ (false = true) by decide)] at H
 replace H := bez H
 obtain ⟨⟨t494, t495, t496⟩, A18, H⟩ := H
 try dsimp only at H
 by_cases c19 : t496 = true
 rotate_left
 ·replace c19 := Bool.eq_false_iff.mpr c19
  subst c19
  rw [if_neg (show ¬ (false = true) by decide)] at H
  obtain rfl := Option.some.inj H
  go_enter Tryd.func33, Tryd.ntmps33
  go_wp2_with (first | ((with_reducible refine gtD (N := 1) rfl ?_); refine bx (N := 1) (cs := #[.int .i64 a0_0, .int .i64 a0_1, .int .i64 a0_2, .int .i64 a0_3]) (t := 25) ?_; intro gb482 hg w35 hbox hb; have BK482 := Az.mk (hbox); have GW482 := gwz hg bw_23; have GE482 := gwz hg bw_23; replace HB := Az.mk (bwT bw_23 hb); clear hb hbox hg) | ((with_reducible refine gtD (N := 7) rfl ?_); refine Kd.R_lit k35 _ 35 ?hg (N := 7) ?hd (xs := ([] : List (S35))) (inner := []) (ok := fun _ => True) (okp := fun _ => True) ?hr ?hp (fun _ hk => hk) trivial (Below.refl _ _) (Nat.le_refl _) (by simp) ?_; (case hd => rfl); (case hg => rfl); (case hr => first | (go_simp; done) | (go_simp; rfl)); (case hp => exact (Reps.none _ _)); intro v484 w36 ho37 hb hg_ hnew_; clear hg_ hnew_; (first | rw [← Ny483.out] at ho37 | (simp only [Int.reduceToNat] at ho37; rw [← Ny483.out] at ho37)); have HO485 := Az.mk (Kd.R_lower ho37 (bwZ bw_23)); replace BK482 := bkz BK482 hb; replace HB := Az.mk (bwT bw_23 hb); clear hb ho37; obtain ⟨hcz38_0, hcz38_1, hcz38_2, hcz38_3, hfz38_0, hfz38_1, hfz38_2, hfz38_3⟩ := bq4 BK482) | ((with_reducible refine gtC (f := 28) rfl ?_); refine clz Tryd.func28 (some 9) #[.agg #[.int .i64 a0_0, .int .i64 a0_1, .int .i64 a0_2, .int .i64 a0_3]] ?_; (with_reducible refine (spec_KindOf.calls k a0_0 a0_1 a0_2 a0_3 t486 _ A2.out).mono ?_); rintro e w39 ⟨rfl, hb⟩; refine ⟨_, rfl, ?_⟩; replace HO485 := Az.mk (Kd.R_below z23_0 hb); replace BK482 := bkz BK482 hb; replace HB := Az.mk (bwT bw_23 hb); (try clear hb); obtain ⟨hcz40_0, hcz40_1, hcz40_2, hcz40_3, hfz40_0, hfz40_1, hfz40_2, hfz40_3⟩ := bq4 BK482) | ((with_reducible refine gtC (f := 44) rfl ?_); refine clz Tryd.func44 (some 25) #[.int .i64 (wrap64 (a0_0 - (wrap64 (Int.tdiv (wrap64 (a0_0 + a0_3)) 2)))), .int .i64 a0_2] ?_; (with_reducible refine (spec_SlopeOf.calls k (wrap64 (a0_0 - (wrap64 (Int.tdiv (wrap64 (a0_0 + a0_3)) 2)))) a0_2 t487 t488 false _ A4.out).mono ?_); rintro e w41 ⟨rfl, hb⟩; refine ⟨_, rfl, ?_⟩; replace HO485 := Az.mk (Kd.R_below z23_0 hb); replace BK482 := bkz BK482 hb; replace HB := Az.mk (bwT bw_23 hb); (try clear hb)) | ((with_reducible refine gtD (N := 5) rfl ?_); refine bx (N := 5) (cs := #[.int .i64 0, .int .i64 0]) (t := 35) ?_; intro gb490 hg w42 hbox hb; replace HO485 := Az.mk (Kd.R_below (Kd.R_elderB z23_0 gb490 (Nat.le_of_eq hg.symm)) hb); have BK490 := Az.mk (hbox); have GW490 := gwz hg bw_23; have GE490 := gwz hg bw_23; replace HB := Az.mk (bwT bw_23 hb); have NB482_490 := nlt BK482 hg; have NB490_482 := ngt BK482 hg; replace BK482 := bkz BK482 hb; clear hb hbox hg; have hnb43 := NB490_482.out; have hnc43 := NB482_490.out; obtain ⟨hcz44_0, hcz44_1, hfz44_0, hfz44_1⟩ := bq2 BK490; obtain ⟨hcz45_0, hcz45_1, hcz45_2, hcz45_3, hfz45_0, hfz45_1, hfz45_2, hfz45_3⟩ := bq4 BK482) | ((with_reducible refine gtC (f := 44) rfl ?_); refine clz Tryd.func44 (some 37) #[.int .i64 a0_1, .int .i64 (wrap64 (a0_3 - (wrap64 (Int.tdiv (wrap64 (a0_0 + a0_3)) 2))))] ?_; (with_reducible refine (spec_SlopeOf.calls k a0_1 (wrap64 (a0_3 - (wrap64 (Int.tdiv (wrap64 (a0_0 + a0_3)) 2)))) t494 t495 false _ A18.out).mono ?_); rintro e w46 ⟨rfl, hb⟩; refine ⟨_, rfl, ?_⟩; replace HO485 := Az.mk (Kd.R_below (by (with_reducible repeat (first | apply Kd.R_alloc | apply Kd.R_drewN | apply Kd.R_drew)); exact (Kd.R_mono (Kd.R_far (p := ⟨gb490, 1, none⟩) (Kd.R_far (p := ⟨gb490, 0, none⟩) (Kd.R_mono HO485.out (fun k_ hk => (⟨hk, hk.2⟩ : _ ∧ k_ ≠ gb490))) (fun _ hk => hk.2) (.int .i64 t487)) (fun _ hk => hk.2) (.int .i64 t488)) (fun _ h_ => h_.1))) hb); replace BK482 := Az.mk (bkB (g := gb482) (o := .cells #[.int .i64 a0_0, .int .i64 a0_1, .int .i64 a0_2, .int .i64 a0_3] 25 (0, 0)) bkv hb); replace BK490 := Az.mk (bkB (g := gb490) (o := .cells #[.int .i64 t487, .int .i64 t488] 35 (0, 0)) bkv hb); replace HB := Az.mk (bwT bw_23 hb); (try clear hb); (try clear hk); obtain ⟨hcz47_0, hcz47_1, hfz47_0, hfz47_1⟩ := bq2 BK490))
  go_ret
  exact ⟨_, rq1, by (with_reducible repeat (first | apply Kd.R_alloc | apply Kd.R_drewN | apply Kd.R_drew)); exact Kd.R_mono (Kd.R_far (p := ⟨gb490, 1, none⟩) (Kd.R_far (p := ⟨gb490, 0, none⟩) (Kd.R_mono HO485.out (fun k_ hk => (⟨hk, hk.2⟩ : _ ∧ k_ ≠ gb490))) (fun _ hk => hk.2) (.int .i64 t494)) (fun _ hk => hk.2) (.int .i64 t495)) (fun _ hk => trivial), bw_23⟩
 subst c19
 rw [if_pos rfl] at H
 by_cases c20 : y483.length < 8796093022208
 rotate_left
 ·rw [if_neg c20] at H
  exact absurd H (by simp)
 rw [if_pos c20] at H
 have LMc20 := Az.mk c20
 clear c20
 obtain ⟨y497, hy497⟩ : ∃ y_ : List (S35), y_ = (y483 ++ [(⟨t494, t495⟩ : S35)]) := ⟨_, rfl⟩
 replace H : (some y497) = some r := by first | (rw [hy497]; with_reducible exact H) | (have H2_ := (Option.bind_some _ _).symm.trans H; rw [hy497]; with_reducible exact H2_) | (have H2_ := (Option.bind_some _ _).symm.trans H; with_reducible exact H2_) | with_reducible exact H | (rw [hy497]; exact H) | exact H
 have Ny497 := Az.mk hy497
 clear hy497
 obtain rfl := Option.some.inj H
 go_enter Tryd.func33, Tryd.ntmps33
 go_wp2_with (first | ((with_reducible refine gtD (N := 1) rfl ?_); refine bx (N := 1) (cs := #[.int .i64 a0_0, .int .i64 a0_1, .int .i64 a0_2, .int .i64 a0_3]) (t := 25) ?_; intro gb482 hg w21 hbox hb; have BK482 := Az.mk (hbox); have GW482 := gwz hg bw_23; have GE482 := gwz hg bw_23; replace HB := Az.mk (bwT bw_23 hb); clear hb hbox hg) | ((with_reducible refine gtD (N := 7) rfl ?_); refine Kd.R_lit k35 _ 35 ?hg (N := 7) ?hd (xs := ([] : List (S35))) (inner := []) (ok := fun _ => True) (okp := fun _ => True) ?hr ?hp (fun _ hk => hk) trivial (Below.refl _ _) (Nat.le_refl _) (by simp) ?_; (case hd => rfl); (case hg => rfl); (case hr => first | (go_simp; done) | (go_simp; rfl)); (case hp => exact (Reps.none _ _)); intro v484 w22 ho23 hb hg_ hnew_; clear hg_ hnew_; (first | rw [← Ny483.out] at ho23 | (simp only [Int.reduceToNat] at ho23; rw [← Ny483.out] at ho23)); have HO485 := Az.mk (Kd.R_lower ho23 (bwZ bw_23)); replace BK482 := bkz BK482 hb; replace HB := Az.mk (bwT bw_23 hb); clear hb ho23; obtain ⟨hcz24_0, hcz24_1, hcz24_2, hcz24_3, hfz24_0, hfz24_1, hfz24_2, hfz24_3⟩ := bq4 BK482) | ((with_reducible refine gtC (f := 28) rfl ?_); refine clz Tryd.func28 (some 9) #[.agg #[.int .i64 a0_0, .int .i64 a0_1, .int .i64 a0_2, .int .i64 a0_3]] ?_; (with_reducible refine (spec_KindOf.calls k a0_0 a0_1 a0_2 a0_3 t486 _ A2.out).mono ?_); rintro e w25 ⟨rfl, hb⟩; refine ⟨_, rfl, ?_⟩; replace HO485 := Az.mk (Kd.R_below z23_0 hb); replace BK482 := bkz BK482 hb; replace HB := Az.mk (bwT bw_23 hb); (try clear hb); obtain ⟨hcz26_0, hcz26_1, hcz26_2, hcz26_3, hfz26_0, hfz26_1, hfz26_2, hfz26_3⟩ := bq4 BK482) | ((with_reducible refine gtC (f := 44) rfl ?_); refine clz Tryd.func44 (some 25) #[.int .i64 (wrap64 (a0_0 - (wrap64 (Int.tdiv (wrap64 (a0_0 + a0_3)) 2)))), .int .i64 a0_2] ?_; (with_reducible refine (spec_SlopeOf.calls k (wrap64 (a0_0 - (wrap64 (Int.tdiv (wrap64 (a0_0 + a0_3)) 2)))) a0_2 t487 t488 false _ A4.out).mono ?_); rintro e w27 ⟨rfl, hb⟩; refine ⟨_, rfl, ?_⟩; replace HO485 := Az.mk (Kd.R_below z23_0 hb); replace BK482 := bkz BK482 hb; replace HB := Az.mk (bwT bw_23 hb); (try clear hb)) | ((with_reducible refine gtD (N := 5) rfl ?_); refine bx (N := 5) (cs := #[.int .i64 0, .int .i64 0]) (t := 35) ?_; intro gb490 hg w28 hbox hb; replace HO485 := Az.mk (Kd.R_below (Kd.R_elderB z23_0 gb490 (Nat.le_of_eq hg.symm)) hb); have BK490 := Az.mk (hbox); have GW490 := gwz hg bw_23; have GE490 := gwz hg bw_23; replace HB := Az.mk (bwT bw_23 hb); have NB482_490 := nlt BK482 hg; have NB490_482 := ngt BK482 hg; replace BK482 := bkz BK482 hb; clear hb hbox hg; have hnb29 := NB490_482.out; have hnc29 := NB482_490.out; obtain ⟨hcz30_0, hcz30_1, hfz30_0, hfz30_1⟩ := bq2 BK490; obtain ⟨hcz31_0, hcz31_1, hcz31_2, hcz31_3, hfz31_0, hfz31_1, hfz31_2, hfz31_3⟩ := bq4 BK482) | ((with_reducible refine gtC (f := 44) rfl ?_); refine clz Tryd.func44 (some 37) #[.int .i64 a0_1, .int .i64 (wrap64 (a0_3 - (wrap64 (Int.tdiv (wrap64 (a0_0 + a0_3)) 2))))] ?_; (with_reducible refine (spec_SlopeOf.calls k a0_1 (wrap64 (a0_3 - (wrap64 (Int.tdiv (wrap64 (a0_0 + a0_3)) 2)))) t494 t495 true _ A18.out).mono ?_); rintro e w32 ⟨rfl, hb⟩; refine ⟨_, rfl, ?_⟩; replace HO485 := Az.mk (Kd.R_below (by (with_reducible repeat (first | apply Kd.R_alloc | apply Kd.R_drewN | apply Kd.R_drew)); exact (Kd.R_mono (Kd.R_far (p := ⟨gb490, 1, none⟩) (Kd.R_far (p := ⟨gb490, 0, none⟩) (Kd.R_mono HO485.out (fun k_ hk => (⟨hk, hk.2⟩ : _ ∧ k_ ≠ gb490))) (fun _ hk => hk.2) (.int .i64 t487)) (fun _ hk => hk.2) (.int .i64 t488)) (fun _ h_ => h_.1))) hb); replace BK482 := Az.mk (bkB (g := gb482) (o := .cells #[.int .i64 a0_0, .int .i64 a0_1, .int .i64 a0_2, .int .i64 a0_3] 25 (0, 0)) bkv hb); replace BK490 := Az.mk (bkB (g := gb490) (o := .cells #[.int .i64 t487, .int .i64 t488] 35 (0, 0)) bkv hb); replace HB := Az.mk (bwT bw_23 hb); (try clear hb); (try clear hk); obtain ⟨hcz33_0, hcz33_1, hfz33_0, hfz33_1⟩ := bq2 BK490) | ((with_reducible refine gate_builtin (b := .append) (xs := #[.tmp 41, .tmp 43]) rfl ?_); at_builtin; refine Kd.R_append k35 (w0 := w) w.heap.size rfl (.tmp 41) (.tmp 43) 48 35 (.agg #[(.int .i64 0), (.int .i64 0)]) 16 rfl Tryd.underlying48 info35 rfl (by decide) (by omega) v484 y483 (⟨t494, t495⟩ : S35) [.int .i64 t494, .int .i64 t495] (fun k_ => k_ ≠ gb490) (fun _ => False) rfl (by first | (go_simp; done) | (go_simp; rfl)) ?aP (fun _ hk => hk.elim) ?aF ?aO ?aB ?aS ?aL ?_; (case aP => exact k35_mkM _ _ _ (⟨t494, t495⟩ : S35)); (case aB => exact bw_23); (case aF => exact (fun k_ hk => Kd.freshB (g := gb490) (o := .cells #[.int .i64 t494, .int .i64 t495] 35 (0, 0)) bkv k_ hk)); (case aO => exact (by (with_reducible repeat (first | apply Kd.R_alloc | apply Kd.R_drewN | apply Kd.R_drew)); exact Kd.R_mono (Kd.R_far (p := ⟨gb490, 1, none⟩) (Kd.R_far (p := ⟨gb490, 0, none⟩) (Kd.R_mono HO485.out (fun k_ hk => (⟨hk, hk.2⟩ : _ ∧ k_ ≠ gb490))) (fun _ hk => hk.2) (.int .i64 t494)) (fun _ hk => hk.2) (.int .i64 t495)) (fun _ hk => hk.1.2))); (case aS => exact (bwZ bw_23)); (case aL => have := LMc20.out; omega); intro v498 w34 ho hb hg hat; rw [← Ny497.out] at ho; have n0_ := Az.mk (blk_grown (g := gb482) (o := .cells #[.int .i64 a0_0, .int .i64 a0_1, .int .i64 a0_2, .int .i64 a0_3] 25 (0, 0)) bkv hg (Kd.R_ne HO485.out BK482.out (by decide))); have n1_ := Az.mk (blk_grown (g := gb490) (o := .cells #[.int .i64 t494, .int .i64 t495] 35 (0, 0)) bkv hg (Kd.R_away HO485.out (fun _ hk => hk.2))); have n2_ := Az.mk (hb); have n3_ := Az.mk (ho); clear BK482; clear BK490; clear HB; clear HO485; have BK482 := n0_; have BK490 := n1_; have HB := n2_; have HO499 := n3_; clear n0_ n1_ n2_ n3_; clear ho hb hg hat))
 go_ret
 exact ⟨_, rq1, by (with_reducible repeat (first | apply Kd.R_alloc | apply Kd.R_drewN | apply Kd.R_drew)); exact Kd.R_mono HO499.out (fun _ hk => trivial), bw_23⟩

end Go.Proofs.YtnoiijdffdpabaaDoor.P
