-- By this session's driver (wip/tools/mk.py) of the kit's print program, over several statements at once. Not trusted: Lean checks it.
import Derived.Test.YtnoiijdffdpabaaDoorQWZip
import Derived.Test.YtnoiijdffdpabaaDoorQPx0
import Derived.Test.YtnoiijdffdpabaaDoorQPx2
namespace Go.Proofs.YtnoiijdffdpabaaDoor.P
open Go.RowKit Go.Proofs.YtnoiijdffdpabaaDoorW.PrintWords Go.Proofs.YtnoiijdffdpabaaDoorW.PrintLast Go.Proofs.YtnoiijdffdpabaaDoorW.PrintMore
attribute [local go_sem] max2_int min2_int max_two min_two max_three min_three max_four min_four   -- for this text's walks alone
set_option linter.unusedVariables false
set_option linter.unusedSimpArgs false
theorem bw_9 {n : Nat} {v v' : World} (h : Below n v v' := by repeat (first | (with_reducible first | exact HB.out | apply bwA | apply pbN | apply bwD | refine bwS ?_ GE153.out | refine bwS ?_ GE154.out | refine bwS ?_ GE155.out | refine bwS ?_ GE156.out | refine bwS ?_ GE157.out | refine bwS ?_ GE158.out | refine bwS ?_ GE159.out | refine bwS ?_ GE160.out | refine bwS ?_ GE172.out) | exact HB.out)) : Below n v v' := h
theorem ln_9 {P : Prop} (h : P := by (try simp only [List.map_toArray, List.map_cons, List.map_nil]); first | done | rfl | (simp only [List.length_drop, List.length_take]; rfl)) : P := h
open Option renaming bind_eq_some_iff → be

/-! ### laws_big: function 8 -/
def laws_big.f (l0 : List Int) : Option (Bool) := some (decide ((l0.length : Int) > 1048576))
set_option maxHeartbeats 8000000 in
set_option maxRecDepth 100000 in
theorem laws_big.calls (A0 : Option Addr) (c0 : Nat) (l0 : List Int) (r : Bool) (w : World) (hr0 : Kd.C (Kd.int .u8) w A0 l0.length l0) (hc0 : l0.length ≤ c0) (h : laws_big.f l0 = some r) :
  Calls Tryd.prog 8 #[.slice A0 l0.length c0] w fun e w' => e = .returned (.bool r) ∧ Drawn0 w w' := by
 have HR0 := Az.mk hr0
 have HC0 := Az.mk hc0
 clear hr0 hc0
 have H : (some (decide ((l0.length : Int) > 1048576))) = some r := h
 clear h
 obtain rfl := Option.some.inj H
 go_enter Tryd.func8, Tryd.ntmps8
 go_wp2
 go_ret
 exact ⟨by first | rfl | (simp; done) | (simp [*]; done), by repeat (first | exact Drawn0.refl _ | apply Drawn0.step)⟩

/-- A state of type 71 at block g of W; what its slices lead to came in by w0. -/
def IsS71 (w0 W : World) (g : Nat) (f0 : List Int) (f1 : Int) (f2 : Int) : Prop := ∃ A0 c0, W.heap[g]? = some (.cells #[.slice A0 f0.length c0, .int .i64 f1, .int .i64 f2] 71 (0, 0)) ∧ w0.heap.size ≤ g ∧ Kd.C (Kd.int .u8) w0 A0 f0.length f0
theorem IsS71.grown {w0 W : World} {g : Nat} {f0 : List Int} {f1 : Int} {f2 : Int} {W1 : World} {row : Option Nat} (h : IsS71 w0 W g f0 f1 f2) (hw : W.grownBy W1 row) (hne : some g ≠ row) : IsS71 w0 W1 g f0 f1 f2 := by
 obtain ⟨A0, c0, hb, hg, hr0⟩ := h
 exact ⟨A0, c0, blk_grown hb hw hne, hg, hr0⟩
theorem IsS71.kept {w0 W : World} {g : Nat} {f0 : List Int} {f1 : Int} {f2 : Int} {W1 : World} {S : Nat → Prop} (h : IsS71 w0 W g f0 f1 f2) (hk : Kept W W1 S) (hne : ¬ S g) : IsS71 w0 W1 g f0 f1 f2 := by
 obtain ⟨A0, c0, hb, hg, hr0⟩ := h
 exact ⟨A0, c0, blk_kept hb hk hne, hg, hr0⟩
theorem IsS71.below {w0 W : World} {g : Nat} {f0 : List Int} {f1 : Int} {f2 : Int} {W1 : World} (h : IsS71 w0 W g f0 f1 f2) (hw : Below W.heap.size W W1) : IsS71 w0 W1 g f0 f1 f2 := h.grown (grown_of_below hw none) (by simp)
theorem IsS71.alloc {w0 W : World} {g : Nat} {f0 : List Int} {f1 : Int} {f2 : Int} (h : IsS71 w0 W g f0 f1 f2) (o : Obj) : IsS71 w0 (W.alloc o) g f0 f1 f2 := h.below (bwA (Below.refl _ _) o)
theorem IsS71.drewN {w0 W : World} {g : Nat} {f0 : List Int} {f1 : Int} {f2 : Int} (h : IsS71 w0 W g f0 f1 f2) (m : Nat) : IsS71 w0 (W.drewN m) g f0 f1 f2 := h
theorem IsS71.drew {w0 W : World} {g : Nat} {f0 : List Int} {f1 : Int} {f2 : Int} (h : IsS71 w0 W g f0 f1 f2) : IsS71 w0 W.drew g f0 f1 f2 := h
theorem IsS71.at_ {w0 W : World} {g : Nat} {f0 : List Int} {f1 : Int} {f2 : Int} {w' : World} {m : Nat} (hq : W.drewN m = w') (h : IsS71 w0 W g f0 f1 f2) : IsS71 w0 w' g f0 f1 f2 := by subst hq; exact IsS71.drewN h m
theorem IsS71.apart {w0 W : World} {g : Nat} {f0 : List Int} {f1 : Int} {f2 : Int} {α : Type} {d : Kd α} {e : Nat} {base : Nat} {ok : Nat → Prop} {v : Value} {xs : List α} (h : IsS71 w0 W g f0 f1 f2) (ho : d.R e W base ok v xs) (ht : ∀ q, q ∈ e :: d.E → q ≠ 71) : d.R e W base (fun k => ok k ∧ k ≠ g) v xs := by
 obtain ⟨A0, c0, hb, hg, hr0⟩ := h
 exact Kd.R_types ho hb ht
theorem IsS71.own_ne {w0 W : World} {g : Nat} {f0 : List Int} {f1 : Int} {f2 : Int} {α : Type} {d : Kd α} {e : Nat} {base : Nat} {ok : Nat → Prop} {v : Value} {xs : List α} (h : IsS71 w0 W g f0 f1 f2) (ho : d.R e W base ok v xs) (ht : e ≠ 71) : some g ≠ v.ownBlock := by
 obtain ⟨A0, c0, hb, hg, hr0⟩ := h
 exact Kd.R_ne ho hb ht
theorem IsS71.lt {w0 W : World} {g : Nat} {f0 : List Int} {f1 : Int} {f2 : Int} (h : IsS71 w0 W g f0 f1 f2) : g < W.heap.size := by
 obtain ⟨A0, c0, hb, hg, hr0⟩ := h
 exact blk_lt hb
theorem IsS71.ge {w0 W : World} {g : Nat} {f0 : List Int} {f1 : Int} {f2 : Int} (h : IsS71 w0 W g f0 f1 f2) : w0.heap.size ≤ g := by
 obtain ⟨A0, c0, hb, hg, hr0⟩ := h
 exact hg
theorem IsS71.ne_blk {w0 W : World} {g : Nat} {f0 : List Int} {f1 : Int} {f2 : Int} {a : Nat} {cs : Array Value} {t : TypeId} {fr : Nat × Nat} (h : IsS71 w0 W g f0 f1 f2) (hb2 : W.heap[a]? = some (.cells cs t fr)) (ht : t ≠ 71) : g ≠ a := by
 obtain ⟨A0, c0, hb, hg, hr0⟩ := h
 rintro rfl
 rw [hb] at hb2
 injection hb2 with hb2
 injection hb2 with _ ht2
 exact ht ht2.symm
theorem IsS71.far {w0 W : World} {g : Nat} {f0 : List Int} {f1 : Int} {f2 : Int} {p : Addr} (h : IsS71 w0 W g f0 f1 f2) (hne : g ≠ p.block) (u : Value) : IsS71 w0 (W.setCell p u) g f0 f1 f2 := by
 obtain ⟨A0, c0, hb, hg, hr0⟩ := h
 exact ⟨A0, c0, bkf hb hne u, hg, hr0⟩
theorem cellS71_0 {W : World} {g : Nat} {A0 : Option Addr} {c0 : Nat} {f0 : List Int} {f1 : Int} {f2 : Int} (h : W.heap[g]? = some (.cells #[.slice A0 f0.length c0, .int .i64 f1, .int .i64 f2] 71 (0, 0))) : W.cell? ⟨g, 0, none⟩ = some (.slice A0 f0.length c0) := (bkC h 0).trans rfl
theorem cellS71_1 {W : World} {g : Nat} {A0 : Option Addr} {c0 : Nat} {f0 : List Int} {f1 : Int} {f2 : Int} (h : W.heap[g]? = some (.cells #[.slice A0 f0.length c0, .int .i64 f1, .int .i64 f2] 71 (0, 0))) : W.cell? ⟨g, 1, none⟩ = some (.int .i64 f1) := (bkC h 1).trans rfl
theorem IsS71.set_1 {w0 W : World} {g : Nat} {f0 : List Int} {f1 : Int} {f2 : Int} (h : IsS71 w0 W g f0 f1 f2) (x : Int) : IsS71 w0 (W.setCell ⟨g, 1, none⟩ (.int .i64 x)) g f0 x f2 := by
 obtain ⟨A0, c0, hb, hg, hr0⟩ := h
 exact ⟨A0, c0, by simpa using blk_set hb 1 (.int .i64 x), hg, hr0⟩
theorem cellS71_2 {W : World} {g : Nat} {A0 : Option Addr} {c0 : Nat} {f0 : List Int} {f1 : Int} {f2 : Int} (h : W.heap[g]? = some (.cells #[.slice A0 f0.length c0, .int .i64 f1, .int .i64 f2] 71 (0, 0))) : W.cell? ⟨g, 2, none⟩ = some (.int .i64 f2) := (bkC h 2).trans rfl
theorem IsS71.set_2 {w0 W : World} {g : Nat} {f0 : List Int} {f1 : Int} {f2 : Int} (h : IsS71 w0 W g f0 f1 f2) (x : Int) : IsS71 w0 (W.setCell ⟨g, 2, none⟩ (.int .i64 x)) g f0 f1 x := by
 obtain ⟨A0, c0, hb, hg, hr0⟩ := h
 exact ⟨A0, c0, by simpa using blk_set hb 2 (.int .i64 x), hg, hr0⟩
theorem IsS71.new (w0 W : World) (A0 : Option Addr) (c0 : Nat) (f0 : List Int) (f1 : Int) (f2 : Int) (hB : Below w0.heap.size w0 W) (hr0 : Kd.C (Kd.int .u8) w0 A0 f0.length f0) : IsS71 w0 (W.alloc (.cells #[.slice A0 f0.length c0, .int .i64 f1, .int .i64 f2] 71)) W.heap.size f0 f1 f2 := ⟨A0, c0, by simpa using heap_alloc_new W _, hB.size, hr0⟩

/-! ### spec_l1New: function 37 -/
def spec_l1New.l0 : Nat → List Int → Int → Int → Option (List Int × Int × Int)
 | 0, _, _, _ => none
 | k + 1, x0, x3, x4 => if x4 < (x0.length : Int) then (if x4 < 4000 then (if 0 ≤ x4 then (spec_l1New.l0 k x0 (Go.bits .and .i64 (wrap64 ((wrap64 ((wrap64 (x3 * 131)) + (wrap64 (rd x0 x4)))) + 7)) 1073741823) (wrap64 (x4 + 1))) else (none)) else (some (x0, 0, x3))) else (some (x0, 0, x3))
def spec_l1New.f (k : Nat) (l0 : List Int) : Option (List Int × Int × Int) := spec_l1New.l0 k l0 (wrap64 (26583 + (l0.length : Int))) 0
theorem spec_l1New.mono_l : ∀ k, (∀ y0 y1 y2, LeO (spec_l1New.l0 k y0 y1 y2) (spec_l1New.l0 (k + 1) y0 y1 y2))
 | 0 => fun _ _ _ r h => by simp [spec_l1New.l0] at h
 | k + 1 => by
  have ih0 := spec_l1New.mono_l k
  have i0 := fun z0 z1 z2 => MoO.mk (ih0 z0 z1 z2)
  ·intro y0 y1 y2
   unfold spec_l1New.l0
   exact mo_
theorem spec_l1New.mono : ∀ a0 k, LeO (spec_l1New.f k a0) (spec_l1New.f (k + 1) a0) := by
 intro a0 k
 have ih0 := spec_l1New.mono_l k
 have i0 := fun z0 z1 z2 => MoO.mk (ih0 z0 z1 z2)
 unfold spec_l1New.f
 exact mo_
instance spec_l1New.mi {a0 k} : MoO (spec_l1New.f k a0) (spec_l1New.f (k + 1) a0) := ⟨spec_l1New.mono _ _⟩
set_option maxHeartbeats 8000000 in
set_option maxRecDepth 100000 in
theorem spec_l1New.calls (k : Nat) (A0 : Option Addr) (c0 : Nat) (l0 : List Int) (r1 : List Int) (r2 : Int) (r3 : Int) (w0 w : World) (hB : Below w0.heap.size w0 w) (hr0 : Kd.C (Kd.int .u8) w0 A0 l0.length l0) (hc0 : l0.length ≤ c0) (h : spec_l1New.f k l0 = some (r1, r2, r3)) :
  Calls Tryd.prog 37 #[.slice A0 l0.length c0] w fun e w' => ∃ g_ : Nat, e = .returned (.pointer (some ⟨g_, 0, none⟩)) ∧ IsS71 w0 w' g_ r1 r2 r3 ∧ Below w0.heap.size w0 w' ∧ Below w.heap.size w w' := by
 have hu71 := Tryd.underlying71
 have HR0 := Az.mk hr0
 have HC0 := Az.mk hc0
 clear hr0 hc0
 have HBW := Az.mk (Below.refl w.heap.size w)
 have HW0 := Az.mk hB.size
 have HB := Az.mk hB
 clear hB
 have H : (spec_l1New.l0 k l0 (wrap64 (26583 + (l0.length : Int))) 0) = some (r1, r2, r3) := h
 clear h
 have H' := Az.mk H
 clear H
 go_enter Tryd.func37, Tryd.ntmps37
 go_wp2
 go_loopg [3, 4] k (fun kq v3 v4 w' => ∃ (x3_1 : Int) (x4_1 : Int), v3 = .int .i64 x3_1 ∧ v4 = .int .i64 x4_1 ∧ Az (spec_l1New.l0 kq l0 x3_1 x4_1 = some (r1, r2, r3)) ∧ Az (kq ≤ k) ∧ Az (Below w0.heap.size w0 w') ∧ Az (Below w.heap.size w w'))
 case atStart => exact ⟨(wrap64 (26583 + (l0.length : Int))), (0), rq2, rq2, H', ⟨Nat.le_refl _⟩, ⟨bw_9⟩, ⟨by repeat (first | (with_reducible first | exact HBW.out | apply bwA | apply pbN | apply bwD) | exact HBW.out)⟩⟩
 clear H'
 obtain ⟨x3_1, x4_1, rfl, rfl, HA, HK1, HB, HBW⟩ := hrel
 cases gk with
 | zero => exact absurd HA.out (by simp [spec_l1New.l0])
 | succ k1 =>
  have H := HA.out
  clear HA
  simp only [spec_l1New.l0] at H
  by_cases c2 : x4_1 < (l0.length : Int)
  rotate_left
  ·rw [if_neg c2] at H
   have c2b0 : decide (x4_1 < (l0.length : Int)) = false := decide_eq_false c2
   clear c2
   simp only [Option.some.injEq, Prod.mk.injEq] at H
   obtain ⟨rfl, rfl, rfl⟩ := H
   go_wp2_with (first | ((with_reducible refine gtD (N := 31) rfl ?_); refine bx (N := 31) (cs := #[.slice A0 l0.length c0, .int .i64 0, .int .i64 x3_1]) (t := 71) ?_; intro gb154 hg w6 hbox hb; replace HB := Az.mk (bwT bw_9 hb); have BK154 := Az.mk (hbox); have GW154 := Az.mk ((by rw [hg]; exact (bwZ (by repeat (first | (with_reducible first | exact HBW.out | apply bwA | apply pbN | apply bwD) | exact HBW.out))) : w.heap.size ≤ gb154)); have GE154 := Az.mk ((Nat.le_trans HW0.out (by rw [hg]; exact (bwZ (by repeat (first | (with_reducible first | exact HBW.out | apply bwA | apply pbN | apply bwD) | exact HBW.out))) : w.heap.size ≤ gb154) : w0.heap.size ≤ gb154)); replace HBW := Az.mk (bwT HBW.out hb); clear hb hbox hg))
   go_ret
   exact ⟨_, rfl, (show IsS71 w0 _ gb154 l0 0 x3_1 from ⟨_, _, by (with_reducible repeat first | apply bkN | apply bkD | apply bkA); exact BK154.out, GE154.out, HR0.out⟩), by repeat (first | (with_reducible first | exact HB.out | apply bwA | apply pbN | apply bwD | refine bwS ?_ GE154.out) | exact HB.out), by repeat (first | (with_reducible first | exact HBW.out | apply bwA | apply pbN | apply bwD | refine bwS ?_ GW154.out) | exact HBW.out)⟩
  rw [if_pos c2] at H
  have c2b0 : decide (x4_1 < (l0.length : Int)) = true := decide_eq_true c2
  clear c2
  by_cases c3 : x4_1 < 4000
  rotate_left
  ·rw [if_neg c3] at H
   have c3b0 : decide (x4_1 < 4000) = false := decide_eq_false c3
   clear c3
   simp only [Option.some.injEq, Prod.mk.injEq] at H
   obtain ⟨rfl, rfl, rfl⟩ := H
   go_wp2_with (first | ((with_reducible refine gtD (N := 31) rfl ?_); refine bx (N := 31) (cs := #[.slice A0 l0.length c0, .int .i64 0, .int .i64 x3_1]) (t := 71) ?_; intro gb153 hg w5 hbox hb; replace HB := Az.mk (bwT bw_9 hb); have BK153 := Az.mk (hbox); have GW153 := Az.mk ((by rw [hg]; exact (bwZ (by repeat (first | (with_reducible first | exact HBW.out | apply bwA | apply pbN | apply bwD) | exact HBW.out))) : w.heap.size ≤ gb153)); have GE153 := Az.mk ((Nat.le_trans HW0.out (by rw [hg]; exact (bwZ (by repeat (first | (with_reducible first | exact HBW.out | apply bwA | apply pbN | apply bwD) | exact HBW.out))) : w.heap.size ≤ gb153) : w0.heap.size ≤ gb153)); replace HBW := Az.mk (bwT HBW.out hb); clear hb hbox hg))
   go_ret
   exact ⟨_, rfl, (show IsS71 w0 _ gb153 l0 0 x3_1 from ⟨_, _, by (with_reducible repeat first | apply bkN | apply bkD | apply bkA); exact BK153.out, GE153.out, HR0.out⟩), by repeat (first | (with_reducible first | exact HB.out | apply bwA | apply pbN | apply bwD | refine bwS ?_ GE153.out) | exact HB.out), by repeat (first | (with_reducible first | exact HBW.out | apply bwA | apply pbN | apply bwD | refine bwS ?_ GW153.out) | exact HBW.out)⟩
  rw [if_pos c3] at H
  have c3b0 : decide (x4_1 < 4000) = true := decide_eq_true c3
  clear c3
  by_cases c4 : 0 ≤ x4_1
  rotate_left
  ·rw [if_neg c4] at H
   exact absurd H (by simp)
  rw [if_pos c4] at H
  have c4b0 : decide (0 ≤ x4_1) = true := decide_eq_true c4
  clear c4
  have H' := Az.mk H
  clear H
  have p152 : 0 ≤ (x4_1 : Int) := of_decide_eq_true (by first | (with_reducible assumption) | assumption)
  have q152 : x4_1 < (l0.length : Int) := of_decide_eq_true (by first | (with_reducible assumption) | assumption)
  obtain ⟨ad152, e152, hx152_0⟩ := Kd.at_int HR0.out x4_1 p152 q152
  cases e152
  replace hx152_0 := pw_cell_below HB.out hx152_0
  replace p152 := eq_true p152
  replace q152 := eq_true q152
  go_wp2
  go_roundg k1
  case measure => have := HK1.out; omega
  case rel => exact ⟨(Go.bits .and .i64 (wrap64 ((wrap64 ((wrap64 (x3_1 * 131)) + (wrap64 (rd l0 x4_1)))) + 7)) 1073741823), (wrap64 (x4_1 + 1)), rq2, rq2, H', ⟨by have := HK1.out; omega⟩, ⟨bw_9⟩, ⟨by repeat (first | (with_reducible first | exact HBW.out | apply bwA | apply pbN | apply bwD) | exact HBW.out)⟩⟩

/-! ### spec_l13Times: function 39 -/
def spec_l13Times.f (a0_0 : Int) (a0_1 : Int) (a0_2 : Int) (a0_3 : Int) (a1_0 : Int) (a1_1 : Int) (a1_2 : Int) (a1_3 : Int) : Option (Int × Int × Int × Int) := some (wrap64 ((wrap64 (a0_0 * a1_0)) + (wrap64 (a0_1 * a1_2))), wrap64 ((wrap64 (a0_0 * a1_1)) + (wrap64 (a0_1 * a1_3))), wrap64 ((wrap64 (a0_2 * a1_0)) + (wrap64 (a0_3 * a1_2))), wrap64 ((wrap64 (a0_2 * a1_1)) + (wrap64 (a0_3 * a1_3))))
set_option maxHeartbeats 8000000 in
set_option maxRecDepth 100000 in
theorem spec_l13Times.calls (a0_0 : Int) (a0_1 : Int) (a0_2 : Int) (a0_3 : Int) (a1_0 : Int) (a1_1 : Int) (a1_2 : Int) (a1_3 : Int) (r1 : Int) (r2 : Int) (r3 : Int) (r4 : Int) (w : World) (h : spec_l13Times.f a0_0 a0_1 a0_2 a0_3 a1_0 a1_1 a1_2 a1_3 = some (r1, r2, r3, r4)) :
  Calls Tryd.prog 39 #[.agg #[.int .i64 a0_0, .int .i64 a0_1, .int .i64 a0_2, .int .i64 a0_3], .agg #[.int .i64 a1_0, .int .i64 a1_1, .int .i64 a1_2, .int .i64 a1_3]] w fun e w' => e = .returned (.agg #[.int .i64 r1, .int .i64 r2, .int .i64 r3, .int .i64 r4]) ∧ Below w.heap.size w w' := by
 have hu25 := Tryd.underlying25
 have HB := Az.mk (Below.refl w.heap.size w)
 have H : (some (wrap64 ((wrap64 (a0_0 * a1_0)) + (wrap64 (a0_1 * a1_2))), wrap64 ((wrap64 (a0_0 * a1_1)) + (wrap64 (a0_1 * a1_3))), wrap64 ((wrap64 (a0_2 * a1_0)) + (wrap64 (a0_3 * a1_2))), wrap64 ((wrap64 (a0_2 * a1_1)) + (wrap64 (a0_3 * a1_3))))) = some (r1, r2, r3, r4) := h
 clear h
 simp only [Option.some.injEq, Prod.mk.injEq] at H
 obtain ⟨rfl, rfl, rfl, rfl⟩ := H
 go_enter Tryd.func39, Tryd.ntmps39
 go_wp2_with (first | ((with_reducible refine gtD (N := 2) rfl ?_); refine bx (N := 2) (cs := #[.int .i64 a0_0, .int .i64 a0_1, .int .i64 a0_2, .int .i64 a0_3]) (t := 25) ?_; intro gb155 hg w3 hbox hb; have BK155 := Az.mk (hbox); have GW155 := gwz hg bw_9; have GE155 := gwz hg bw_9; replace HB := Az.mk (bwT bw_9 hb); clear hb hbox hg) | ((with_reducible refine gtD (N := 3) rfl ?_); refine bx (N := 3) (cs := #[.int .i64 a1_0, .int .i64 a1_1, .int .i64 a1_2, .int .i64 a1_3]) (t := 25) ?_; intro gb156 hg w4 hbox hb; have BK156 := Az.mk (hbox); have GW156 := gwz hg bw_9; have GE156 := gwz hg bw_9; replace HB := Az.mk (bwT bw_9 hb); have NB155_156 := nlt BK155 hg; have NB156_155 := ngt BK155 hg; replace BK155 := bkz BK155 hb; clear hb hbox hg) | ((with_reducible refine gtD (N := 4) rfl ?_); refine bx (N := 4) (cs := #[.int .i64 0, .int .i64 0, .int .i64 0, .int .i64 0]) (t := 25) ?_; intro gb157 hg w5 hbox hb; have BK157 := Az.mk (hbox); have GW157 := gwz hg bw_9; have GE157 := gwz hg bw_9; replace HB := Az.mk (bwT bw_9 hb); have NB155_157 := nlt BK155 hg; have NB157_155 := ngt BK155 hg; replace BK155 := bkz BK155 hb; have NB156_157 := nlt BK156 hg; have NB157_156 := ngt BK156 hg; replace BK156 := bkz BK156 hb; clear hb hbox hg; have hnb6 := NB155_156.out; have hnc6 := NB156_155.out; have hnb7 := NB155_157.out; have hnc7 := NB157_155.out; obtain ⟨hcz8_0, hcz8_1, hcz8_2, hcz8_3, hfz8_0, hfz8_1, hfz8_2, hfz8_3⟩ := bq4 BK155; have hnb9 := NB156_157.out; have hnc9 := NB157_156.out; obtain ⟨hcz10_0, hcz10_1, hcz10_2, hcz10_3, hfz10_0, hfz10_1, hfz10_2, hfz10_3⟩ := bq4 BK156; obtain ⟨hcz11_0, hcz11_1, hcz11_2, hcz11_3, hfz11_0, hfz11_1, hfz11_2, hfz11_3⟩ := bq4 BK157))
 refine bodyPost_ret (results_cell_row rfl _ _ gb157 25 #[.int .i64 (wrap64 ((wrap64 (a0_0 * a1_0)) + (wrap64 (a0_1 * a1_2)))), .int .i64 (wrap64 ((wrap64 (a0_0 * a1_1)) + (wrap64 (a0_1 * a1_3)))), .int .i64 (wrap64 ((wrap64 (a0_2 * a1_0)) + (wrap64 (a0_3 * a1_2)))), .int .i64 (wrap64 ((wrap64 (a0_2 * a1_1)) + (wrap64 (a0_3 * a1_3))))] (0, 0) _ rfl (by (with_reducible repeat first | apply bkN | apply bkD | apply bkA); refine bkp (cs := #[.int .i64 (wrap64 ((wrap64 (a0_0 * a1_0)) + (wrap64 (a0_1 * a1_2)))), .int .i64 (wrap64 ((wrap64 (a0_0 * a1_1)) + (wrap64 (a0_1 * a1_3)))), .int .i64 (wrap64 ((wrap64 (a0_2 * a1_0)) + (wrap64 (a0_3 * a1_2)))), .int .i64 0]) ?_ 3 _ rfl; (with_reducible repeat first | apply bkN | apply bkD | apply bkA); refine bkp (cs := #[.int .i64 (wrap64 ((wrap64 (a0_0 * a1_0)) + (wrap64 (a0_1 * a1_2)))), .int .i64 (wrap64 ((wrap64 (a0_0 * a1_1)) + (wrap64 (a0_1 * a1_3)))), .int .i64 0, .int .i64 0]) ?_ 2 _ rfl; (with_reducible repeat first | apply bkN | apply bkD | apply bkA); refine bkp (cs := #[.int .i64 (wrap64 ((wrap64 (a0_0 * a1_0)) + (wrap64 (a0_1 * a1_2)))), .int .i64 0, .int .i64 0, .int .i64 0]) ?_ 1 _ rfl; (with_reducible repeat first | apply bkN | apply bkD | apply bkA); refine bkp (cs := #[.int .i64 0, .int .i64 0, .int .i64 0, .int .i64 0]) ?_ 0 _ rfl; (with_reducible repeat first | apply bkN | apply bkD | apply bkA); exact BK157.out) Tryd.underlying25 rfl (by kernel_rfl)) rfl ?_
 exact ⟨rq1, bw_9⟩

/-! ### spec_TimesMatrix: function 11 -/
def spec_TimesMatrix.f (k : Nat) (a0_0 : Int) (a0_1 : Int) (a0_2 : Int) (a0_3 : Int) (a1_0 : Int) (a1_1 : Int) (a1_2 : Int) (a1_3 : Int) : Option (Int × Int × Int × Int × Bool) := (spec_IsMatrix.f k a0_0 a0_1 a0_2 a0_3).bind fun t161 => (if t161 = true then ((spec_IsMatrix.f k a1_0 a1_1 a1_2 a1_3).bind fun t162 => (if t162 = true then ((spec_l13Times.f a0_0 a0_1 a0_2 a0_3 a1_0 a1_1 a1_2 a1_3).bind fun bt163 => ((spec_IsMatrix.f k bt163.1 bt163.2.1 bt163.2.2.1 bt163.2.2.2).bind fun t167 => (if t167 = true then ((spec_l13Times.f a0_0 a0_1 a0_2 a0_3 a1_0 a1_1 a1_2 a1_3).bind fun bt168 => (some (bt168.1, bt168.2.1, bt168.2.2.1, bt168.2.2.2, true))) else (some (0, 0, 0, 0, false))))) else (some (0, 0, 0, 0, false)))) else (some (0, 0, 0, 0, false)))
theorem spec_TimesMatrix.mono : ∀ a0 a1 a2 a3 a4 a5 a6 a7 k, LeO (spec_TimesMatrix.f k a0 a1 a2 a3 a4 a5 a6 a7) (spec_TimesMatrix.f (k + 1) a0 a1 a2 a3 a4 a5 a6 a7) := by
 intro a0 a1 a2 a3 a4 a5 a6 a7 k
 unfold spec_TimesMatrix.f
 exact mo_
instance spec_TimesMatrix.mi {a0 a1 a2 a3 a4 a5 a6 a7 k} : MoO (spec_TimesMatrix.f k a0 a1 a2 a3 a4 a5 a6 a7) (spec_TimesMatrix.f (k + 1) a0 a1 a2 a3 a4 a5 a6 a7) := ⟨spec_TimesMatrix.mono _ _ _ _ _ _ _ _ _⟩
set_option maxHeartbeats 8000000 in
set_option maxRecDepth 100000 in
theorem spec_TimesMatrix.calls (k : Nat) (a0_0 : Int) (a0_1 : Int) (a0_2 : Int) (a0_3 : Int) (a1_0 : Int) (a1_1 : Int) (a1_2 : Int) (a1_3 : Int) (r1 : Int) (r2 : Int) (r3 : Int) (r4 : Int) (r5 : Bool) (w : World) (h : spec_TimesMatrix.f k a0_0 a0_1 a0_2 a0_3 a1_0 a1_1 a1_2 a1_3 = some (r1, r2, r3, r4, r5)) :
  Calls Tryd.prog 11 #[.agg #[.int .i64 a0_0, .int .i64 a0_1, .int .i64 a0_2, .int .i64 a0_3], .agg #[.int .i64 a1_0, .int .i64 a1_1, .int .i64 a1_2, .int .i64 a1_3]] w fun e w' => e = .returned (.tuple #[.agg #[.int .i64 r1, .int .i64 r2, .int .i64 r3, .int .i64 r4], .bool r5]) ∧ Below w.heap.size w w' := by
 have hu25 := Tryd.underlying25
 have HB := Az.mk (Below.refl w.heap.size w)
 have H : ((spec_IsMatrix.f k a0_0 a0_1 a0_2 a0_3).bind fun t161 => (if t161 = true then ((spec_IsMatrix.f k a1_0 a1_1 a1_2 a1_3).bind fun t162 => (if t162 = true then ((spec_l13Times.f a0_0 a0_1 a0_2 a0_3 a1_0 a1_1 a1_2 a1_3).bind fun bt163 => ((spec_IsMatrix.f k bt163.1 bt163.2.1 bt163.2.2.1 bt163.2.2.2).bind fun t167 => (if t167 = true then ((spec_l13Times.f a0_0 a0_1 a0_2 a0_3 a1_0 a1_1 a1_2 a1_3).bind fun bt168 => (some (bt168.1, bt168.2.1, bt168.2.2.1, bt168.2.2.2, true))) else (some (0, 0, 0, 0, false))))) else (some (0, 0, 0, 0, false)))) else (some (0, 0, 0, 0, false)))) = some (r1, r2, r3, r4, r5) := h
 clear h
 replace H := bez H
 obtain ⟨t161, A3, H⟩ := H
 try dsimp only at H
 by_cases c4 : t161 = true
 rotate_left
 ·replace c4 := Bool.eq_false_iff.mpr c4
  subst c4
  rw [if_neg (show ¬ (false = true) by decide)] at H
  simp only [Option.some.injEq, Prod.mk.injEq] at H
  obtain ⟨rfl, rfl, rfl, rfl, rfl⟩ := H
  go_enter Tryd.func11, Tryd.ntmps11
  go_wp2_with (first | ((with_reducible refine gtD (N := 2) rfl ?_); refine bx (N := 2) (cs := #[.int .i64 a0_0, .int .i64 a0_1, .int .i64 a0_2, .int .i64 a0_3]) (t := 25) ?_; intro gb158 hg w55 hbox hb; have BK158 := Az.mk (hbox); have GW158 := gwz hg bw_9; have GE158 := gwz hg bw_9; replace HB := Az.mk (bwT bw_9 hb); clear hb hbox hg) | ((with_reducible refine gtD (N := 3) rfl ?_); refine bx (N := 3) (cs := #[.int .i64 a1_0, .int .i64 a1_1, .int .i64 a1_2, .int .i64 a1_3]) (t := 25) ?_; intro gb159 hg w56 hbox hb; have BK159 := Az.mk (hbox); have GW159 := gwz hg bw_9; have GE159 := gwz hg bw_9; replace HB := Az.mk (bwT bw_9 hb); have NB158_159 := nlt BK158 hg; have NB159_158 := ngt BK158 hg; replace BK158 := bkz BK158 hb; clear hb hbox hg) | ((with_reducible refine gtD (N := 4) rfl ?_); refine bx (N := 4) (cs := #[.int .i64 0, .int .i64 0, .int .i64 0, .int .i64 0]) (t := 25) ?_; intro gb160 hg w57 hbox hb; have BK160 := Az.mk (hbox); have GW160 := gwz hg bw_9; have GE160 := gwz hg bw_9; replace HB := Az.mk (bwT bw_9 hb); have NB158_160 := nlt BK158 hg; have NB160_158 := ngt BK158 hg; replace BK158 := bkz BK158 hb; have NB159_160 := nlt BK159 hg; have NB160_159 := ngt BK159 hg; replace BK159 := bkz BK159 hb; clear hb hbox hg; have hnb58 := NB158_159.out; have hnc58 := NB159_158.out; have hnb59 := NB158_160.out; have hnc59 := NB160_158.out; obtain ⟨hcz60_0, hcz60_1, hcz60_2, hcz60_3, hfz60_0, hfz60_1, hfz60_2, hfz60_3⟩ := bq4 BK158) | ((with_reducible refine gtC (f := 22) rfl ?_); refine clz Tryd.func22 (some 7) #[.agg #[.int .i64 a0_0, .int .i64 a0_1, .int .i64 a0_2, .int .i64 a0_3]] ?_; (with_reducible refine (spec_IsMatrix.calls k a0_0 a0_1 a0_2 a0_3 false _ A3.out).mono ?_); rintro e w61 ⟨rfl, hb⟩; refine ⟨_, rfl, ?_⟩; replace BK158 := bkz BK158 hb; replace BK159 := bkz BK159 hb; replace BK160 := bkz BK160 hb; replace HB := Az.mk (bwT bw_9 hb); (try clear hb); have hnb62 := NB160_159.out; have hnc62 := NB159_160.out; obtain ⟨hcz63_0, hcz63_1, hcz63_2, hcz63_3, hfz63_0, hfz63_1, hfz63_2, hfz63_3⟩ := bq4 BK160))
  refine bodyPost_ret (results_ct rfl _ _ gb160 25 #[.int .i64 0, .int .i64 0, .int .i64 0, .int .i64 0] (0, 0) _ rfl bkv Tryd.underlying25 rfl (by kernel_rfl)) rfl ?_
  exact ⟨rq1, bw_9⟩
 subst c4
 rw [if_pos rfl] at H
 replace H := bez H
 obtain ⟨t162, A5, H⟩ := H
 try dsimp only at H
 by_cases c6 : t162 = true
 rotate_left
 ·replace c6 := Bool.eq_false_iff.mpr c6
  subst c6
  rw [if_neg (show ¬ (false = true) by decide)] at H
  simp only [Option.some.injEq, Prod.mk.injEq] at H
  obtain ⟨rfl, rfl, rfl, rfl, rfl⟩ := H
  go_enter Tryd.func11, Tryd.ntmps11
  go_wp2_with (first | ((with_reducible refine gtD (N := 2) rfl ?_); refine bx (N := 2) (cs := #[.int .i64 a0_0, .int .i64 a0_1, .int .i64 a0_2, .int .i64 a0_3]) (t := 25) ?_; intro gb158 hg w44 hbox hb; have BK158 := Az.mk (hbox); have GW158 := gwz hg bw_9; have GE158 := gwz hg bw_9; replace HB := Az.mk (bwT bw_9 hb); clear hb hbox hg) | ((with_reducible refine gtD (N := 3) rfl ?_); refine bx (N := 3) (cs := #[.int .i64 a1_0, .int .i64 a1_1, .int .i64 a1_2, .int .i64 a1_3]) (t := 25) ?_; intro gb159 hg w45 hbox hb; have BK159 := Az.mk (hbox); have GW159 := gwz hg bw_9; have GE159 := gwz hg bw_9; replace HB := Az.mk (bwT bw_9 hb); have NB158_159 := nlt BK158 hg; have NB159_158 := ngt BK158 hg; replace BK158 := bkz BK158 hb; clear hb hbox hg) | ((with_reducible refine gtD (N := 4) rfl ?_); refine bx (N := 4) (cs := #[.int .i64 0, .int .i64 0, .int .i64 0, .int .i64 0]) (t := 25) ?_; intro gb160 hg w46 hbox hb; have BK160 := Az.mk (hbox); have GW160 := gwz hg bw_9; have GE160 := gwz hg bw_9; replace HB := Az.mk (bwT bw_9 hb); have NB158_160 := nlt BK158 hg; have NB160_158 := ngt BK158 hg; replace BK158 := bkz BK158 hb; have NB159_160 := nlt BK159 hg; have NB160_159 := ngt BK159 hg; replace BK159 := bkz BK159 hb; clear hb hbox hg; have hnb47 := NB158_159.out; have hnc47 := NB159_158.out; have hnb48 := NB158_160.out; have hnc48 := NB160_158.out; obtain ⟨hcz49_0, hcz49_1, hcz49_2, hcz49_3, hfz49_0, hfz49_1, hfz49_2, hfz49_3⟩ := bq4 BK158) | ((with_reducible refine gtC (f := 22) rfl ?_); refine clz Tryd.func22 (some 7) #[.agg #[.int .i64 a0_0, .int .i64 a0_1, .int .i64 a0_2, .int .i64 a0_3]] ?_; (with_reducible refine (spec_IsMatrix.calls k a0_0 a0_1 a0_2 a0_3 true _ A3.out).mono ?_); rintro e w50 ⟨rfl, hb⟩; refine ⟨_, rfl, ?_⟩; replace BK158 := bkz BK158 hb; replace BK159 := bkz BK159 hb; replace BK160 := bkz BK160 hb; replace HB := Az.mk (bwT bw_9 hb); (try clear hb); have hnb51 := NB159_160.out; have hnc51 := NB160_159.out; obtain ⟨hcz52_0, hcz52_1, hcz52_2, hcz52_3, hfz52_0, hfz52_1, hfz52_2, hfz52_3⟩ := bq4 BK159) | (go_at_call 22; (with_reducible refine (spec_IsMatrix.calls k a1_0 a1_1 a1_2 a1_3 false _ A5.out).mono ?_); rintro e w53 ⟨rfl, hb⟩; replace BK158 := bkz BK158 hb; replace BK159 := bkz BK159 hb; replace BK160 := bkz BK160 hb; replace HB := Az.mk (bwT bw_9 hb); (try clear hb); obtain ⟨hcz54_0, hcz54_1, hcz54_2, hcz54_3, hfz54_0, hfz54_1, hfz54_2, hfz54_3⟩ := bq4 BK160))
  refine bodyPost_ret (results_ct rfl _ _ gb160 25 #[.int .i64 0, .int .i64 0, .int .i64 0, .int .i64 0] (0, 0) _ rfl bkv Tryd.underlying25 rfl (by kernel_rfl)) rfl ?_
  exact ⟨rq1, bw_9⟩
 subst c6
 rw [if_pos rfl] at H
 replace H := bez H
 obtain ⟨⟨t163, t164, t165, t166⟩, A7, H⟩ := H
 try dsimp only at H
 replace H := bez H
 obtain ⟨t167, A8, H⟩ := H
 try dsimp only at H
 by_cases c9 : t167 = true
 rotate_left
 ·replace c9 := Bool.eq_false_iff.mpr c9
  subst c9
  rw [if_neg (show ¬ (false = true) by decide)] at H
  simp only [Option.some.injEq, Prod.mk.injEq] at H
  obtain ⟨rfl, rfl, rfl, rfl, rfl⟩ := H
  go_enter Tryd.func11, Tryd.ntmps11
  go_wp2_with (first | ((with_reducible refine gtD (N := 2) rfl ?_); refine bx (N := 2) (cs := #[.int .i64 a0_0, .int .i64 a0_1, .int .i64 a0_2, .int .i64 a0_3]) (t := 25) ?_; intro gb158 hg w29 hbox hb; have BK158 := Az.mk (hbox); have GW158 := gwz hg bw_9; have GE158 := gwz hg bw_9; replace HB := Az.mk (bwT bw_9 hb); clear hb hbox hg) | ((with_reducible refine gtD (N := 3) rfl ?_); refine bx (N := 3) (cs := #[.int .i64 a1_0, .int .i64 a1_1, .int .i64 a1_2, .int .i64 a1_3]) (t := 25) ?_; intro gb159 hg w30 hbox hb; have BK159 := Az.mk (hbox); have GW159 := gwz hg bw_9; have GE159 := gwz hg bw_9; replace HB := Az.mk (bwT bw_9 hb); have NB158_159 := nlt BK158 hg; have NB159_158 := ngt BK158 hg; replace BK158 := bkz BK158 hb; clear hb hbox hg) | ((with_reducible refine gtD (N := 4) rfl ?_); refine bx (N := 4) (cs := #[.int .i64 0, .int .i64 0, .int .i64 0, .int .i64 0]) (t := 25) ?_; intro gb160 hg w31 hbox hb; have BK160 := Az.mk (hbox); have GW160 := gwz hg bw_9; have GE160 := gwz hg bw_9; replace HB := Az.mk (bwT bw_9 hb); have NB158_160 := nlt BK158 hg; have NB160_158 := ngt BK158 hg; replace BK158 := bkz BK158 hb; have NB159_160 := nlt BK159 hg; have NB160_159 := ngt BK159 hg; replace BK159 := bkz BK159 hb; clear hb hbox hg; have hnb32 := NB158_159.out; have hnc32 := NB159_158.out; have hnb33 := NB158_160.out; have hnc33 := NB160_158.out; obtain ⟨hcz34_0, hcz34_1, hcz34_2, hcz34_3, hfz34_0, hfz34_1, hfz34_2, hfz34_3⟩ := bq4 BK158) | ((with_reducible refine gtC (f := 22) rfl ?_); refine clz Tryd.func22 (some 7) #[.agg #[.int .i64 a0_0, .int .i64 a0_1, .int .i64 a0_2, .int .i64 a0_3]] ?_; (with_reducible refine (spec_IsMatrix.calls k a0_0 a0_1 a0_2 a0_3 true _ A3.out).mono ?_); rintro e w35 ⟨rfl, hb⟩; refine ⟨_, rfl, ?_⟩; replace BK158 := bkz BK158 hb; replace BK159 := bkz BK159 hb; replace BK160 := bkz BK160 hb; replace HB := Az.mk (bwT bw_9 hb); (try clear hb); have hnb36 := NB159_160.out; have hnc36 := NB160_159.out; obtain ⟨hcz37_0, hcz37_1, hcz37_2, hcz37_3, hfz37_0, hfz37_1, hfz37_2, hfz37_3⟩ := bq4 BK159) | (go_at_call 22; (with_reducible refine (spec_IsMatrix.calls k a1_0 a1_1 a1_2 a1_3 true _ A5.out).mono ?_); rintro e w38 ⟨rfl, hb⟩; replace BK158 := bkz BK158 hb; replace BK159 := bkz BK159 hb; replace BK160 := bkz BK160 hb; replace HB := Az.mk (bwT bw_9 hb); (try clear hb); obtain ⟨hcz39_0, hcz39_1, hcz39_2, hcz39_3, hfz39_0, hfz39_1, hfz39_2, hfz39_3⟩ := bq4 BK158; obtain ⟨hcz40_0, hcz40_1, hcz40_2, hcz40_3, hfz40_0, hfz40_1, hfz40_2, hfz40_3⟩ := bq4 BK159) | (go_at_call 39; (with_reducible refine (spec_l13Times.calls a0_0 a0_1 a0_2 a0_3 a1_0 a1_1 a1_2 a1_3 t163 t164 t165 t166 _ A7.out).mono ?_); rintro e w41 ⟨rfl, hb⟩; replace BK158 := bkz BK158 hb; replace BK159 := bkz BK159 hb; replace BK160 := bkz BK160 hb; replace HB := Az.mk (bwT bw_9 hb); (try clear hb)) | (go_at_call 22; (with_reducible refine (spec_IsMatrix.calls k t163 t164 t165 t166 false _ A8.out).mono ?_); rintro e w42 ⟨rfl, hb⟩; replace BK158 := bkz BK158 hb; replace BK159 := bkz BK159 hb; replace BK160 := bkz BK160 hb; replace HB := Az.mk (bwT bw_9 hb); (try clear hb); obtain ⟨hcz43_0, hcz43_1, hcz43_2, hcz43_3, hfz43_0, hfz43_1, hfz43_2, hfz43_3⟩ := bq4 BK160))
  refine bodyPost_ret (results_ct rfl _ _ gb160 25 #[.int .i64 0, .int .i64 0, .int .i64 0, .int .i64 0] (0, 0) _ rfl bkv Tryd.underlying25 rfl (by kernel_rfl)) rfl ?_
  exact ⟨rq1, bw_9⟩
 subst c9
 rw [if_pos rfl] at H
 replace H := bez H
 obtain ⟨⟨t168, t169, t170, t171⟩, A10, H⟩ := H
 try dsimp only at H
 simp only [Option.some.injEq, Prod.mk.injEq] at H
 obtain ⟨rfl, rfl, rfl, rfl, rfl⟩ := H
 go_enter Tryd.func11, Tryd.ntmps11
 go_wp2_with (first | ((with_reducible refine gtD (N := 2) rfl ?_); refine bx (N := 2) (cs := #[.int .i64 a0_0, .int .i64 a0_1, .int .i64 a0_2, .int .i64 a0_3]) (t := 25) ?_; intro gb158 hg w11 hbox hb; have BK158 := Az.mk (hbox); have GW158 := gwz hg bw_9; have GE158 := gwz hg bw_9; replace HB := Az.mk (bwT bw_9 hb); clear hb hbox hg) | ((with_reducible refine gtD (N := 3) rfl ?_); refine bx (N := 3) (cs := #[.int .i64 a1_0, .int .i64 a1_1, .int .i64 a1_2, .int .i64 a1_3]) (t := 25) ?_; intro gb159 hg w12 hbox hb; have BK159 := Az.mk (hbox); have GW159 := gwz hg bw_9; have GE159 := gwz hg bw_9; replace HB := Az.mk (bwT bw_9 hb); have NB158_159 := nlt BK158 hg; have NB159_158 := ngt BK158 hg; replace BK158 := bkz BK158 hb; clear hb hbox hg) | ((with_reducible refine gtD (N := 4) rfl ?_); refine bx (N := 4) (cs := #[.int .i64 0, .int .i64 0, .int .i64 0, .int .i64 0]) (t := 25) ?_; intro gb160 hg w13 hbox hb; have BK160 := Az.mk (hbox); have GW160 := gwz hg bw_9; have GE160 := gwz hg bw_9; replace HB := Az.mk (bwT bw_9 hb); have NB158_160 := nlt BK158 hg; have NB160_158 := ngt BK158 hg; replace BK158 := bkz BK158 hb; have NB159_160 := nlt BK159 hg; have NB160_159 := ngt BK159 hg; replace BK159 := bkz BK159 hb; clear hb hbox hg; have hnb14 := NB158_159.out; have hnc14 := NB159_158.out; have hnb15 := NB158_160.out; have hnc15 := NB160_158.out; obtain ⟨hcz16_0, hcz16_1, hcz16_2, hcz16_3, hfz16_0, hfz16_1, hfz16_2, hfz16_3⟩ := bq4 BK158) | ((with_reducible refine gtC (f := 22) rfl ?_); refine clz Tryd.func22 (some 7) #[.agg #[.int .i64 a0_0, .int .i64 a0_1, .int .i64 a0_2, .int .i64 a0_3]] ?_; (with_reducible refine (spec_IsMatrix.calls k a0_0 a0_1 a0_2 a0_3 true _ A3.out).mono ?_); rintro e w17 ⟨rfl, hb⟩; refine ⟨_, rfl, ?_⟩; replace BK158 := bkz BK158 hb; replace BK159 := bkz BK159 hb; replace BK160 := bkz BK160 hb; replace HB := Az.mk (bwT bw_9 hb); (try clear hb); have hnb18 := NB159_160.out; have hnc18 := NB160_159.out; obtain ⟨hcz19_0, hcz19_1, hcz19_2, hcz19_3, hfz19_0, hfz19_1, hfz19_2, hfz19_3⟩ := bq4 BK159) | (go_at_call 22; (with_reducible refine (spec_IsMatrix.calls k a1_0 a1_1 a1_2 a1_3 true _ A5.out).mono ?_); rintro e w20 ⟨rfl, hb⟩; replace BK158 := bkz BK158 hb; replace BK159 := bkz BK159 hb; replace BK160 := bkz BK160 hb; replace HB := Az.mk (bwT bw_9 hb); (try clear hb); obtain ⟨hcz21_0, hcz21_1, hcz21_2, hcz21_3, hfz21_0, hfz21_1, hfz21_2, hfz21_3⟩ := bq4 BK158; obtain ⟨hcz22_0, hcz22_1, hcz22_2, hcz22_3, hfz22_0, hfz22_1, hfz22_2, hfz22_3⟩ := bq4 BK159) | (go_at_call 39; (with_reducible refine (spec_l13Times.calls a0_0 a0_1 a0_2 a0_3 a1_0 a1_1 a1_2 a1_3 t163 t164 t165 t166 _ A7.out).mono ?_); rintro e w23 ⟨rfl, hb⟩; replace BK158 := bkz BK158 hb; replace BK159 := bkz BK159 hb; replace BK160 := bkz BK160 hb; replace HB := Az.mk (bwT bw_9 hb); (try clear hb)) | (go_at_call 22; (with_reducible refine (spec_IsMatrix.calls k t163 t164 t165 t166 true _ A8.out).mono ?_); rintro e w24 ⟨rfl, hb⟩; replace BK158 := bkz BK158 hb; replace BK159 := bkz BK159 hb; replace BK160 := bkz BK160 hb; replace HB := Az.mk (bwT bw_9 hb); (try clear hb); obtain ⟨hcz25_0, hcz25_1, hcz25_2, hcz25_3, hfz25_0, hfz25_1, hfz25_2, hfz25_3⟩ := bq4 BK158; obtain ⟨hcz26_0, hcz26_1, hcz26_2, hcz26_3, hfz26_0, hfz26_1, hfz26_2, hfz26_3⟩ := bq4 BK159) | ((with_reducible refine gtC (f := 39) rfl ?_); refine clz Tryd.func39 (some 24) #[.agg #[.int .i64 a0_0, .int .i64 a0_1, .int .i64 a0_2, .int .i64 a0_3], .agg #[.int .i64 a1_0, .int .i64 a1_1, .int .i64 a1_2, .int .i64 a1_3]] ?_; (with_reducible refine (spec_l13Times.calls a0_0 a0_1 a0_2 a0_3 a1_0 a1_1 a1_2 a1_3 t168 t169 t170 t171 _ A10.out).mono ?_); rintro e w27 ⟨rfl, hb⟩; refine ⟨_, rfl, ?_⟩; replace BK158 := bkz BK158 hb; replace BK159 := bkz BK159 hb; replace BK160 := bkz BK160 hb; replace HB := Az.mk (bwT bw_9 hb); (try clear hb); obtain ⟨hcz28_0, hcz28_1, hcz28_2, hcz28_3, hfz28_0, hfz28_1, hfz28_2, hfz28_3⟩ := bq4 BK160))
 refine bodyPost_ret (results_ct rfl _ _ gb160 25 #[.int .i64 t168, .int .i64 t169, .int .i64 t170, .int .i64 t171] (0, 0) _ rfl bkv Tryd.underlying25 rfl (by kernel_rfl)) rfl ?_
 exact ⟨rq1, bw_9⟩

/-! ### spec_l13Turn: function 50 -/
def spec_l13Turn.f (a0 : Int) : Option (Int × Int × Int × Int) := if a0 = 82 then (some (1, 1, 0, 1)) else (if a0 = 76 then (some (1, 0, 1, 1)) else (if a0 = 114 then (some (1, (-1), 0, 1)) else (if a0 = 108 then (some (1, 0, (-1), 1)) else (some (0, 0, 0, 0)))))
set_option maxHeartbeats 8000000 in
set_option maxRecDepth 100000 in
theorem spec_l13Turn.calls (a0 : Int) (r1 : Int) (r2 : Int) (r3 : Int) (r4 : Int) (w : World) (h : spec_l13Turn.f a0 = some (r1, r2, r3, r4)) :
  Calls Tryd.prog 50 #[.int .u8 a0] w fun e w' => e = .returned (.agg #[.int .i64 r1, .int .i64 r2, .int .i64 r3, .int .i64 r4]) ∧ Below w.heap.size w w' := by
 have hu25 := Tryd.underlying25
 have HB := Az.mk (Below.refl w.heap.size w)
 have H : (if a0 = 82 then (some (1, 1, 0, 1)) else (if a0 = 76 then (some (1, 0, 1, 1)) else (if a0 = 114 then (some (1, (-1), 0, 1)) else (if a0 = 108 then (some (1, 0, (-1), 1)) else (some (0, 0, 0, 0)))))) = some (r1, r2, r3, r4) := h
 clear h
 by_cases c2 : a0 = 82
 ·rw [if_pos c2] at H
  have c2b0 : (a0 == 82) = true := beq_iff_eq.mpr c2
  have c2b1 : (a0 != 82) = false := bne_eq_false_iff_eq.mpr c2
  clear c2
  simp only [Option.some.injEq, Prod.mk.injEq] at H
  obtain ⟨rfl, rfl, rfl, rfl⟩ := H
  go_enter Tryd.func50, Tryd.ntmps50
  go_wp2_with (first | ((with_reducible refine gtD (N := 2) rfl ?_); refine bx (N := 2) (cs := #[.int .i64 0, .int .i64 0, .int .i64 0, .int .i64 0]) (t := 25) ?_; intro gb172 hg w3 hbox hb; have BK172 := Az.mk (hbox); have GW172 := gwz hg bw_9; have GE172 := gwz hg bw_9; replace HB := Az.mk (bwT bw_9 hb); clear hb hbox hg; obtain ⟨hcz4_0, hcz4_1, hcz4_2, hcz4_3, hfz4_0, hfz4_1, hfz4_2, hfz4_3⟩ := bq4 BK172))
  refine bodyPost_ret (results_cell_row rfl _ _ gb172 25 #[.int .i64 1, .int .i64 1, .int .i64 0, .int .i64 1] (0, 0) _ rfl bkv Tryd.underlying25 rfl (by kernel_rfl)) rfl ?_
  exact ⟨rq1, bw_9⟩
 rw [if_neg c2] at H
 have c2b0 : (a0 == 82) = false := beq_eq_false_iff_ne.mpr c2
 have c2b1 : (a0 != 82) = true := bne_iff_ne.mpr c2
 by_cases c5 : a0 = 76
 ·rw [if_pos c5] at H
  have c5b0 : (a0 == 76) = true := beq_iff_eq.mpr c5
  have c5b1 : (a0 != 76) = false := bne_eq_false_iff_eq.mpr c5
  clear c5
  simp only [Option.some.injEq, Prod.mk.injEq] at H
  obtain ⟨rfl, rfl, rfl, rfl⟩ := H
  go_enter Tryd.func50, Tryd.ntmps50
  go_wp2_with (first | ((with_reducible refine gtD (N := 2) rfl ?_); refine bx (N := 2) (cs := #[.int .i64 0, .int .i64 0, .int .i64 0, .int .i64 0]) (t := 25) ?_; intro gb172 hg w6 hbox hb; have BK172 := Az.mk (hbox); have GW172 := gwz hg bw_9; have GE172 := gwz hg bw_9; replace HB := Az.mk (bwT bw_9 hb); clear hb hbox hg; obtain ⟨hcz7_0, hcz7_1, hcz7_2, hcz7_3, hfz7_0, hfz7_1, hfz7_2, hfz7_3⟩ := bq4 BK172))
  refine bodyPost_ret (results_cell_row rfl _ _ gb172 25 #[.int .i64 1, .int .i64 0, .int .i64 1, .int .i64 1] (0, 0) _ rfl bkv Tryd.underlying25 rfl (by kernel_rfl)) rfl ?_
  exact ⟨rq1, bw_9⟩
 rw [if_neg c5] at H
 have c5b0 : (a0 == 76) = false := beq_eq_false_iff_ne.mpr c5
 have c5b1 : (a0 != 76) = true := bne_iff_ne.mpr c5
 by_cases c8 : a0 = 114
 ·rw [if_pos c8] at H
  have c8b0 : (a0 == 114) = true := beq_iff_eq.mpr c8
  have c8b1 : (a0 != 114) = false := bne_eq_false_iff_eq.mpr c8
  clear c8
  simp only [Option.some.injEq, Prod.mk.injEq] at H
  obtain ⟨rfl, rfl, rfl, rfl⟩ := H
  go_enter Tryd.func50, Tryd.ntmps50
  go_wp2_with (first | ((with_reducible refine gtD (N := 2) rfl ?_); refine bx (N := 2) (cs := #[.int .i64 0, .int .i64 0, .int .i64 0, .int .i64 0]) (t := 25) ?_; intro gb172 hg w9 hbox hb; have BK172 := Az.mk (hbox); have GW172 := gwz hg bw_9; have GE172 := gwz hg bw_9; replace HB := Az.mk (bwT bw_9 hb); clear hb hbox hg; obtain ⟨hcz10_0, hcz10_1, hcz10_2, hcz10_3, hfz10_0, hfz10_1, hfz10_2, hfz10_3⟩ := bq4 BK172))
  refine bodyPost_ret (results_cell_row rfl _ _ gb172 25 #[.int .i64 1, .int .i64 (-1), .int .i64 0, .int .i64 1] (0, 0) _ rfl bkv Tryd.underlying25 rfl (by kernel_rfl)) rfl ?_
  exact ⟨rq1, bw_9⟩
 rw [if_neg c8] at H
 have c8b0 : (a0 == 114) = false := beq_eq_false_iff_ne.mpr c8
 have c8b1 : (a0 != 114) = true := bne_iff_ne.mpr c8
 by_cases c11 : a0 = 108
 rotate_left
 ·rw [if_neg c11] at H
  have c11b0 : (a0 == 108) = false := beq_eq_false_iff_ne.mpr c11
  have c11b1 : (a0 != 108) = true := bne_iff_ne.mpr c11
  simp only [Option.some.injEq, Prod.mk.injEq] at H
  obtain ⟨rfl, rfl, rfl, rfl⟩ := H
  go_enter Tryd.func50, Tryd.ntmps50
  go_wp2_with (first | ((with_reducible refine gtD (N := 2) rfl ?_); refine bx (N := 2) (cs := #[.int .i64 0, .int .i64 0, .int .i64 0, .int .i64 0]) (t := 25) ?_; intro gb172 hg w14 hbox hb; have BK172 := Az.mk (hbox); have GW172 := gwz hg bw_9; have GE172 := gwz hg bw_9; replace HB := Az.mk (bwT bw_9 hb); clear hb hbox hg; obtain ⟨hcz15_0, hcz15_1, hcz15_2, hcz15_3, hfz15_0, hfz15_1, hfz15_2, hfz15_3⟩ := bq4 BK172))
  refine bodyPost_ret (results_cell_row rfl _ _ gb172 25 #[.int .i64 0, .int .i64 0, .int .i64 0, .int .i64 0] (0, 0) _ rfl bkv Tryd.underlying25 rfl (by kernel_rfl)) rfl ?_
  exact ⟨rq1, bw_9⟩
 rw [if_pos c11] at H
 have c11b0 : (a0 == 108) = true := beq_iff_eq.mpr c11
 have c11b1 : (a0 != 108) = false := bne_eq_false_iff_eq.mpr c11
 clear c11
 simp only [Option.some.injEq, Prod.mk.injEq] at H
 obtain ⟨rfl, rfl, rfl, rfl⟩ := H
 go_enter Tryd.func50, Tryd.ntmps50
 go_wp2_with (first | ((with_reducible refine gtD (N := 2) rfl ?_); refine bx (N := 2) (cs := #[.int .i64 0, .int .i64 0, .int .i64 0, .int .i64 0]) (t := 25) ?_; intro gb172 hg w12 hbox hb; have BK172 := Az.mk (hbox); have GW172 := gwz hg bw_9; have GE172 := gwz hg bw_9; replace HB := Az.mk (bwT bw_9 hb); clear hb hbox hg; obtain ⟨hcz13_0, hcz13_1, hcz13_2, hcz13_3, hfz13_0, hfz13_1, hfz13_2, hfz13_3⟩ := bq4 BK172))
 refine bodyPost_ret (results_cell_row rfl _ _ gb172 25 #[.int .i64 1, .int .i64 0, .int .i64 (-1), .int .i64 1] (0, 0) _ rfl bkv Tryd.underlying25 rfl (by kernel_rfl)) rfl ?_
 exact ⟨rq1, bw_9⟩

end Go.Proofs.YtnoiijdffdpabaaDoor.P
