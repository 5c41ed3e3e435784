-- By this session's driver (wip/tools/mk.py) of the kit's print program, over several statements at once. Not trusted: Lean checks it.
import Derived.Test.YtolmicnapemljaaQPx0
import Derived.Test.YtolmicnapemljaaQPx3
import Derived.Test.YtolmicnapemljaaQPx7
import Derived.Test.YtolmicnapemljaaQPx11
import Derived.Test.YtolmicnapemljaaQPx23
namespace Go.Proofs.Ytolmicnapemljaa.P
open Go.RowKit Go.Proofs.YtolmicnapemljaaW.PrintWords Go.Proofs.YtolmicnapemljaaW.PrintLast Go.Proofs.YtolmicnapemljaaW.PrintMore
attribute [local go_sem] max2_int min2_int max_two min_two max_three min_three max_four min_four   -- for this text's walks alone
set_option linter.unusedVariables false
set_option linter.unusedSimpArgs false

/-! ### spec_l15Curves: function 99 -/
mutual
def spec_l15Curves.l0 : Nat → List (List Int) → List Int → List Int → Int → Option (List Int)
 | 0, _, _, _, _ => none
 | k + 1, x0, x1, x5, x6 => if x6 < (x1.length : Int) then (spec_l15Curves.l1 k x0 x1 x5 x6 0) else (spec_l15Curves.l2 k x0 x1 x5 0)
def spec_l15Curves.l1 : Nat → List (List Int) → List Int → List Int → Int → Int → Option (List Int)
 | 0, _, _, _, _, _ => none
 | k + 1, x0, x1, x5, x6, x7 => if 0 ≤ x6 then (if x6 < (x1.length : Int) then (if x7 < (rd x1 x6) then (if x5.length < 17592186044416 then (spec_l15Curves.l1 k x0 x1 (x5 ++ [(x5.length : Int)]) x6 (wrap64 (x7 + 1))) else (none)) else (spec_l15Curves.l0 k x0 x1 x5 (wrap64 (x6 + 1)))) else (none)) else (none)
def spec_l15Curves.l2 : Nat → List (List Int) → List Int → List Int → Int → Option (List Int)
 | 0, _, _, _, _ => none
 | k + 1, x0, x1, x5, x8 => if x8 < (x0.length : Int) then (spec_l15Curves.l3 k x0 x1 x5 x8 0) else (some x5)
def spec_l15Curves.l3 : Nat → List (List Int) → List Int → List Int → Int → Int → Option (List Int)
 | 0, _, _, _, _, _ => none
 | k + 1, x0, x1, x5, x8, x9 => if x9 < 3 then (if 0 ≤ x8 then (if x8 < (x0.length : Int) then (if 0 ≤ x9 then (if x9 < ((rd_L1 x0 x8).length : Int) then (if 0 ≤ (Int.tmod (wrap64 (x9 + 1)) 3) then (if (Int.tmod (wrap64 (x9 + 1)) 3) < ((rd_L1 x0 x8).length : Int) then (spec_l15Curves.l4 k x0 x1 x5 x8 x9 (rd (rd_L1 x0 x8) x9) (rd (rd_L1 x0 x8) (Int.tmod (wrap64 (x9 + 1)) 3)) 0) else (none)) else (none)) else (none)) else (none)) else (none)) else (none)) else (spec_l15Curves.l2 k x0 x1 x5 (wrap64 (x8 + 1)))
def spec_l15Curves.l4 : Nat → List (List Int) → List Int → List Int → Int → Int → Int → Int → Int → Option (List Int)
 | 0, _, _, _, _, _, _, _, _ => none
 | k + 1, x0, x1, x5, x8, x9, x10, x11, x12 => (spec_l15Twice.f x0 x1 x8 x9).bind fun t451 => (if x12 < (wrap64 (Int.tdiv t451 2)) then ((spec_l3Abs.f x10).bind fun t452 => (if 0 ≤ (wrap64 (t452 - 1)) then (if (wrap64 (t452 - 1)) < (x1.length : Int) then ((spec_l15Point.f k x1 x10 (wrap64 ((wrap64 ((rd x1 (wrap64 (t452 - 1))) - 1)) - x12))).bind fun t454 => ((spec_l3Find.f k x5 t454).bind fun t455 => ((spec_l15Point.f k x1 x11 x12).bind fun t456 => ((spec_l3Find.f k x5 t456).bind fun t457 => (if 0 ≤ t455 then (if t455 < (x5.length : Int) then (spec_l15Curves.l4 k x0 x1 (x5.set (t455 : Int).toNat t457) x8 x9 x10 x11 (wrap64 (x12 + 1))) else (none)) else (none)))))) else (none)) else (none))) else (spec_l15Curves.l3 k x0 x1 x5 x8 (wrap64 (x9 + 1))))
end
def spec_l15Curves.f (k : Nat) (l0 : List (List Int)) (l1 : List Int) : Option (List Int) := spec_l15Curves.l0 k l0 l1 (([] : List Int)) 0
theorem spec_l15Curves.mono_l : ∀ k, (∀ y0 y1 y2 y3, LeO (spec_l15Curves.l0 k y0 y1 y2 y3) (spec_l15Curves.l0 (k + 1) y0 y1 y2 y3)) ∧ (∀ y0 y1 y2 y3 y4, LeO (spec_l15Curves.l1 k y0 y1 y2 y3 y4) (spec_l15Curves.l1 (k + 1) y0 y1 y2 y3 y4)) ∧ (∀ y0 y1 y2 y3, LeO (spec_l15Curves.l2 k y0 y1 y2 y3) (spec_l15Curves.l2 (k + 1) y0 y1 y2 y3)) ∧ (∀ y0 y1 y2 y3 y4, LeO (spec_l15Curves.l3 k y0 y1 y2 y3 y4) (spec_l15Curves.l3 (k + 1) y0 y1 y2 y3 y4)) ∧ (∀ y0 y1 y2 y3 y4 y5 y6 y7, LeO (spec_l15Curves.l4 k y0 y1 y2 y3 y4 y5 y6 y7) (spec_l15Curves.l4 (k + 1) y0 y1 y2 y3 y4 y5 y6 y7))
 | 0 => ⟨fun _ _ _ _ r h => by simp [spec_l15Curves.l0] at h, fun _ _ _ _ _ r h => by simp [spec_l15Curves.l1] at h, fun _ _ _ _ r h => by simp [spec_l15Curves.l2] at h, fun _ _ _ _ _ r h => by simp [spec_l15Curves.l3] at h, fun _ _ _ _ _ _ _ _ r h => by simp [spec_l15Curves.l4] at h⟩
 | k + 1 => by
  obtain ⟨ih0, ih1, ih2, ih3, ih4⟩ := spec_l15Curves.mono_l k
  refine ⟨?_, ?_, ?_, ?_, ?_⟩
  ·intro y0 y1 y2 y3
   unfold spec_l15Curves.l0
   repeat' first
   | (with_reducible exact ih0 _ _ _ _)
   | (with_reducible exact ih1 _ _ _ _ _)
   | (with_reducible exact ih2 _ _ _ _)
   | (with_reducible exact ih3 _ _ _ _ _)
   | (with_reducible exact ih4 _ _ _ _ _ _ _ _)
   | (with_reducible exact spec_l15Point.mono _ _ _ _)
   | (with_reducible exact spec_l3Find.mono _ _ _)
   | (with_reducible exact LeO.refl _)
   | (with_reducible exact LeO.none _)
   | (with_reducible refine LeO.ite ?_ ?_)
   | (with_reducible refine LeO.bind ?_ (fun _ => ?_))
   | exact ih0 _ _ _ _
   | exact ih1 _ _ _ _ _
   | exact ih2 _ _ _ _
   | exact ih3 _ _ _ _ _
   | exact ih4 _ _ _ _ _ _ _ _
   | exact spec_l15Point.mono _ _ _ _
   | exact spec_l3Find.mono _ _ _
   | exact LeO.none _
   | refine LeO.ite ?_ ?_
   | refine LeO.bind ?_ (fun _ => ?_)
  ·intro y0 y1 y2 y3 y4
   unfold spec_l15Curves.l1
   repeat' first
   | (with_reducible exact ih0 _ _ _ _)
   | (with_reducible exact ih1 _ _ _ _ _)
   | (with_reducible exact ih2 _ _ _ _)
   | (with_reducible exact ih3 _ _ _ _ _)
   | (with_reducible exact ih4 _ _ _ _ _ _ _ _)
   | (with_reducible exact spec_l15Point.mono _ _ _ _)
   | (with_reducible exact spec_l3Find.mono _ _ _)
   | (with_reducible exact LeO.refl _)
   | (with_reducible exact LeO.none _)
   | (with_reducible refine LeO.ite ?_ ?_)
   | (with_reducible refine LeO.bind ?_ (fun _ => ?_))
   | exact ih0 _ _ _ _
   | exact ih1 _ _ _ _ _
   | exact ih2 _ _ _ _
   | exact ih3 _ _ _ _ _
   | exact ih4 _ _ _ _ _ _ _ _
   | exact spec_l15Point.mono _ _ _ _
   | exact spec_l3Find.mono _ _ _
   | exact LeO.none _
   | refine LeO.ite ?_ ?_
   | refine LeO.bind ?_ (fun _ => ?_)
  ·intro y0 y1 y2 y3
   unfold spec_l15Curves.l2
   repeat' first
   | (with_reducible exact ih0 _ _ _ _)
   | (with_reducible exact ih1 _ _ _ _ _)
   | (with_reducible exact ih2 _ _ _ _)
   | (with_reducible exact ih3 _ _ _ _ _)
   | (with_reducible exact ih4 _ _ _ _ _ _ _ _)
   | (with_reducible exact spec_l15Point.mono _ _ _ _)
   | (with_reducible exact spec_l3Find.mono _ _ _)
   | (with_reducible exact LeO.refl _)
   | (with_reducible exact LeO.none _)
   | (with_reducible refine LeO.ite ?_ ?_)
   | (with_reducible refine LeO.bind ?_ (fun _ => ?_))
   | exact ih0 _ _ _ _
   | exact ih1 _ _ _ _ _
   | exact ih2 _ _ _ _
   | exact ih3 _ _ _ _ _
   | exact ih4 _ _ _ _ _ _ _ _
   | exact spec_l15Point.mono _ _ _ _
   | exact spec_l3Find.mono _ _ _
   | exact LeO.none _
   | refine LeO.ite ?_ ?_
   | refine LeO.bind ?_ (fun _ => ?_)
  ·intro y0 y1 y2 y3 y4
   unfold spec_l15Curves.l3
   repeat' first
   | (with_reducible exact ih0 _ _ _ _)
   | (with_reducible exact ih1 _ _ _ _ _)
   | (with_reducible exact ih2 _ _ _ _)
   | (with_reducible exact ih3 _ _ _ _ _)
   | (with_reducible exact ih4 _ _ _ _ _ _ _ _)
   | (with_reducible exact spec_l15Point.mono _ _ _ _)
   | (with_reducible exact spec_l3Find.mono _ _ _)
   | (with_reducible exact LeO.refl _)
   | (with_reducible exact LeO.none _)
   | (with_reducible refine LeO.ite ?_ ?_)
   | (with_reducible refine LeO.bind ?_ (fun _ => ?_))
   | exact ih0 _ _ _ _
   | exact ih1 _ _ _ _ _
   | exact ih2 _ _ _ _
   | exact ih3 _ _ _ _ _
   | exact ih4 _ _ _ _ _ _ _ _
   | exact spec_l15Point.mono _ _ _ _
   | exact spec_l3Find.mono _ _ _
   | exact LeO.none _
   | refine LeO.ite ?_ ?_
   | refine LeO.bind ?_ (fun _ => ?_)
  ·intro y0 y1 y2 y3 y4 y5 y6 y7
   unfold spec_l15Curves.l4
   repeat' first
   | (with_reducible exact ih0 _ _ _ _)
   | (with_reducible exact ih1 _ _ _ _ _)
   | (with_reducible exact ih2 _ _ _ _)
   | (with_reducible exact ih3 _ _ _ _ _)
   | (with_reducible exact ih4 _ _ _ _ _ _ _ _)
   | (with_reducible exact spec_l15Point.mono _ _ _ _)
   | (with_reducible exact spec_l3Find.mono _ _ _)
   | (with_reducible exact LeO.refl _)
   | (with_reducible exact LeO.none _)
   | (with_reducible refine LeO.ite ?_ ?_)
   | (with_reducible refine LeO.bind ?_ (fun _ => ?_))
   | exact ih0 _ _ _ _
   | exact ih1 _ _ _ _ _
   | exact ih2 _ _ _ _
   | exact ih3 _ _ _ _ _
   | exact ih4 _ _ _ _ _ _ _ _
   | exact spec_l15Point.mono _ _ _ _
   | exact spec_l3Find.mono _ _ _
   | exact LeO.none _
   | refine LeO.ite ?_ ?_
   | refine LeO.bind ?_ (fun _ => ?_)
theorem spec_l15Curves.mono : ∀ a0 a1 k, LeO (spec_l15Curves.f k a0 a1) (spec_l15Curves.f (k + 1) a0 a1) := by
 intro a0 a1 k
 obtain ⟨ih0, ih1, ih2, ih3, ih4⟩ := spec_l15Curves.mono_l k
 unfold spec_l15Curves.f
 repeat' first
   | (with_reducible exact ih0 _ _ _ _)
   | (with_reducible exact ih1 _ _ _ _ _)
   | (with_reducible exact ih2 _ _ _ _)
   | (with_reducible exact ih3 _ _ _ _ _)
   | (with_reducible exact ih4 _ _ _ _ _ _ _ _)
   | (with_reducible exact spec_l15Point.mono _ _ _ _)
   | (with_reducible exact spec_l3Find.mono _ _ _)
   | (with_reducible exact LeO.refl _)
   | (with_reducible exact LeO.none _)
   | (with_reducible refine LeO.ite ?_ ?_)
   | (with_reducible refine LeO.bind ?_ (fun _ => ?_))
   | exact ih0 _ _ _ _
   | exact ih1 _ _ _ _ _
   | exact ih2 _ _ _ _
   | exact ih3 _ _ _ _ _
   | exact ih4 _ _ _ _ _ _ _ _
   | exact spec_l15Point.mono _ _ _ _
   | exact spec_l3Find.mono _ _ _
   | exact LeO.none _
   | refine LeO.ite ?_ ?_
   | refine LeO.bind ?_ (fun _ => ?_)
set_option maxHeartbeats 8000000 in
set_option maxRecDepth 100000 in
theorem spec_l15Curves.calls (k : Nat) (A0 : Option Addr) (c0 : Nat) (l0 : List (List Int)) (A1 : Option Addr) (c1 : Nat) (l1 : List Int) (r : List Int) (w : World) (hr0 : Kd.C (Kd.slice 3 (Kd.int .i64)) w A0 l0.length l0) (hc0 : l0.length ≤ c0) (hr1 : Kd.C (Kd.int .i64) w A1 l1.length l1) (hc1 : l1.length ≤ c1) (h : spec_l15Curves.f k l0 l1 = some r) :
  Calls Try.prog 99 #[.slice A0 l0.length c0, .slice A1 l1.length c1] w fun e w' => ∃ v0_ : Value, e = .returned (v0_) ∧ Kd.R (Kd.int .i64) 3 w' w.heap.size (fun _ => True) v0_ r ∧ Below w.heap.size w w' := by
 have HR0 := Az.mk hr0
 have HC0 := Az.mk hc0
 clear hr0 hc0
 have HR1 := Az.mk hr1
 have HC1 := Az.mk hc1
 clear hr1 hc1
 have HB := Az.mk (Below.refl w.heap.size w)
 have H : (spec_l15Curves.l0 k l0 l1 (([] : List Int)) 0) = some r := h
 clear h
 obtain ⟨y440, hy440⟩ : ∃ y_ : List Int, y_ = (([] : List Int)) := ⟨_, rfl⟩
 replace H : (spec_l15Curves.l0 k l0 l1 y440 0) = some r := by first | (rw [hy440]; with_reducible exact H) | (have H2_ := (Option.bind_some _ _).symm.trans H; rw [hy440]; with_reducible exact H2_) | (have H2_ := (Option.bind_some _ _).symm.trans H; with_reducible exact H2_) | with_reducible exact H | (rw [hy440]; exact H) | exact H
 have Ny440 := Az.mk hy440
 clear hy440
 have H' := Az.mk H
 clear H
 go_enter Try.func99, Try.ntmps99
 go_wp2_with (first | ((with_reducible refine gtD (N := 15) rfl ?_); refine Kd.R_lit (Kd.int .i64) _ 3 ?hg (N := 15) ?hd (xs := ([] : List Int)) (inner := []) (ok := fun _ => True) (okp := fun _ => True) ?hr ?hp (fun _ hk => hk) trivial (Below.refl _ _) (Nat.le_refl _) (by simp) ?_; (case hd => rfl); (case hg => rfl); (case hr => first | (go_simp; done) | (go_simp; rfl)); (case hp => exact (Reps.none _ _)); intro v441 w3 ho4 hb hg_ hnew_; clear hg_ hnew_; (first | rw [← Ny440.out] at ho4 | (simp only [Int.reduceToNat] at ho4; rw [← Ny440.out] at ho4)); have n0_ := Az.mk (Kd.R_lower ho4 (bwZ (by repeat (first | (with_reducible first | exact HB.out | apply bwA | apply pbN | apply bwD) | exact HB.out)))); have n1_ := Az.mk (bwT (by repeat (first | (with_reducible first | exact HB.out | apply bwA | apply pbN | apply bwD) | exact HB.out)) hb); clear HB; have HO442 := n0_; have HB := n1_; clear n0_ n1_; clear hb ho4))
 go_loopg [5, 6] k (fun kq v5 v6 w' => ∃ (x5_1 : List Int) (x6_1 : Int), v6 = .int .i64 x6_1 ∧ Az (spec_l15Curves.l0 kq l0 l1 x5_1 x6_1 = some r) ∧ Az (kq ≤ k) ∧ Az (Kd.R (Kd.int .i64) 3 w' w.heap.size (fun _ => True) v5 x5_1) ∧ Az (Below w.heap.size w w'))
 case atStart => exact ⟨(y440), (0), (by first | rfl | (simp; done) | (simp [*]; done)), H', ⟨Nat.le_refl _⟩, ⟨by (with_reducible repeat (first | apply Kd.R_alloc | apply Kd.R_drewN | apply Kd.R_drew)); exact HO442.out⟩, ⟨by repeat (first | (with_reducible first | exact HB.out | apply bwA | apply pbN | apply bwD) | exact HB.out)⟩⟩
 case round =>
  clear H'
  try clear c1
  try clear p2
  obtain ⟨x5_1, x6_1, rfl, HA, HK1, HO_5, HB⟩ := hrel
  cases gk with
  | zero => exact absurd HA.out (by simp [spec_l15Curves.l0])
  | succ k1 =>
   have H := HA.out
   clear HA
   simp only [spec_l15Curves.l0] at H
   by_cases c5 : x6_1 < (l1.length : Int)
   ·rw [if_pos c5] at H
    have c5b0 : decide (x6_1 < (l1.length : Int)) = true := decide_eq_true c5
    clear c5
    have H' := Az.mk H
    clear H
    go_wp2
    go_loopg [5, 7] k1 (fun kq v5 v7 w' => ∃ (x5_2 : List Int) (x7_2 : Int), v7 = .int .i64 x7_2 ∧ Az (spec_l15Curves.l1 kq l0 l1 x5_2 x6_1 x7_2 = some r) ∧ Az (kq ≤ k1) ∧ Az (Kd.R (Kd.int .i64) 3 w' w.heap.size (fun _ => True) v5 x5_2) ∧ Az (Below w.heap.size w w'))
    case atStart => exact ⟨(x5_1), (0), (by first | rfl | (simp; done) | (simp [*]; done)), H', ⟨Nat.le_refl _⟩, ⟨by (with_reducible repeat (first | apply Kd.R_alloc | apply Kd.R_drewN | apply Kd.R_drew)); exact HO_5.out⟩, ⟨by repeat (first | (with_reducible first | exact HB.out | apply bwA | apply pbN | apply bwD) | exact HB.out)⟩⟩
    case round =>
     clear H'
     try clear c1
     try clear p2
     try clear c5
     try clear c5b0
     try clear p2
     obtain ⟨x5_2, x7_2, rfl, HA, HK2, HO_5, HB⟩ := hrel
     cases gk with
     | zero => exact absurd HA.out (by simp [spec_l15Curves.l1])
     | succ k2 =>
      have H := HA.out
      clear HA
      simp only [spec_l15Curves.l1] at H
      by_cases c6 : 0 ≤ x6_1
      ·rw [if_pos c6] at H
       have c6b0 : decide (0 ≤ x6_1) = true := decide_eq_true c6
       clear c6
       by_cases c7 : x6_1 < (l1.length : Int)
       ·rw [if_pos c7] at H
        have c7b0 : decide (x6_1 < (l1.length : Int)) = true := decide_eq_true c7
        clear c7
        by_cases c8 : x7_2 < (rd l1 x6_1)
        ·rw [if_pos c8] at H
         have c8b0 : decide (x7_2 < (rd l1 x6_1)) = true := decide_eq_true c8
         clear c8
         by_cases c9 : x5_2.length < 17592186044416
         ·rw [if_pos c9] at H
          have LMc9 := Az.mk c9
          clear c9
          obtain ⟨y444, hy444⟩ : ∃ y_ : List Int, y_ = (x5_2 ++ [(x5_2.length : Int)]) := ⟨_, rfl⟩
          replace H : (spec_l15Curves.l1 k2 l0 l1 y444 x6_1 (wrap64 (x7_2 + 1))) = some r := by first | (rw [hy444]; with_reducible exact H) | (have H2_ := (Option.bind_some _ _).symm.trans H; rw [hy444]; with_reducible exact H2_) | (have H2_ := (Option.bind_some _ _).symm.trans H; with_reducible exact H2_) | with_reducible exact H | (rw [hy444]; exact H) | exact H
          have Ny444 := Az.mk hy444
          clear hy444
          have H' := Az.mk H
          clear H
          have p443 : 0 ≤ (x6_1 : Int) := of_decide_eq_true (by first | (with_reducible assumption) | assumption)
          have q443 : x6_1 < (l1.length : Int) := of_decide_eq_true (by first | (with_reducible assumption) | assumption)
          obtain ⟨ad443, e443, hx443_0⟩ := Kd.at_int HR1.out x6_1 p443 q443
          cases e443
          replace hx443_0 := (HB.out.cell (World.block_lt_of_cell? w _ hx443_0)).trans hx443_0
          replace p443 := eq_true p443
          replace q443 := eq_true q443
          obtain ⟨Ao10, co10, eo10⟩ := Kd.R_slice HO_5.out
          subst eo10
          go_wp2_with (first | ((with_reducible refine gate_builtin (b := .append) (xs := #[.tmp 30, .tmp 33]) rfl ?_); at_builtin; refine Kd.R_append (Kd.int .i64) (w0 := w) w.heap.size rfl (.tmp 30) (.tmp 33) 24 3 (.int .i64 0) 8 rfl Try.underlying24 info3 rfl (by decide) (by omega) (.slice Ao10 x5_2.length co10) x5_2 (x5_2.length : Int) [.int .i64 (x5_2.length : Int)] (fun _ => True) (fun _ => False) rfl rfl ?aP (fun _ hk => hk.elim) ?aF ?aO ?aB ?aS ?aL ?_; (case aP => exact rfl); (case aB => exact (by repeat (first | (with_reducible first | exact HB.out | apply bwA | apply pbN | apply bwD) | exact HB.out))); (case aF => exact (fun _ _ => trivial)); (case aO => exact (by (with_reducible repeat (first | apply Kd.R_alloc | apply Kd.R_drewN | apply Kd.R_drew)); exact HO_5.out)); (case aS => exact (bwZ (by repeat (first | (with_reducible first | exact HB.out | apply bwA | apply pbN | apply bwD) | exact HB.out)))); (case aL => have := LMc9.out; omega); intro v445 w11 ho hb hg hat; rw [← Ny444.out] at ho; have n0_ := Az.mk (hb); have n1_ := Az.mk (ho); clear HB; clear HO_5; have HB := n0_; have HO446 := n1_; clear n0_ n1_; clear ho hb hg hat))
          go_roundg k2
          case measure => have := HK1.out; have := HK2.out; omega
          case rel => exact ⟨(y444), (wrap64 (x7_2 + 1)), (by first | rfl | (simp; done) | (simp [*]; done)), H', ⟨by have := HK1.out; have := HK2.out; omega⟩, ⟨by (with_reducible repeat (first | apply Kd.R_alloc | apply Kd.R_drewN | apply Kd.R_drew)); exact HO446.out⟩, ⟨by repeat (first | (with_reducible first | exact HB.out | apply bwA | apply pbN | apply bwD) | exact HB.out)⟩⟩
         ·rw [if_neg c9] at H
          exact absurd H (by simp)
        ·rw [if_neg c8] at H
         have c8b0 : decide (x7_2 < (rd l1 x6_1)) = false := decide_eq_false c8
         clear c8
         have H' := Az.mk H
         clear H
         have p443 : 0 ≤ (x6_1 : Int) := of_decide_eq_true (by first | (with_reducible assumption) | assumption)
         have q443 : x6_1 < (l1.length : Int) := of_decide_eq_true (by first | (with_reducible assumption) | assumption)
         obtain ⟨ad443, e443, hx443_0⟩ := Kd.at_int HR1.out x6_1 p443 q443
         cases e443
         replace hx443_0 := (HB.out.cell (World.block_lt_of_cell? w _ hx443_0)).trans hx443_0
         replace p443 := eq_true p443
         replace q443 := eq_true q443
         go_wp2
         go_roundg k2
         case measure => have := HK1.out; have := HK2.out; omega
         case rel => exact ⟨(x5_2), (wrap64 (x6_1 + 1)), (by first | rfl | (simp; done) | (simp [*]; done)), H', ⟨by have := HK1.out; have := HK2.out; omega⟩, ⟨by (with_reducible repeat (first | apply Kd.R_alloc | apply Kd.R_drewN | apply Kd.R_drew)); exact HO_5.out⟩, ⟨by repeat (first | (with_reducible first | exact HB.out | apply bwA | apply pbN | apply bwD) | exact HB.out)⟩⟩
       ·rw [if_neg c7] at H
        exact absurd H (by simp)
      ·rw [if_neg c6] at H
       exact absurd H (by simp)
   ·rw [if_neg c5] at H
    have c5b0 : decide (x6_1 < (l1.length : Int)) = false := decide_eq_false c5
    clear c5
    have H' := Az.mk H
    clear H
    go_wp2
    go_loopg [8] k1 (fun kq v8 w' => ∃ (x5_2 : List Int) (x8_2 : Int), v8 = .int .i64 x8_2 ∧ Az (spec_l15Curves.l2 kq l0 l1 x5_2 x8_2 = some r) ∧ Az (kq ≤ k1) ∧ Az (Kd.R (Kd.int .i64) 3 w' w.heap.size (fun _ => True) u5 x5_2) ∧ Az (Below w.heap.size w w'))
    case atStart => exact ⟨(x5_1), (0), (by first | rfl | (simp; done) | (simp [*]; done)), H', ⟨Nat.le_refl _⟩, ⟨by (with_reducible repeat (first | apply Kd.R_alloc | apply Kd.R_drewN | apply Kd.R_drew)); exact HO_5.out⟩, ⟨by repeat (first | (with_reducible first | exact HB.out | apply bwA | apply pbN | apply bwD) | exact HB.out)⟩⟩
    case round =>
     clear H'
     try clear c1
     try clear p2
     try clear p4
     try clear q4
     try clear hx4
     try clear c5
     try clear c5b0
     try clear c6
     try clear c6b0
     try clear p6
     try clear c7
     try clear c7b0
     try clear c8
     try clear c8b0
     try clear c9
     try clear hx443_0
     try clear p2
     try clear p443
     try clear q443
     obtain ⟨x5_2, x8_2, rfl, HA, HK2, HO_5, HB⟩ := hrel
     cases gk with
     | zero => exact absurd HA.out (by simp [spec_l15Curves.l2])
     | succ k2 =>
      have H := HA.out
      clear HA
      simp only [spec_l15Curves.l2] at H
      by_cases c12 : x8_2 < (l0.length : Int)
      ·rw [if_pos c12] at H
       have c12b0 : decide (x8_2 < (l0.length : Int)) = true := decide_eq_true c12
       clear c12
       have H' := Az.mk H
       clear H
       go_wp2
       go_loopg [9] k2 (fun kq v9 w' => ∃ (x5_3 : List Int) (x9_3 : Int), v9 = .int .i64 x9_3 ∧ Az (spec_l15Curves.l3 kq l0 l1 x5_3 x8_2 x9_3 = some r) ∧ Az (kq ≤ k2) ∧ Az (Kd.R (Kd.int .i64) 3 w' w.heap.size (fun _ => True) u5 x5_3) ∧ Az (Below w.heap.size w w'))
       case atStart => exact ⟨(x5_2), (0), (by first | rfl | (simp; done) | (simp [*]; done)), H', ⟨Nat.le_refl _⟩, ⟨by (with_reducible repeat (first | apply Kd.R_alloc | apply Kd.R_drewN | apply Kd.R_drew)); exact HO_5.out⟩, ⟨by repeat (first | (with_reducible first | exact HB.out | apply bwA | apply pbN | apply bwD) | exact HB.out)⟩⟩
       case round =>
        clear H'
        try clear c1
        try clear p2
        try clear p4
        try clear q4
        try clear hx4
        try clear c5
        try clear c5b0
        try clear c6
        try clear c6b0
        try clear p6
        try clear c7
        try clear c7b0
        try clear c8
        try clear c8b0
        try clear c9
        try clear c12
        try clear c12b0
        try clear hx443_0
        try clear p2
        try clear p4
        try clear p443
        try clear p6
        try clear q4
        try clear q443
        obtain ⟨x5_3, x9_3, rfl, HA, HK3, HO_5, HB⟩ := hrel
        cases gk with
        | zero => exact absurd HA.out (by simp [spec_l15Curves.l3])
        | succ k3 =>
         have H := HA.out
         clear HA
         simp only [spec_l15Curves.l3] at H
         by_cases c13 : x9_3 < 3
         ·rw [if_pos c13] at H
          have c13b0 : decide (x9_3 < 3) = true := decide_eq_true c13
          clear c13
          by_cases c14 : 0 ≤ x8_2
          ·rw [if_pos c14] at H
           have c14b0 : decide (0 ≤ x8_2) = true := decide_eq_true c14
           clear c14
           by_cases c15 : x8_2 < (l0.length : Int)
           ·rw [if_pos c15] at H
            have c15b0 : decide (x8_2 < (l0.length : Int)) = true := decide_eq_true c15
            clear c15
            by_cases c16 : 0 ≤ x9_3
            ·rw [if_pos c16] at H
             have c16b0 : decide (0 ≤ x9_3) = true := decide_eq_true c16
             clear c16
             by_cases c17 : x9_3 < ((rd_L1 l0 x8_2).length : Int)
             ·rw [if_pos c17] at H
              have c17b0 : decide (x9_3 < ((rd_L1 l0 x8_2).length : Int)) = true := decide_eq_true c17
              clear c17
              obtain ⟨ji18, hji18⟩ : ∃ j_ : Int, (Int.tmod (wrap64 (x9_3 + 1)) 3) = j_ := ⟨_, rfl⟩
              replace H : (if 0 ≤ (ji18) then (if (ji18) < ((rd_L1 l0 x8_2).length : Int) then (spec_l15Curves.l4 k3 l0 l1 x5_3 x8_2 x9_3 (rd (rd_L1 l0 x8_2) x9_3) (rd (rd_L1 l0 x8_2) (ji18)) 0) else (none)) else (none)) = some r := by first | (rw [hji18] at H; exact H) | (simp only [hji18] at H ⊢; exact H)
              by_cases c19 : 0 ≤ (ji18)
              ·rw [if_pos c19] at H
               have c19b0 : decide (0 ≤ (ji18)) = true := decide_eq_true c19
               clear c19
               by_cases c20 : (ji18) < ((rd_L1 l0 x8_2).length : Int)
               ·rw [if_pos c20] at H
                have c20b0 : decide ((ji18) < ((rd_L1 l0 x8_2).length : Int)) = true := decide_eq_true c20
                clear c20
                have H' := Az.mk H
                clear H
                have p447 : 0 ≤ (x8_2 : Int) := of_decide_eq_true (by first | (with_reducible assumption) | assumption)
                have q447 : x8_2 < (l0.length : Int) := of_decide_eq_true (by first | (with_reducible assumption) | assumption)
                obtain ⟨ad447, A447_0, c447_0, e447, hx447_0, hl447_0, hi447_0⟩ := at_L1 HR0.out x8_2 p447 q447
                cases e447
                replace hx447_0 := (HB.out.cell (World.block_lt_of_cell? w _ hx447_0)).trans hx447_0
                have HR447_0 := Az.mk hi447_0
                have HC447_0 := Az.mk hl447_0
                clear hi447_0 hl447_0
                replace p447 := eq_true p447
                replace q447 := eq_true q447
                have p448 : 0 ≤ (x9_3 : Int) := of_decide_eq_true (by first | (with_reducible assumption) | assumption)
                have q448 : x9_3 < ((rd_L1 l0 x8_2).length : Int) := of_decide_eq_true (by first | (with_reducible assumption) | assumption)
                obtain ⟨ad448, e448, hx448_0⟩ := Kd.at_int HR447_0.out x9_3 p448 q448
                cases e448
                replace hx448_0 := (HB.out.cell (World.block_lt_of_cell? w _ hx448_0)).trans hx448_0
                replace p448 := eq_true p448
                replace q448 := eq_true q448
                have p449 : 0 ≤ (x8_2 : Int) := of_decide_eq_true (by first | (with_reducible assumption) | assumption)
                have q449 : x8_2 < (l0.length : Int) := of_decide_eq_true (by first | (with_reducible assumption) | assumption)
                obtain ⟨ad449, A449_0, c449_0, e449, hx449_0, hl449_0, hi449_0⟩ := at_L1 HR0.out x8_2 p449 q449
                obtain rfl : ad447 = ad449 := (by injection e449)
                replace hx449_0 := (HB.out.cell (World.block_lt_of_cell? w _ hx449_0)).trans hx449_0
                have HR449_0 := Az.mk hi449_0
                have HC449_0 := Az.mk hl449_0
                clear hi449_0 hl449_0
                replace p449 := eq_true p449
                replace q449 := eq_true q449
                have ea_ := Option.some.inj (hx447_0.symm.trans hx449_0)
                injection ea_ with ea_ en_ ec_
                subst ea_
                subst ec_
                clear en_
                have p450 : 0 ≤ ((ji18) : Int) := of_decide_eq_true (by first | (with_reducible assumption) | assumption)
                have q450 : (ji18) < ((rd_L1 l0 x8_2).length : Int) := of_decide_eq_true (by first | (with_reducible assumption) | assumption)
                obtain ⟨ad450, e450, hx450_0⟩ := Kd.at_int HR449_0.out (ji18) p450 q450
                cases e450
                replace hx450_0 := (HB.out.cell (World.block_lt_of_cell? w _ hx450_0)).trans hx450_0
                replace p450 := eq_true p450
                replace q450 := eq_true q450
                go_wp2
                go_loopg [12] k3 (fun kq v12 w' => ∃ (x5_4 : List Int) (x12_4 : Int), v12 = .int .i64 x12_4 ∧ Az (spec_l15Curves.l4 kq l0 l1 x5_4 x8_2 x9_3 (rd (rd_L1 l0 x8_2) x9_3) (rd (rd_L1 l0 x8_2) (ji18)) x12_4 = some r) ∧ Az (kq ≤ k3) ∧ Az (Kd.R (Kd.int .i64) 3 w' w.heap.size (fun _ => True) u5 x5_4) ∧ Az (Below w.heap.size w w'))
                case atStart => exact ⟨(x5_3), (0), (by first | rfl | (simp; done) | (simp [*]; done)), H', ⟨Nat.le_refl _⟩, ⟨by (with_reducible repeat (first | apply Kd.R_alloc | apply Kd.R_drewN | apply Kd.R_drew)); exact HO_5.out⟩, ⟨by repeat (first | (with_reducible first | exact HB.out | apply bwA | apply pbN | apply bwD) | exact HB.out)⟩⟩
                case round =>
                 clear H'
                 try clear c1
                 try clear c2
                 try clear p2
                 try clear c4
                 try clear p4
                 try clear q4
                 try clear hx4
                 try clear c5
                 try clear c5b0
                 try clear c6
                 try clear c6b0
                 try clear p6
                 try clear c7
                 try clear c7b0
                 try clear c8
                 try clear c8b0
                 try clear c9
                 try clear c12
                 try clear c12b0
                 try clear c13
                 try clear c13b0
                 try clear c14
                 try clear c14b0
                 try clear c15
                 try clear c15b0
                 try clear c16
                 try clear c16b0
                 try clear c17
                 try clear c17b0
                 try clear c19
                 try clear c19b0
                 try clear c20
                 try clear c20b0
                 try clear hx443_0
                 try clear hx447_0
                 try clear hx448_0
                 try clear hx449_0
                 try clear hx450_0
                 try clear p2
                 try clear p4
                 try clear p443
                 try clear p447
                 try clear p448
                 try clear p449
                 try clear p450
                 try clear p6
                 try clear q4
                 try clear q443
                 try clear q447
                 try clear q448
                 try clear q449
                 try clear q450
                 obtain ⟨x5_4, x12_4, rfl, HA, HK4, HO_5, HB⟩ := hrel
                 cases gk with
                 | zero => exact absurd HA.out (by simp [spec_l15Curves.l4])
                 | succ k4 =>
                  have H := HA.out
                  clear HA
                  simp only [spec_l15Curves.l4] at H
                  replace H := Option.bind_eq_some_iff.mp H
                  obtain ⟨t451, A210, H⟩ := H
                  replace H : (if x12_4 < (wrap64 (Int.tdiv t451 2)) then ((spec_l3Abs.f (rd (rd_L1 l0 x8_2) x9_3)).bind fun t452 => (if 0 ≤ (wrap64 (t452 - 1)) then (if (wrap64 (t452 - 1)) < (l1.length : Int) then ((spec_l15Point.f k4 l1 (rd (rd_L1 l0 x8_2) x9_3) (wrap64 ((wrap64 ((rd l1 (wrap64 (t452 - 1))) - 1)) - x12_4))).bind fun t454 => ((spec_l3Find.f k4 x5_4 t454).bind fun t455 => ((spec_l15Point.f k4 l1 (rd (rd_L1 l0 x8_2) (ji18)) x12_4).bind fun t456 => ((spec_l3Find.f k4 x5_4 t456).bind fun t457 => (if 0 ≤ t455 then (if t455 < (x5_4.length : Int) then (spec_l15Curves.l4 k4 l0 l1 (x5_4.set (t455 : Int).toNat t457) x8_2 x9_3 (rd (rd_L1 l0 x8_2) x9_3) (rd (rd_L1 l0 x8_2) (ji18)) (wrap64 (x12_4 + 1))) else (none)) else (none)))))) else (none)) else (none))) else (spec_l15Curves.l3 k4 l0 l1 x5_4 x8_2 (wrap64 (x9_3 + 1)))) = some r := H
                  have A21 := Az.mk A210
                  clear A210
                  by_cases c22 : x12_4 < (wrap64 (Int.tdiv t451 2))
                  ·rw [if_pos c22] at H
                   have c22b0 : decide (x12_4 < (wrap64 (Int.tdiv t451 2))) = true := decide_eq_true c22
                   clear c22
                   replace H := Option.bind_eq_some_iff.mp H
                   obtain ⟨t452, A230, H⟩ := H
                   replace H : (if 0 ≤ (wrap64 (t452 - 1)) then (if (wrap64 (t452 - 1)) < (l1.length : Int) then ((spec_l15Point.f k4 l1 (rd (rd_L1 l0 x8_2) x9_3) (wrap64 ((wrap64 ((rd l1 (wrap64 (t452 - 1))) - 1)) - x12_4))).bind fun t454 => ((spec_l3Find.f k4 x5_4 t454).bind fun t455 => ((spec_l15Point.f k4 l1 (rd (rd_L1 l0 x8_2) (ji18)) x12_4).bind fun t456 => ((spec_l3Find.f k4 x5_4 t456).bind fun t457 => (if 0 ≤ t455 then (if t455 < (x5_4.length : Int) then (spec_l15Curves.l4 k4 l0 l1 (x5_4.set (t455 : Int).toNat t457) x8_2 x9_3 (rd (rd_L1 l0 x8_2) x9_3) (rd (rd_L1 l0 x8_2) (ji18)) (wrap64 (x12_4 + 1))) else (none)) else (none)))))) else (none)) else (none)) = some r := H
                   have A23 := Az.mk A230
                   clear A230
                   obtain ⟨ji24, hji24⟩ : ∃ j_ : Int, (wrap64 (t452 - 1)) = j_ := ⟨_, rfl⟩
                   replace H : (if 0 ≤ (ji24) then (if (ji24) < (l1.length : Int) then ((spec_l15Point.f k4 l1 (rd (rd_L1 l0 x8_2) x9_3) (wrap64 ((wrap64 ((rd l1 (ji24)) - 1)) - x12_4))).bind fun t454 => ((spec_l3Find.f k4 x5_4 t454).bind fun t455 => ((spec_l15Point.f k4 l1 (rd (rd_L1 l0 x8_2) (ji18)) x12_4).bind fun t456 => ((spec_l3Find.f k4 x5_4 t456).bind fun t457 => (if 0 ≤ t455 then (if t455 < (x5_4.length : Int) then (spec_l15Curves.l4 k4 l0 l1 (x5_4.set (t455 : Int).toNat t457) x8_2 x9_3 (rd (rd_L1 l0 x8_2) x9_3) (rd (rd_L1 l0 x8_2) (ji18)) (wrap64 (x12_4 + 1))) else (none)) else (none)))))) else (none)) else (none)) = some r := by first | (rw [hji24] at H; exact H) | (simp only [hji24] at H ⊢; exact H)
                   (try rw [hji24] at A21)
                   (try rw [hji24] at A23)
                   have hji24w : (IntKind.i64.wrap (t452 - 1)) = ji24 := (i64_w _).trans hji24
                   by_cases c25 : 0 ≤ (ji24)
                   ·rw [if_pos c25] at H
                    have c25b0 : decide (0 ≤ (ji24)) = true := decide_eq_true c25
                    clear c25
                    by_cases c26 : (ji24) < (l1.length : Int)
                    ·rw [if_pos c26] at H
                     have c26b0 : decide ((ji24) < (l1.length : Int)) = true := decide_eq_true c26
                     clear c26
                     replace H := Option.bind_eq_some_iff.mp H
                     obtain ⟨t454, A270, H⟩ := H
                     replace H : ((spec_l3Find.f k4 x5_4 t454).bind fun t455 => ((spec_l15Point.f k4 l1 (rd (rd_L1 l0 x8_2) (ji18)) x12_4).bind fun t456 => ((spec_l3Find.f k4 x5_4 t456).bind fun t457 => (if 0 ≤ t455 then (if t455 < (x5_4.length : Int) then (spec_l15Curves.l4 k4 l0 l1 (x5_4.set (t455 : Int).toNat t457) x8_2 x9_3 (rd (rd_L1 l0 x8_2) x9_3) (rd (rd_L1 l0 x8_2) (ji18)) (wrap64 (x12_4 + 1))) else (none)) else (none))))) = some r := H
                     have A27 := Az.mk A270
                     clear A270
                     replace H := Option.bind_eq_some_iff.mp H
                     obtain ⟨t455, A280, H⟩ := H
                     replace H : ((spec_l15Point.f k4 l1 (rd (rd_L1 l0 x8_2) (ji18)) x12_4).bind fun t456 => ((spec_l3Find.f k4 x5_4 t456).bind fun t457 => (if 0 ≤ t455 then (if t455 < (x5_4.length : Int) then (spec_l15Curves.l4 k4 l0 l1 (x5_4.set (t455 : Int).toNat t457) x8_2 x9_3 (rd (rd_L1 l0 x8_2) x9_3) (rd (rd_L1 l0 x8_2) (ji18)) (wrap64 (x12_4 + 1))) else (none)) else (none)))) = some r := H
                     have A28 := Az.mk A280
                     clear A280
                     replace H := Option.bind_eq_some_iff.mp H
                     obtain ⟨t456, A290, H⟩ := H
                     replace H : ((spec_l3Find.f k4 x5_4 t456).bind fun t457 => (if 0 ≤ t455 then (if t455 < (x5_4.length : Int) then (spec_l15Curves.l4 k4 l0 l1 (x5_4.set (t455 : Int).toNat t457) x8_2 x9_3 (rd (rd_L1 l0 x8_2) x9_3) (rd (rd_L1 l0 x8_2) (ji18)) (wrap64 (x12_4 + 1))) else (none)) else (none))) = some r := H
                     have A29 := Az.mk A290
                     clear A290
                     replace H := Option.bind_eq_some_iff.mp H
                     obtain ⟨t457, A300, H⟩ := H
                     replace H : (if 0 ≤ t455 then (if t455 < (x5_4.length : Int) then (spec_l15Curves.l4 k4 l0 l1 (x5_4.set (t455 : Int).toNat t457) x8_2 x9_3 (rd (rd_L1 l0 x8_2) x9_3) (rd (rd_L1 l0 x8_2) (ji18)) (wrap64 (x12_4 + 1))) else (none)) else (none)) = some r := H
                     have A30 := Az.mk A300
                     clear A300
                     by_cases c31 : 0 ≤ t455
                     ·rw [if_pos c31] at H
                      have c31b0 : decide (0 ≤ t455) = true := decide_eq_true c31
                      clear c31
                      by_cases c32 : t455 < (x5_4.length : Int)
                      ·rw [if_pos c32] at H
                       have c32b0 : decide (t455 < (x5_4.length : Int)) = true := decide_eq_true c32
                       clear c32
                       obtain ⟨y458, hy458⟩ : ∃ y_ : List Int, y_ = (x5_4.set (t455 : Int).toNat t457) := ⟨_, rfl⟩
                       replace H : (spec_l15Curves.l4 k4 l0 l1 y458 x8_2 x9_3 (rd (rd_L1 l0 x8_2) x9_3) (rd (rd_L1 l0 x8_2) (ji18)) (wrap64 (x12_4 + 1))) = some r := by first | (rw [hy458]; with_reducible exact H) | (have H2_ := (Option.bind_some _ _).symm.trans H; rw [hy458]; with_reducible exact H2_) | (have H2_ := (Option.bind_some _ _).symm.trans H; with_reducible exact H2_) | with_reducible exact H | (rw [hy458]; exact H) | exact H
                       have Ny458 := Az.mk hy458
                       clear hy458
                       have H' := Az.mk H
                       clear H
                       go_wp2_with (first | ((with_reducible refine gtC (f := 114) rfl ?_); refine goesL_ (some 66) rfl rfl Try.func114 (by kernel_rfl) rfl #[.slice (some ad447) l0.length c0, .slice A1 l1.length c1, .int .i64 x8_2, .int .i64 x9_3] rfl (by (try simp only [List.map_toArray, List.map_cons, List.map_nil]); first | done | rfl | (simp only [List.length_drop, List.length_take]; rfl)) ?_; (with_reducible refine (spec_l15Twice.calls _ _ l0 _ _ l1 x8_2 x9_3 t451 _ ?side1 ?side2 ?side3 ?side4 A21.out).mono ?_); (case side1 => repeat (first | exact (Kd.C_below HR0.out HB.out) | (with_reducible refine Kd.C_alloc ?_ _) | (with_reducible refine Kd.C_drewN ?_ _) | (with_reducible refine Kd.C_drew ?_))); (case side2 => exact HC0.out); (case side3 => repeat (first | exact (Kd.C_below HR1.out HB.out) | (with_reducible refine Kd.C_alloc ?_ _) | (with_reducible refine Kd.C_drewN ?_ _) | (with_reducible refine Kd.C_drew ?_))); (case side4 => exact HC1.out); rintro e w' ⟨rfl, ⟨nd, rfl⟩⟩; refine ⟨_, rfl, ?_⟩; (try (rw [drewN_self wr]; generalize hq_ : World.drewN wr _ = wr; have n0_ : Az (Kd.R (Kd.int .i64) 3 wr w.heap.size (fun _ => True) u5 x5_4) := ⟨by rw [← hq_]; exact (by (with_reducible repeat (first | apply Kd.R_alloc | apply Kd.R_drewN | apply Kd.R_drew)); exact HO_5.out)⟩; have n1_ : Az (Below w.heap.size w wr) := ⟨by rw [← hq_]; exact (by repeat (first | (with_reducible first | exact HB.out | apply bwA | apply pbN | apply bwD) | exact HB.out))⟩; clear HO_5 HB hq_; have HO_5 := n0_; have HB := n1_; clear n0_ n1_))) | ((with_reducible refine gtC (f := 83) rfl ?_); refine goesL_ (some 76) rfl rfl Try.func83 (by kernel_rfl) rfl #[.int .i64 (rd (rd_L1 l0 x8_2) x9_3)] rfl (by (try simp only [List.map_toArray, List.map_cons, List.map_nil]); first | done | rfl | (simp only [List.length_drop, List.length_take]; rfl)) ?_; (with_reducible refine (spec_l3Abs.calls (rd (rd_L1 l0 x8_2) x9_3) t452 _ A23.out).mono ?_); rintro e w' ⟨rfl, ⟨nd, rfl⟩⟩; refine ⟨_, rfl, ?_⟩; (try (rw [drewN_self wr]; generalize hq_ : World.drewN wr _ = wr; have n0_ : Az (Kd.R (Kd.int .i64) 3 wr w.heap.size (fun _ => True) u5 x5_4) := ⟨by rw [← hq_]; exact (by (with_reducible repeat (first | apply Kd.R_alloc | apply Kd.R_drewN | apply Kd.R_drew)); exact HO_5.out)⟩; have n1_ : Az (Below w.heap.size w wr) := ⟨by rw [← hq_]; exact (by repeat (first | (with_reducible first | exact HB.out | apply bwA | apply pbN | apply bwD) | exact HB.out))⟩; clear HO_5 HB hq_; have HO_5 := n0_; have HB := n1_; clear n0_ n1_)); have p453 : 0 ≤ ((ji24) : Int) := of_decide_eq_true (by first | (with_reducible assumption) | assumption); have q453 : (ji24) < (l1.length : Int) := of_decide_eq_true (by first | (with_reducible assumption) | assumption); obtain ⟨ad453, e453, hx453_0⟩ := Kd.at_int HR1.out (ji24) p453 q453; cases e453; replace hx453_0 := (HB.out.cell (World.block_lt_of_cell? w _ hx453_0)).trans hx453_0; replace p453 := eq_true p453; replace q453 := eq_true q453) | ((with_reducible refine gtC (f := 132) rfl ?_); refine goesL_ (some 83) rfl rfl Try.func132 (by kernel_rfl) rfl #[.slice (some ad453) l1.length c1, .int .i64 (rd (rd_L1 l0 x8_2) x9_3), .int .i64 (wrap64 ((wrap64 ((rd l1 (ji24)) - 1)) - x12_4))] rfl (by (try simp only [List.map_toArray, List.map_cons, List.map_nil]); first | done | (simp only [hji24]; rfl) | rfl | (simp only [List.length_drop, List.length_take]; rfl)) ?_; (with_reducible refine (spec_l15Point.calls k4 _ _ l1 (rd (rd_L1 l0 x8_2) x9_3) (wrap64 ((wrap64 ((rd l1 (ji24)) - 1)) - x12_4)) t454 _ ?side1 ?side2 A27.out).mono ?_); (case side1 => repeat (first | exact (Kd.C_below HR1.out HB.out) | (with_reducible refine Kd.C_alloc ?_ _) | (with_reducible refine Kd.C_drewN ?_ _) | (with_reducible refine Kd.C_drew ?_))); (case side2 => exact HC1.out); rintro e w' ⟨rfl, ⟨nd, rfl⟩⟩; refine ⟨_, rfl, ?_⟩; (try (rw [drewN_self wr]; generalize hq_ : World.drewN wr _ = wr; have n0_ : Az (Kd.R (Kd.int .i64) 3 wr w.heap.size (fun _ => True) u5 x5_4) := ⟨by rw [← hq_]; exact (by (with_reducible repeat (first | apply Kd.R_alloc | apply Kd.R_drewN | apply Kd.R_drew)); exact HO_5.out)⟩; have n1_ : Az (Below w.heap.size w wr) := ⟨by rw [← hq_]; exact (by repeat (first | (with_reducible first | exact HB.out | apply bwA | apply pbN | apply bwD) | exact HB.out))⟩; clear HO_5 HB hq_; have HO_5 := n0_; have HB := n1_; clear n0_ n1_)); obtain ⟨Ao34, co34, eo34⟩ := Kd.R_slice HO_5.out; subst eo34) | ((with_reducible refine gtC (f := 100) rfl ?_); refine goesL_ (some 84) rfl rfl Try.func100 (by kernel_rfl) rfl #[.slice Ao34 x5_4.length co34, .int .i64 t454] rfl (by (try simp only [List.map_toArray, List.map_cons, List.map_nil]); first | done | rfl | (simp only [List.length_drop, List.length_take]; rfl)) ?_; (with_reducible refine (spec_l3Find.calls k4 _ _ x5_4 t454 t455 _ ?side1 ?side2 A28.out).mono ?_); (case side1 => repeat (first | exact (Kd.R_reads' HO_5.out).2.2 | (with_reducible refine Kd.C_alloc ?_ _) | (with_reducible refine Kd.C_drewN ?_ _) | (with_reducible refine Kd.C_drew ?_))); (case side2 => exact (Kd.R_reads' HO_5.out).2.1); rintro e w' ⟨rfl, ⟨nd, rfl⟩⟩; refine ⟨_, rfl, ?_⟩; (try (rw [drewN_self wr]; generalize hq_ : World.drewN wr _ = wr; have n0_ : Az (Kd.R (Kd.int .i64) 3 wr w.heap.size (fun _ => True) (.slice Ao34 x5_4.length co34) x5_4) := ⟨by rw [← hq_]; exact (by (with_reducible repeat (first | apply Kd.R_alloc | apply Kd.R_drewN | apply Kd.R_drew)); exact HO_5.out)⟩; have n1_ : Az (Below w.heap.size w wr) := ⟨by rw [← hq_]; exact (by repeat (first | (with_reducible first | exact HB.out | apply bwA | apply pbN | apply bwD) | exact HB.out))⟩; clear HO_5 HB hq_; have HO_5 := n0_; have HB := n1_; clear n0_ n1_))) | ((with_reducible refine gtC (f := 132) rfl ?_); refine goesL_ (some 89) rfl rfl Try.func132 (by kernel_rfl) rfl #[.slice (some ad453) l1.length c1, .int .i64 (rd (rd_L1 l0 x8_2) (ji18)), .int .i64 x12_4] rfl (by (try simp only [List.map_toArray, List.map_cons, List.map_nil]); first | done | (simp only [hji18]; rfl) | rfl | (simp only [List.length_drop, List.length_take]; rfl)) ?_; (with_reducible refine (spec_l15Point.calls k4 _ _ l1 (rd (rd_L1 l0 x8_2) (ji18)) x12_4 t456 _ ?side1 ?side2 A29.out).mono ?_); (case side1 => repeat (first | exact (Kd.C_below HR1.out HB.out) | (with_reducible refine Kd.C_alloc ?_ _) | (with_reducible refine Kd.C_drewN ?_ _) | (with_reducible refine Kd.C_drew ?_))); (case side2 => exact HC1.out); rintro e w' ⟨rfl, ⟨nd, rfl⟩⟩; refine ⟨_, rfl, ?_⟩; (try (rw [drewN_self wr]; generalize hq_ : World.drewN wr _ = wr; have n0_ : Az (Kd.R (Kd.int .i64) 3 wr w.heap.size (fun _ => True) (.slice Ao34 x5_4.length co34) x5_4) := ⟨by rw [← hq_]; exact (by (with_reducible repeat (first | apply Kd.R_alloc | apply Kd.R_drewN | apply Kd.R_drew)); exact HO_5.out)⟩; have n1_ : Az (Below w.heap.size w wr) := ⟨by rw [← hq_]; exact (by repeat (first | (with_reducible first | exact HB.out | apply bwA | apply pbN | apply bwD) | exact HB.out))⟩; clear HO_5 HB hq_; have HO_5 := n0_; have HB := n1_; clear n0_ n1_))) | ((with_reducible refine gtC (f := 100) rfl ?_); refine goesL_ (some 90) rfl rfl Try.func100 (by kernel_rfl) rfl #[.slice Ao34 x5_4.length co34, .int .i64 t456] rfl (by (try simp only [List.map_toArray, List.map_cons, List.map_nil]); first | done | rfl | (simp only [List.length_drop, List.length_take]; rfl)) ?_; (with_reducible refine (spec_l3Find.calls k4 _ _ x5_4 t456 t457 _ ?side1 ?side2 A30.out).mono ?_); (case side1 => repeat (first | exact (Kd.R_reads' HO_5.out).2.2 | (with_reducible refine Kd.C_alloc ?_ _) | (with_reducible refine Kd.C_drewN ?_ _) | (with_reducible refine Kd.C_drew ?_))); (case side2 => exact (Kd.R_reads' HO_5.out).2.1); rintro e w' ⟨rfl, ⟨nd, rfl⟩⟩; refine ⟨_, rfl, ?_⟩; (try (rw [drewN_self wr]; generalize hq_ : World.drewN wr _ = wr; have n0_ : Az (Kd.R (Kd.int .i64) 3 wr w.heap.size (fun _ => True) (.slice Ao34 x5_4.length co34) x5_4) := ⟨by rw [← hq_]; exact (by (with_reducible repeat (first | apply Kd.R_alloc | apply Kd.R_drewN | apply Kd.R_drew)); exact HO_5.out)⟩; have n1_ : Az (Below w.heap.size w wr) := ⟨by rw [← hq_]; exact (by repeat (first | (with_reducible first | exact HB.out | apply bwA | apply pbN | apply bwD) | exact HB.out))⟩; clear HO_5 HB hq_; have HO_5 := n0_; have HB := n1_; clear n0_ n1_)); have p33 : 0 ≤ (t455 : Int) := of_decide_eq_true (by first | (with_reducible assumption) | assumption); have q33 : (t455 : Int) < ((x5_4.length : Int) : Int) := of_decide_eq_true (by first | (with_reducible assumption) | assumption); obtain ⟨go33, co33, eo33, gb33, gl33, cl33, HG33⟩ := Kd.R_form HO_5.out (by omega); (first | cases eo33 | (injection eo33 with ea_ en_ ec_; (first | subst ea_ | (injection ea_ with ea_; subst ea_)); subst ec_; clear en_)); have GB33 := Az.mk gb33; have GG33 := Az.mk HG33; clear gb33 gl33 HG33; obtain ⟨hx33_0, hf33_0⟩ := Kd.R_celln 0 HO_5.out (t455 : Int) p33 q33; replace p33 := eq_true p33; replace q33 := eq_true q33; obtain ⟨hy35_, hz35_⟩ := Kd.R_celln 0 HO_5.out (t455 : Int) (of_decide_eq_true (by first | (with_reducible assumption) | assumption)) (of_decide_eq_true (by first | (with_reducible assumption) | assumption)); have HP35 := Kd.R_putg HO_5.out (t455 : Int) t457) | ((with_reducible refine gate_store (t := 3) (p := 94) rfl ?_); refine store_event (t := 3) (p := 94) (v := ?vo_w36) (w1 := (wr.setCell ⟨go33, (t455 : Int).toNat, none⟩ (.int .i64 t457))) ?hg ?ho ?hn ?hr ?_; (case ho => rfl); (case hg => rfl); (case hn => rfl); (case hr => first | (go_simp; done) | (go_simp; rfl)); intro w36 hw; have hg : wr.grownBy w36 (some go33) := (by rw [hw]; exact HP35.2); have hp_ : Kd.R (Kd.int .i64) 3 w36 w.heap.size (fun _ => True) (.slice (some ⟨go33, 0, none⟩) x5_4.length co34) y458 := (by rw [hw, Ny458.out]; exact HP35.1); clear HP35; have n0_ := Az.mk (hp_); have n1_ := Az.mk ((by rw [hw]; exact bwS (HB.out) GB33.out : Below w.heap.size w w36)); clear HO_5; clear HB; have HO_5 := n0_; have HB := n1_; clear n0_ n1_; clear hg hw hp_))
                       go_roundg k4
                       case measure => have := HK1.out; have := HK2.out; have := HK3.out; have := HK4.out; omega
                       case rel => exact ⟨(y458), (wrap64 (x12_4 + 1)), (by first | rfl | (simp; done) | (simp [*]; done)), H', ⟨by have := HK1.out; have := HK2.out; have := HK3.out; have := HK4.out; omega⟩, ⟨by (with_reducible repeat (first | apply Kd.R_alloc | apply Kd.R_drewN | apply Kd.R_drew)); exact HO_5.out⟩, ⟨by repeat (first | (with_reducible first | exact HB.out | apply bwA | apply pbN | apply bwD) | exact HB.out)⟩⟩
                      ·rw [if_neg c32] at H
                       exact absurd H (by simp)
                     ·rw [if_neg c31] at H
                      exact absurd H (by simp)
                    ·rw [if_neg c26] at H
                     exact absurd H (by simp)
                   ·rw [if_neg c25] at H
                    exact absurd H (by simp)
                  ·rw [if_neg c22] at H
                   have c22b0 : decide (x12_4 < (wrap64 (Int.tdiv t451 2))) = false := decide_eq_false c22
                   clear c22
                   have H' := Az.mk H
                   clear H
                   go_wp2_with (first | ((with_reducible refine gtC (f := 114) rfl ?_); refine goesL_ (some 66) rfl rfl Try.func114 (by kernel_rfl) rfl #[.slice (some ad447) l0.length c0, .slice A1 l1.length c1, .int .i64 x8_2, .int .i64 x9_3] rfl (by (try simp only [List.map_toArray, List.map_cons, List.map_nil]); first | done | rfl | (simp only [List.length_drop, List.length_take]; rfl)) ?_; (with_reducible refine (spec_l15Twice.calls _ _ l0 _ _ l1 x8_2 x9_3 t451 _ ?side1 ?side2 ?side3 ?side4 A21.out).mono ?_); (case side1 => repeat (first | exact (Kd.C_below HR0.out HB.out) | (with_reducible refine Kd.C_alloc ?_ _) | (with_reducible refine Kd.C_drewN ?_ _) | (with_reducible refine Kd.C_drew ?_))); (case side2 => exact HC0.out); (case side3 => repeat (first | exact (Kd.C_below HR1.out HB.out) | (with_reducible refine Kd.C_alloc ?_ _) | (with_reducible refine Kd.C_drewN ?_ _) | (with_reducible refine Kd.C_drew ?_))); (case side4 => exact HC1.out); rintro e w' ⟨rfl, ⟨nd, rfl⟩⟩; refine ⟨_, rfl, ?_⟩))
                   go_roundg k4
                   case measure => have := HK1.out; have := HK2.out; have := HK3.out; have := HK4.out; omega
                   case rel => exact ⟨(x5_4), (wrap64 (x9_3 + 1)), (by first | rfl | (simp; done) | (simp [*]; done)), H', ⟨by have := HK1.out; have := HK2.out; have := HK3.out; have := HK4.out; omega⟩, ⟨by (with_reducible repeat (first | apply Kd.R_alloc | apply Kd.R_drewN | apply Kd.R_drew)); exact HO_5.out⟩, ⟨by repeat (first | (with_reducible first | exact HB.out | apply bwA | apply pbN | apply bwD) | exact HB.out)⟩⟩
               ·rw [if_neg c20] at H
                exact absurd H (by simp)
              ·rw [if_neg c19] at H
               exact absurd H (by simp)
             ·rw [if_neg c17] at H
              exact absurd H (by simp)
            ·rw [if_neg c16] at H
             exact absurd H (by simp)
           ·rw [if_neg c15] at H
            exact absurd H (by simp)
          ·rw [if_neg c14] at H
           exact absurd H (by simp)
         ·rw [if_neg c13] at H
          have c13b0 : decide (x9_3 < 3) = false := decide_eq_false c13
          clear c13
          have H' := Az.mk H
          clear H
          go_wp2
          go_roundg k3
          case measure => have := HK1.out; have := HK2.out; have := HK3.out; omega
          case rel => exact ⟨(x5_3), (wrap64 (x8_2 + 1)), (by first | rfl | (simp; done) | (simp [*]; done)), H', ⟨by have := HK1.out; have := HK2.out; have := HK3.out; omega⟩, ⟨by (with_reducible repeat (first | apply Kd.R_alloc | apply Kd.R_drewN | apply Kd.R_drew)); exact HO_5.out⟩, ⟨by repeat (first | (with_reducible first | exact HB.out | apply bwA | apply pbN | apply bwD) | exact HB.out)⟩⟩
      ·rw [if_neg c12] at H
       have c12b0 : decide (x8_2 < (l0.length : Int)) = false := decide_eq_false c12
       clear c12
       obtain rfl := Option.some.inj H
       go_wp2
       go_ret
       exact ⟨_, by first | rfl | (simp [eWn, eWs] <;> rfl) | (simp [*, eWn, eWs] <;> rfl), by (with_reducible repeat (first | apply Kd.R_alloc | apply Kd.R_drewN | apply Kd.R_drew)); exact HO_5.out, by repeat (first | (with_reducible first | exact HB.out | apply bwA | apply pbN | apply bwD) | exact HB.out)⟩

end Go.Proofs.Ytolmicnapemljaa.P
