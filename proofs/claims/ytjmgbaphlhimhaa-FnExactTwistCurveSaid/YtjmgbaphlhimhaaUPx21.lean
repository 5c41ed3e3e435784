-- By this session's driver (wip/tools/mk.py) of the kit's print program, over several statements at once. Not trusted: Lean checks it.
import Derived.Test.YtjmgbaphlhimhaaUPx0
import Derived.Test.YtjmgbaphlhimhaaUPx1
import Derived.Test.YtjmgbaphlhimhaaUPx3
import Derived.Test.YtjmgbaphlhimhaaUPx9
import Derived.Test.YtjmgbaphlhimhaaUPx17
namespace Go.Proofs.Ytjmgbaphlhimhaa.P
open Go.RowKit Go.Proofs.YtjmgbaphlhimhaaW.PrintWords Go.Proofs.YtjmgbaphlhimhaaW.PrintLast Go.Proofs.YtjmgbaphlhimhaaW.PrintMore
attribute [local go_sem] max2_int min2_int max_two min_two max_three min_three max_four min_four   -- for this text's walks alone
set_option linter.unusedVariables false
set_option linter.unusedSimpArgs false
theorem bw_21 {n : Nat} {v v' : World} (h : Below n v v' := by repeat (first | (with_reducible first | exact HB.out | apply bwA | apply pbN | apply bwD | refine bwS ?_ GE374.out | refine bwS ?_ GE379.out | refine bwS ?_ GE380.out | refine bwS ?_ GE395.out | refine bwS ?_ GE396.out) | exact HB.out)) : Below n v v' := h
theorem ln_21 {P : Prop} (h : P := by (try simp only [List.map_toArray, List.map_cons, List.map_nil]); first | done | rfl | (simp only [List.length_drop, List.length_take]; rfl)) : P := h
open Option renaming bind_eq_some_iff → be

/-! ### spec_IsSlope: function 86 -/
def spec_IsSlope.f (k : Nat) (a0_0 : Int) (a0_1 : Int) : Option (Bool) := (spec_l1In.f a0_0 (-1000) 1000).bind fun t375 => (if t375 = true then ((spec_l1In.f a0_1 0 1000).bind fun t376 => (if t376 = true then (if a0_1 = 0 then (if a0_0 = 1 then ((spec_l11Gcd.f k a0_0 a0_1).bind fun t377 => (some (t377 == 1))) else (some false)) else ((spec_l11Gcd.f k a0_0 a0_1).bind fun t378 => (some (t378 == 1)))) else (some false))) else (some false))
theorem spec_IsSlope.mono : ∀ a0 a1 k, LeO (spec_IsSlope.f k a0 a1) (spec_IsSlope.f (k + 1) a0 a1) := by
 intro a0 a1 k
 unfold spec_IsSlope.f
 repeat' first
   | (with_reducible exact spec_l11Gcd.mono _ _ _)
   | (with_reducible exact LeO.refl _)
   | (with_reducible exact LeO.none _)
   | (with_reducible refine LeO.ite ?_ ?_)
   | (with_reducible refine LeO.bind ?_ (fun _ => ?_))
   | exact spec_l11Gcd.mono _ _ _
   | exact LeO.none _
   | refine LeO.ite ?_ ?_
   | refine LeO.bind ?_ (fun _ => ?_)
set_option maxHeartbeats 8000000 in
set_option maxRecDepth 100000 in
theorem spec_IsSlope.calls (k : Nat) (a0_0 : Int) (a0_1 : Int) (r : Bool) (w : World) (h : spec_IsSlope.f k a0_0 a0_1 = some r) :
  Calls Try.prog 86 #[.agg #[.int .i64 a0_0, .int .i64 a0_1]] w fun e w' => e = .returned (.bool r) ∧ Below w.heap.size w w' := by
 have hu24 := Try.underlying24
 have HB := Az.mk (Below.refl w.heap.size w)
 have H : ((spec_l1In.f a0_0 (-1000) 1000).bind fun t375 => (if t375 = true then ((spec_l1In.f a0_1 0 1000).bind fun t376 => (if t376 = true then (if a0_1 = 0 then (if a0_0 = 1 then ((spec_l11Gcd.f k a0_0 a0_1).bind fun t377 => (some (t377 == 1))) else (some false)) else ((spec_l11Gcd.f k a0_0 a0_1).bind fun t378 => (some (t378 == 1)))) else (some false))) else (some false))) = some r := h
 clear h
 replace H := be.mp H
 obtain ⟨t375, A20, H⟩ := H
 try dsimp only at H
 have A2 := Az.mk A20
 clear A20
 by_cases c3 : t375 = true
 rotate_left
 ·replace c3 := Bool.eq_false_iff.mpr c3
  subst c3
  rw [if_neg (show ¬ (false = true) by decide)] at H
  obtain rfl := Option.some.inj H
  go_enter Try.func86, Try.ntmps86
  go_wp2_with (first | ((with_reducible refine gtD (N := 1) rfl ?_); refine bxE ?hg (N := 1) ?hd (cs := #[.int .i64 a0_0, .int .i64 a0_1]) (t := 24) ?hr ?_; (case hd => rfl); (case hg => rfl); (case hr => first | (go_simp; done) | (go_simp; rfl)); intro gb374 hg w18 hbox hb; have BK374 := Az.mk (hbox); have GW374 := Az.mk ((by rw [hg]; exact (bwZ bw_21) : w.heap.size ≤ gb374)); have GE374 := Az.mk ((by rw [hg]; exact (bwZ bw_21) : w.heap.size ≤ gb374)); replace HB := Az.mk (bwT bw_21 hb); clear hb hbox hg; have hcz19_0 : w18.cell? ⟨gb374, 0, none⟩ = some (.int .i64 a0_0) := (bkC BK374.out 0).trans rfl; have hcz19_1 : w18.cell? ⟨gb374, 1, none⟩ = some (.int .i64 a0_1) := (bkC BK374.out 1).trans rfl; have hfz19_0 := bkF BK374.out 0; have hfz19_1 := bkF BK374.out 1) | ((with_reducible refine gtC (f := 49) rfl ?_); refine goesL_ (some 5) rfl rfl Try.func49 (by kernel_rfl) rfl #[.int .i64 a0_0, .int .i64 (-1000), .int .i64 1000] rfl ln_21 ?_; (with_reducible refine (spec_l1In.calls a0_0 (-1000) 1000 false _ A2.out).mono ?_); rintro e w' ⟨rfl, ⟨nd, rfl⟩⟩; refine ⟨_, rfl, ?_⟩))
  go_ret
  exact ⟨by first | rfl | (simp [eWn, eWs] <;> rfl) | (simp [*, eWn, eWs] <;> rfl), bw_21⟩
 subst c3
 rw [if_pos rfl] at H
 replace H := be.mp H
 obtain ⟨t376, A40, H⟩ := H
 try dsimp only at H
 have A4 := Az.mk A40
 clear A40
 by_cases c5 : t376 = true
 rotate_left
 ·replace c5 := Bool.eq_false_iff.mpr c5
  subst c5
  rw [if_neg (show ¬ (false = true) by decide)] at H
  obtain rfl := Option.some.inj H
  go_enter Try.func86, Try.ntmps86
  go_wp2_with (first | ((with_reducible refine gtD (N := 1) rfl ?_); refine bxE ?hg (N := 1) ?hd (cs := #[.int .i64 a0_0, .int .i64 a0_1]) (t := 24) ?hr ?_; (case hd => rfl); (case hg => rfl); (case hr => first | (go_simp; done) | (go_simp; rfl)); intro gb374 hg w16 hbox hb; have BK374 := Az.mk (hbox); have GW374 := Az.mk ((by rw [hg]; exact (bwZ bw_21) : w.heap.size ≤ gb374)); have GE374 := Az.mk ((by rw [hg]; exact (bwZ bw_21) : w.heap.size ≤ gb374)); replace HB := Az.mk (bwT bw_21 hb); clear hb hbox hg; have hcz17_0 : w16.cell? ⟨gb374, 0, none⟩ = some (.int .i64 a0_0) := (bkC BK374.out 0).trans rfl; have hcz17_1 : w16.cell? ⟨gb374, 1, none⟩ = some (.int .i64 a0_1) := (bkC BK374.out 1).trans rfl; have hfz17_0 := bkF BK374.out 0; have hfz17_1 := bkF BK374.out 1) | ((with_reducible refine gtC (f := 49) rfl ?_); refine goesL_ (some 5) rfl rfl Try.func49 (by kernel_rfl) rfl #[.int .i64 a0_0, .int .i64 (-1000), .int .i64 1000] rfl ln_21 ?_; (with_reducible refine (spec_l1In.calls a0_0 (-1000) 1000 true _ A2.out).mono ?_); rintro e w' ⟨rfl, ⟨nd, rfl⟩⟩; refine ⟨_, rfl, ?_⟩) | (go_at_call 49; (with_reducible refine (spec_l1In.calls a0_1 0 1000 false _ A4.out).mono ?_); rintro e w' ⟨rfl, ⟨nd, rfl⟩⟩))
  go_ret
  exact ⟨by first | rfl | (simp [eWn, eWs] <;> rfl) | (simp [*, eWn, eWs] <;> rfl), bw_21⟩
 subst c5
 rw [if_pos rfl] at H
 by_cases c6 : a0_1 = 0
 rotate_left
 ·rw [if_neg c6] at H
  have c6b0 : (a0_1 == 0) = false := beq_eq_false_iff_ne.mpr c6
  have c6b1 : (a0_1 != 0) = true := bne_iff_ne.mpr c6
  replace H := be.mp H
  obtain ⟨t378, A130, H⟩ := H
  replace H : (some (t378 == 1)) = some r := H
  have A13 := Az.mk A130
  clear A130
  obtain rfl := Option.some.inj H
  go_enter Try.func86, Try.ntmps86
  go_wp2_with (first | ((with_reducible refine gtD (N := 1) rfl ?_); refine bxE ?hg (N := 1) ?hd (cs := #[.int .i64 a0_0, .int .i64 a0_1]) (t := 24) ?hr ?_; (case hd => rfl); (case hg => rfl); (case hr => first | (go_simp; done) | (go_simp; rfl)); intro gb374 hg w14 hbox hb; have BK374 := Az.mk (hbox); have GW374 := Az.mk ((by rw [hg]; exact (bwZ bw_21) : w.heap.size ≤ gb374)); have GE374 := Az.mk ((by rw [hg]; exact (bwZ bw_21) : w.heap.size ≤ gb374)); replace HB := Az.mk (bwT bw_21 hb); clear hb hbox hg; have hcz15_0 : w14.cell? ⟨gb374, 0, none⟩ = some (.int .i64 a0_0) := (bkC BK374.out 0).trans rfl; have hcz15_1 : w14.cell? ⟨gb374, 1, none⟩ = some (.int .i64 a0_1) := (bkC BK374.out 1).trans rfl; have hfz15_0 := bkF BK374.out 0; have hfz15_1 := bkF BK374.out 1) | ((with_reducible refine gtC (f := 49) rfl ?_); refine goesL_ (some 5) rfl rfl Try.func49 (by kernel_rfl) rfl #[.int .i64 a0_0, .int .i64 (-1000), .int .i64 1000] rfl ln_21 ?_; (with_reducible refine (spec_l1In.calls a0_0 (-1000) 1000 true _ A2.out).mono ?_); rintro e w' ⟨rfl, ⟨nd, rfl⟩⟩; refine ⟨_, rfl, ?_⟩) | (go_at_call 49; (with_reducible refine (spec_l1In.calls a0_1 0 1000 true _ A4.out).mono ?_); rintro e w' ⟨rfl, ⟨nd, rfl⟩⟩) | ((with_reducible refine gtC (f := 38) rfl ?_); refine goesL_ (some 27) rfl rfl Try.func38 (by kernel_rfl) rfl #[.int .i64 a0_0, .int .i64 a0_1] rfl ln_21 ?_; (with_reducible refine (spec_l11Gcd.calls k a0_0 a0_1 t378 _ A13.out).mono ?_); rintro e w' ⟨rfl, ⟨nd, rfl⟩⟩; refine ⟨_, rfl, ?_⟩))
  go_ret
  exact ⟨by first | rfl | (simp [eWn, eWs] <;> rfl) | (simp [*, eWn, eWs] <;> rfl), bw_21⟩
 rw [if_pos c6] at H
 have c6b0 : (a0_1 == 0) = true := beq_iff_eq.mpr c6
 have c6b1 : (a0_1 != 0) = false := bne_eq_false_iff_eq.mpr c6
 clear c6
 by_cases c7 : a0_0 = 1
 rotate_left
 ·rw [if_neg c7] at H
  have c7b0 : (a0_0 == 1) = false := beq_eq_false_iff_ne.mpr c7
  have c7b1 : (a0_0 != 1) = true := bne_iff_ne.mpr c7
  obtain rfl := Option.some.inj H
  go_enter Try.func86, Try.ntmps86
  go_wp2_with (first | ((with_reducible refine gtD (N := 1) rfl ?_); refine bxE ?hg (N := 1) ?hd (cs := #[.int .i64 a0_0, .int .i64 a0_1]) (t := 24) ?hr ?_; (case hd => rfl); (case hg => rfl); (case hr => first | (go_simp; done) | (go_simp; rfl)); intro gb374 hg w11 hbox hb; have BK374 := Az.mk (hbox); have GW374 := Az.mk ((by rw [hg]; exact (bwZ bw_21) : w.heap.size ≤ gb374)); have GE374 := Az.mk ((by rw [hg]; exact (bwZ bw_21) : w.heap.size ≤ gb374)); replace HB := Az.mk (bwT bw_21 hb); clear hb hbox hg; have hcz12_0 : w11.cell? ⟨gb374, 0, none⟩ = some (.int .i64 a0_0) := (bkC BK374.out 0).trans rfl; have hcz12_1 : w11.cell? ⟨gb374, 1, none⟩ = some (.int .i64 a0_1) := (bkC BK374.out 1).trans rfl; have hfz12_0 := bkF BK374.out 0; have hfz12_1 := bkF BK374.out 1) | ((with_reducible refine gtC (f := 49) rfl ?_); refine goesL_ (some 5) rfl rfl Try.func49 (by kernel_rfl) rfl #[.int .i64 a0_0, .int .i64 (-1000), .int .i64 1000] rfl ln_21 ?_; (with_reducible refine (spec_l1In.calls a0_0 (-1000) 1000 true _ A2.out).mono ?_); rintro e w' ⟨rfl, ⟨nd, rfl⟩⟩; refine ⟨_, rfl, ?_⟩) | (go_at_call 49; (with_reducible refine (spec_l1In.calls a0_1 0 1000 true _ A4.out).mono ?_); rintro e w' ⟨rfl, ⟨nd, rfl⟩⟩))
  go_ret
  exact ⟨by first | rfl | (simp [eWn, eWs] <;> rfl) | (simp [*, eWn, eWs] <;> rfl), bw_21⟩
 rw [if_pos c7] at H
 have c7b0 : (a0_0 == 1) = true := beq_iff_eq.mpr c7
 have c7b1 : (a0_0 != 1) = false := bne_eq_false_iff_eq.mpr c7
 clear c7
 replace H := be.mp H
 obtain ⟨t377, A80, H⟩ := H
 replace H : (some (t377 == 1)) = some r := H
 have A8 := Az.mk A80
 clear A80
 obtain rfl := Option.some.inj H
 go_enter Try.func86, Try.ntmps86
 go_wp2_with (first | ((with_reducible refine gtD (N := 1) rfl ?_); refine bxE ?hg (N := 1) ?hd (cs := #[.int .i64 a0_0, .int .i64 a0_1]) (t := 24) ?hr ?_; (case hd => rfl); (case hg => rfl); (case hr => first | (go_simp; done) | (go_simp; rfl)); intro gb374 hg w9 hbox hb; have BK374 := Az.mk (hbox); have GW374 := Az.mk ((by rw [hg]; exact (bwZ bw_21) : w.heap.size ≤ gb374)); have GE374 := Az.mk ((by rw [hg]; exact (bwZ bw_21) : w.heap.size ≤ gb374)); replace HB := Az.mk (bwT bw_21 hb); clear hb hbox hg; have hcz10_0 : w9.cell? ⟨gb374, 0, none⟩ = some (.int .i64 a0_0) := (bkC BK374.out 0).trans rfl; have hcz10_1 : w9.cell? ⟨gb374, 1, none⟩ = some (.int .i64 a0_1) := (bkC BK374.out 1).trans rfl; have hfz10_0 := bkF BK374.out 0; have hfz10_1 := bkF BK374.out 1) | ((with_reducible refine gtC (f := 49) rfl ?_); refine goesL_ (some 5) rfl rfl Try.func49 (by kernel_rfl) rfl #[.int .i64 a0_0, .int .i64 (-1000), .int .i64 1000] rfl ln_21 ?_; (with_reducible refine (spec_l1In.calls a0_0 (-1000) 1000 true _ A2.out).mono ?_); rintro e w' ⟨rfl, ⟨nd, rfl⟩⟩; refine ⟨_, rfl, ?_⟩) | (go_at_call 49; (with_reducible refine (spec_l1In.calls a0_1 0 1000 true _ A4.out).mono ?_); rintro e w' ⟨rfl, ⟨nd, rfl⟩⟩) | ((with_reducible refine gtC (f := 38) rfl ?_); refine goesL_ (some 27) rfl rfl Try.func38 (by kernel_rfl) rfl #[.int .i64 a0_0, .int .i64 a0_1] rfl ln_21 ?_; (with_reducible refine (spec_l11Gcd.calls k a0_0 a0_1 t377 _ A8.out).mono ?_); rintro e w' ⟨rfl, ⟨nd, rfl⟩⟩; refine ⟨_, rfl, ?_⟩))
 go_ret
 exact ⟨by first | rfl | (simp [eWn, eWs] <;> rfl) | (simp [*, eWn, eWs] <;> rfl), bw_21⟩

/-! ### spec_CrossNumber: function 47 -/
def spec_CrossNumber.f (k : Nat) (a0_0 : Int) (a0_1 : Int) (a1_0 : Int) (a1_1 : Int) : Option (Int) := (spec_IsSlope.f k a0_0 a0_1).bind fun t381 => (if t381 = true then ((spec_IsSlope.f k a1_0 a1_1).bind fun t382 => (if t382 = true then ((spec_l3Abs.f (wrap64 ((wrap64 (a0_0 * a1_1)) - (wrap64 (a0_1 * a1_0))))).bind fun t383 => (some t383)) else (some (-1)))) else (some (-1)))
theorem spec_CrossNumber.mono : ∀ a0 a1 a2 a3 k, LeO (spec_CrossNumber.f k a0 a1 a2 a3) (spec_CrossNumber.f (k + 1) a0 a1 a2 a3) := by
 intro a0 a1 a2 a3 k
 unfold spec_CrossNumber.f
 repeat' first
   | (with_reducible exact spec_IsSlope.mono _ _ _)
   | (with_reducible exact LeO.refl _)
   | (with_reducible exact LeO.none _)
   | (with_reducible refine LeO.ite ?_ ?_)
   | (with_reducible refine LeO.bind ?_ (fun _ => ?_))
   | exact spec_IsSlope.mono _ _ _
   | exact LeO.none _
   | refine LeO.ite ?_ ?_
   | refine LeO.bind ?_ (fun _ => ?_)
set_option maxHeartbeats 8000000 in
set_option maxRecDepth 100000 in
theorem spec_CrossNumber.calls (k : Nat) (a0_0 : Int) (a0_1 : Int) (a1_0 : Int) (a1_1 : Int) (r : Int) (w : World) (h : spec_CrossNumber.f k a0_0 a0_1 a1_0 a1_1 = some r) :
  Calls Try.prog 47 #[.agg #[.int .i64 a0_0, .int .i64 a0_1], .agg #[.int .i64 a1_0, .int .i64 a1_1]] w fun e w' => e = .returned (.int .i64 r) ∧ Below w.heap.size w w' := by
 have hu24 := Try.underlying24
 have HB := Az.mk (Below.refl w.heap.size w)
 have H : ((spec_IsSlope.f k a0_0 a0_1).bind fun t381 => (if t381 = true then ((spec_IsSlope.f k a1_0 a1_1).bind fun t382 => (if t382 = true then ((spec_l3Abs.f (wrap64 ((wrap64 (a0_0 * a1_1)) - (wrap64 (a0_1 * a1_0))))).bind fun t383 => (some t383)) else (some (-1)))) else (some (-1)))) = some r := h
 clear h
 replace H := be.mp H
 obtain ⟨t381, A30, H⟩ := H
 try dsimp only at H
 have A3 := Az.mk A30
 clear A30
 by_cases c4 : t381 = true
 rotate_left
 ·replace c4 := Bool.eq_false_iff.mpr c4
  subst c4
  rw [if_neg (show ¬ (false = true) by decide)] at H
  obtain rfl := Option.some.inj H
  go_enter Try.func47, Try.ntmps47
  go_wp2_with (first | ((with_reducible refine gtD (N := 2) rfl ?_); refine bxE ?hg (N := 2) ?hd (cs := #[.int .i64 a0_0, .int .i64 a0_1]) (t := 24) ?hr ?_; (case hd => rfl); (case hg => rfl); (case hr => first | (go_simp; done) | (go_simp; rfl)); intro gb379 hg w24 hbox hb; have BK379 := Az.mk (hbox); have GW379 := Az.mk ((by rw [hg]; exact (bwZ bw_21) : w.heap.size ≤ gb379)); have GE379 := Az.mk ((by rw [hg]; exact (bwZ bw_21) : w.heap.size ≤ gb379)); replace HB := Az.mk (bwT bw_21 hb); clear hb hbox hg) | ((with_reducible refine gtD (N := 3) rfl ?_); refine bxE ?hg (N := 3) ?hd (cs := #[.int .i64 a1_0, .int .i64 a1_1]) (t := 24) ?hr ?_; (case hd => rfl); (case hg => rfl); (case hr => first | (go_simp; done) | (go_simp; rfl)); intro gb380 hg w25 hbox hb; have BK380 := Az.mk (hbox); have GW380 := Az.mk ((by rw [hg]; exact (bwZ bw_21) : w.heap.size ≤ gb380)); have GE380 := Az.mk ((by rw [hg]; exact (bwZ bw_21) : w.heap.size ≤ gb380)); replace HB := Az.mk (bwT bw_21 hb); have NB379_380 := Az.mk ((by rw [hg]; exact Nat.ne_of_lt (blk_lt (g := gb379) (o := .cells #[.int .i64 a0_0, .int .i64 a0_1] 24 (0, 0)) (by (with_reducible repeat first | apply bkN | apply bkD | apply bkA); exact BK379.out)) : gb379 ≠ gb380)); have NB380_379 := Az.mk ((by rw [hg]; exact Nat.ne_of_gt (blk_lt (g := gb379) (o := .cells #[.int .i64 a0_0, .int .i64 a0_1] 24 (0, 0)) (by (with_reducible repeat first | apply bkN | apply bkD | apply bkA); exact BK379.out)) : gb380 ≠ gb379)); replace BK379 := Az.mk (bkB (g := gb379) (o := .cells #[.int .i64 a0_0, .int .i64 a0_1] 24 (0, 0)) (by (with_reducible repeat first | apply bkN | apply bkD | apply bkA); exact BK379.out) hb); clear hb hbox hg; have hnb26 := NB379_380.out; have hnc26 := NB380_379.out; have hcz27_0 : w25.cell? ⟨gb379, 0, none⟩ = some (.int .i64 a0_0) := (bkC BK379.out 0).trans rfl; have hcz27_1 : w25.cell? ⟨gb379, 1, none⟩ = some (.int .i64 a0_1) := (bkC BK379.out 1).trans rfl; have hfz27_0 := bkF BK379.out 0; have hfz27_1 := bkF BK379.out 1) | ((with_reducible refine gtC (f := 86) rfl ?_); refine goesL_ (some 6) rfl rfl Try.func86 (by kernel_rfl) rfl #[.agg #[.int .i64 a0_0, .int .i64 a0_1]] rfl ln_21 ?_; (with_reducible refine (spec_IsSlope.calls k a0_0 a0_1 false _ A3.out).mono ?_); rintro e w28 ⟨rfl, hb⟩; refine ⟨_, rfl, ?_⟩; replace BK379 := Az.mk (bkB (g := gb379) (o := .cells #[.int .i64 a0_0, .int .i64 a0_1] 24 (0, 0)) (by (with_reducible repeat first | apply bkN | apply bkD | apply bkA); exact BK379.out) hb); replace BK380 := Az.mk (bkB (g := gb380) (o := .cells #[.int .i64 a1_0, .int .i64 a1_1] 24 (0, 0)) (by (with_reducible repeat first | apply bkN | apply bkD | apply bkA); exact BK380.out) hb); replace HB := Az.mk (bwT bw_21 hb); (try clear hb)))
  go_ret
  exact ⟨by first | rfl | (simp [eWn, eWs] <;> rfl) | (simp [*, eWn, eWs] <;> rfl), bw_21⟩
 subst c4
 rw [if_pos rfl] at H
 replace H := be.mp H
 obtain ⟨t382, A50, H⟩ := H
 try dsimp only at H
 have A5 := Az.mk A50
 clear A50
 by_cases c6 : t382 = true
 rotate_left
 ·replace c6 := Bool.eq_false_iff.mpr c6
  subst c6
  rw [if_neg (show ¬ (false = true) by decide)] at H
  obtain rfl := Option.some.inj H
  go_enter Try.func47, Try.ntmps47
  go_wp2_with (first | ((with_reducible refine gtD (N := 2) rfl ?_); refine bxE ?hg (N := 2) ?hd (cs := #[.int .i64 a0_0, .int .i64 a0_1]) (t := 24) ?hr ?_; (case hd => rfl); (case hg => rfl); (case hr => first | (go_simp; done) | (go_simp; rfl)); intro gb379 hg w17 hbox hb; have BK379 := Az.mk (hbox); have GW379 := Az.mk ((by rw [hg]; exact (bwZ bw_21) : w.heap.size ≤ gb379)); have GE379 := Az.mk ((by rw [hg]; exact (bwZ bw_21) : w.heap.size ≤ gb379)); replace HB := Az.mk (bwT bw_21 hb); clear hb hbox hg) | ((with_reducible refine gtD (N := 3) rfl ?_); refine bxE ?hg (N := 3) ?hd (cs := #[.int .i64 a1_0, .int .i64 a1_1]) (t := 24) ?hr ?_; (case hd => rfl); (case hg => rfl); (case hr => first | (go_simp; done) | (go_simp; rfl)); intro gb380 hg w18 hbox hb; have BK380 := Az.mk (hbox); have GW380 := Az.mk ((by rw [hg]; exact (bwZ bw_21) : w.heap.size ≤ gb380)); have GE380 := Az.mk ((by rw [hg]; exact (bwZ bw_21) : w.heap.size ≤ gb380)); replace HB := Az.mk (bwT bw_21 hb); have NB379_380 := Az.mk ((by rw [hg]; exact Nat.ne_of_lt (blk_lt (g := gb379) (o := .cells #[.int .i64 a0_0, .int .i64 a0_1] 24 (0, 0)) (by (with_reducible repeat first | apply bkN | apply bkD | apply bkA); exact BK379.out)) : gb379 ≠ gb380)); have NB380_379 := Az.mk ((by rw [hg]; exact Nat.ne_of_gt (blk_lt (g := gb379) (o := .cells #[.int .i64 a0_0, .int .i64 a0_1] 24 (0, 0)) (by (with_reducible repeat first | apply bkN | apply bkD | apply bkA); exact BK379.out)) : gb380 ≠ gb379)); replace BK379 := Az.mk (bkB (g := gb379) (o := .cells #[.int .i64 a0_0, .int .i64 a0_1] 24 (0, 0)) (by (with_reducible repeat first | apply bkN | apply bkD | apply bkA); exact BK379.out) hb); clear hb hbox hg; have hnb19 := NB379_380.out; have hnc19 := NB380_379.out; have hcz20_0 : w18.cell? ⟨gb379, 0, none⟩ = some (.int .i64 a0_0) := (bkC BK379.out 0).trans rfl; have hcz20_1 : w18.cell? ⟨gb379, 1, none⟩ = some (.int .i64 a0_1) := (bkC BK379.out 1).trans rfl; have hfz20_0 := bkF BK379.out 0; have hfz20_1 := bkF BK379.out 1) | ((with_reducible refine gtC (f := 86) rfl ?_); refine goesL_ (some 6) rfl rfl Try.func86 (by kernel_rfl) rfl #[.agg #[.int .i64 a0_0, .int .i64 a0_1]] rfl ln_21 ?_; (with_reducible refine (spec_IsSlope.calls k a0_0 a0_1 true _ A3.out).mono ?_); rintro e w21 ⟨rfl, hb⟩; refine ⟨_, rfl, ?_⟩; replace BK379 := Az.mk (bkB (g := gb379) (o := .cells #[.int .i64 a0_0, .int .i64 a0_1] 24 (0, 0)) (by (with_reducible repeat first | apply bkN | apply bkD | apply bkA); exact BK379.out) hb); replace BK380 := Az.mk (bkB (g := gb380) (o := .cells #[.int .i64 a1_0, .int .i64 a1_1] 24 (0, 0)) (by (with_reducible repeat first | apply bkN | apply bkD | apply bkA); exact BK380.out) hb); replace HB := Az.mk (bwT bw_21 hb); (try clear hb); have hcz22_0 : w21.cell? ⟨gb380, 0, none⟩ = some (.int .i64 a1_0) := (bkC BK380.out 0).trans rfl; have hcz22_1 : w21.cell? ⟨gb380, 1, none⟩ = some (.int .i64 a1_1) := (bkC BK380.out 1).trans rfl; have hfz22_0 := bkF BK380.out 0; have hfz22_1 := bkF BK380.out 1) | (go_at_call 86; (with_reducible refine (spec_IsSlope.calls k a1_0 a1_1 false _ A5.out).mono ?_); rintro e w23 ⟨rfl, hb⟩; replace BK379 := Az.mk (bkB (g := gb379) (o := .cells #[.int .i64 a0_0, .int .i64 a0_1] 24 (0, 0)) (by (with_reducible repeat first | apply bkN | apply bkD | apply bkA); exact BK379.out) hb); replace BK380 := Az.mk (bkB (g := gb380) (o := .cells #[.int .i64 a1_0, .int .i64 a1_1] 24 (0, 0)) (by (with_reducible repeat first | apply bkN | apply bkD | apply bkA); exact BK380.out) hb); replace HB := Az.mk (bwT bw_21 hb); (try clear hb)))
  go_ret
  exact ⟨by first | rfl | (simp [eWn, eWs] <;> rfl) | (simp [*, eWn, eWs] <;> rfl), bw_21⟩
 subst c6
 rw [if_pos rfl] at H
 replace H := be.mp H
 obtain ⟨t383, A70, H⟩ := H
 replace H : (some t383) = some r := H
 have A7 := Az.mk A70
 clear A70
 obtain rfl := Option.some.inj H
 go_enter Try.func47, Try.ntmps47
 go_wp2_with (first | ((with_reducible refine gtD (N := 2) rfl ?_); refine bxE ?hg (N := 2) ?hd (cs := #[.int .i64 a0_0, .int .i64 a0_1]) (t := 24) ?hr ?_; (case hd => rfl); (case hg => rfl); (case hr => first | (go_simp; done) | (go_simp; rfl)); intro gb379 hg w8 hbox hb; have BK379 := Az.mk (hbox); have GW379 := Az.mk ((by rw [hg]; exact (bwZ bw_21) : w.heap.size ≤ gb379)); have GE379 := Az.mk ((by rw [hg]; exact (bwZ bw_21) : w.heap.size ≤ gb379)); replace HB := Az.mk (bwT bw_21 hb); clear hb hbox hg) | ((with_reducible refine gtD (N := 3) rfl ?_); refine bxE ?hg (N := 3) ?hd (cs := #[.int .i64 a1_0, .int .i64 a1_1]) (t := 24) ?hr ?_; (case hd => rfl); (case hg => rfl); (case hr => first | (go_simp; done) | (go_simp; rfl)); intro gb380 hg w9 hbox hb; have BK380 := Az.mk (hbox); have GW380 := Az.mk ((by rw [hg]; exact (bwZ bw_21) : w.heap.size ≤ gb380)); have GE380 := Az.mk ((by rw [hg]; exact (bwZ bw_21) : w.heap.size ≤ gb380)); replace HB := Az.mk (bwT bw_21 hb); have NB379_380 := Az.mk ((by rw [hg]; exact Nat.ne_of_lt (blk_lt (g := gb379) (o := .cells #[.int .i64 a0_0, .int .i64 a0_1] 24 (0, 0)) (by (with_reducible repeat first | apply bkN | apply bkD | apply bkA); exact BK379.out)) : gb379 ≠ gb380)); have NB380_379 := Az.mk ((by rw [hg]; exact Nat.ne_of_gt (blk_lt (g := gb379) (o := .cells #[.int .i64 a0_0, .int .i64 a0_1] 24 (0, 0)) (by (with_reducible repeat first | apply bkN | apply bkD | apply bkA); exact BK379.out)) : gb380 ≠ gb379)); replace BK379 := Az.mk (bkB (g := gb379) (o := .cells #[.int .i64 a0_0, .int .i64 a0_1] 24 (0, 0)) (by (with_reducible repeat first | apply bkN | apply bkD | apply bkA); exact BK379.out) hb); clear hb hbox hg; have hnb10 := NB379_380.out; have hnc10 := NB380_379.out; have hcz11_0 : w9.cell? ⟨gb379, 0, none⟩ = some (.int .i64 a0_0) := (bkC BK379.out 0).trans rfl; have hcz11_1 : w9.cell? ⟨gb379, 1, none⟩ = some (.int .i64 a0_1) := (bkC BK379.out 1).trans rfl; have hfz11_0 := bkF BK379.out 0; have hfz11_1 := bkF BK379.out 1) | ((with_reducible refine gtC (f := 86) rfl ?_); refine goesL_ (some 6) rfl rfl Try.func86 (by kernel_rfl) rfl #[.agg #[.int .i64 a0_0, .int .i64 a0_1]] rfl ln_21 ?_; (with_reducible refine (spec_IsSlope.calls k a0_0 a0_1 true _ A3.out).mono ?_); rintro e w12 ⟨rfl, hb⟩; refine ⟨_, rfl, ?_⟩; replace BK379 := Az.mk (bkB (g := gb379) (o := .cells #[.int .i64 a0_0, .int .i64 a0_1] 24 (0, 0)) (by (with_reducible repeat first | apply bkN | apply bkD | apply bkA); exact BK379.out) hb); replace BK380 := Az.mk (bkB (g := gb380) (o := .cells #[.int .i64 a1_0, .int .i64 a1_1] 24 (0, 0)) (by (with_reducible repeat first | apply bkN | apply bkD | apply bkA); exact BK380.out) hb); replace HB := Az.mk (bwT bw_21 hb); (try clear hb); have hcz13_0 : w12.cell? ⟨gb380, 0, none⟩ = some (.int .i64 a1_0) := (bkC BK380.out 0).trans rfl; have hcz13_1 : w12.cell? ⟨gb380, 1, none⟩ = some (.int .i64 a1_1) := (bkC BK380.out 1).trans rfl; have hfz13_0 := bkF BK380.out 0; have hfz13_1 := bkF BK380.out 1) | (go_at_call 86; (with_reducible refine (spec_IsSlope.calls k a1_0 a1_1 true _ A5.out).mono ?_); rintro e w14 ⟨rfl, hb⟩; replace BK379 := Az.mk (bkB (g := gb379) (o := .cells #[.int .i64 a0_0, .int .i64 a0_1] 24 (0, 0)) (by (with_reducible repeat first | apply bkN | apply bkD | apply bkA); exact BK379.out) hb); replace BK380 := Az.mk (bkB (g := gb380) (o := .cells #[.int .i64 a1_0, .int .i64 a1_1] 24 (0, 0)) (by (with_reducible repeat first | apply bkN | apply bkD | apply bkA); exact BK380.out) hb); replace HB := Az.mk (bwT bw_21 hb); (try clear hb); have hcz15_0 : w14.cell? ⟨gb379, 0, none⟩ = some (.int .i64 a0_0) := (bkC BK379.out 0).trans rfl; have hcz15_1 : w14.cell? ⟨gb379, 1, none⟩ = some (.int .i64 a0_1) := (bkC BK379.out 1).trans rfl; have hfz15_0 := bkF BK379.out 0; have hfz15_1 := bkF BK379.out 1; have hcz16_0 : w14.cell? ⟨gb380, 0, none⟩ = some (.int .i64 a1_0) := (bkC BK380.out 0).trans rfl; have hcz16_1 : w14.cell? ⟨gb380, 1, none⟩ = some (.int .i64 a1_1) := (bkC BK380.out 1).trans rfl; have hfz16_0 := bkF BK380.out 0; have hfz16_1 := bkF BK380.out 1) | ((with_reducible refine gtC (f := 84) rfl ?_); refine goesL_ (some 24) rfl rfl Try.func84 (by kernel_rfl) rfl #[.int .i64 (wrap64 ((wrap64 (a0_0 * a1_1)) - (wrap64 (a0_1 * a1_0))))] rfl ln_21 ?_; (with_reducible refine (spec_l3Abs.calls (wrap64 ((wrap64 (a0_0 * a1_1)) - (wrap64 (a0_1 * a1_0)))) t383 _ A7.out).mono ?_); rintro e w' ⟨rfl, ⟨nd, rfl⟩⟩; refine ⟨_, rfl, ?_⟩))
 go_ret
 exact ⟨by first | rfl | (simp [eWn, eWs] <;> rfl) | (simp [*, eWn, eWs] <;> rfl), bw_21⟩

/-! ### impl_cross: function 48 -/
def impl_cross.f (a0_0 : Int) (a0_1 : Int) (a1_0 : Int) (a1_1 : Int) : Option (Int) := (impl_size.f (wrap64 ((wrap64 (a0_0 * a1_1)) - (wrap64 (a0_1 * a1_0))))).bind fun t397 => (some t397)
set_option maxHeartbeats 8000000 in
set_option maxRecDepth 100000 in
theorem impl_cross.calls (a0_0 : Int) (a0_1 : Int) (a1_0 : Int) (a1_1 : Int) (r : Int) (w : World) (h : impl_cross.f a0_0 a0_1 a1_0 a1_1 = some r) :
  Calls Try.prog 48 #[.agg #[.int .i64 a0_0, .int .i64 a0_1], .agg #[.int .i64 a1_0, .int .i64 a1_1]] w fun e w' => e = .returned (.int .i64 r) ∧ Below w.heap.size w w' := by
 have hu24 := Try.underlying24
 have HB := Az.mk (Below.refl w.heap.size w)
 have H : ((impl_size.f (wrap64 ((wrap64 (a0_0 * a1_1)) - (wrap64 (a0_1 * a1_0))))).bind fun t397 => (some t397)) = some r := h
 clear h
 replace H := be.mp H
 obtain ⟨t397, A30, H⟩ := H
 replace H : (some t397) = some r := H
 have A3 := Az.mk A30
 clear A30
 obtain rfl := Option.some.inj H
 go_enter Try.func48, Try.ntmps48
 go_wp2_with (first | ((with_reducible refine gtD (N := 2) rfl ?_); refine bxE ?hg (N := 2) ?hd (cs := #[.int .i64 a0_0, .int .i64 a0_1]) (t := 24) ?hr ?_; (case hd => rfl); (case hg => rfl); (case hr => first | (go_simp; done) | (go_simp; rfl)); intro gb395 hg w4 hbox hb; have BK395 := Az.mk (hbox); have GW395 := Az.mk ((by rw [hg]; exact (bwZ bw_21) : w.heap.size ≤ gb395)); have GE395 := Az.mk ((by rw [hg]; exact (bwZ bw_21) : w.heap.size ≤ gb395)); replace HB := Az.mk (bwT bw_21 hb); clear hb hbox hg) | ((with_reducible refine gtD (N := 3) rfl ?_); refine bxE ?hg (N := 3) ?hd (cs := #[.int .i64 a1_0, .int .i64 a1_1]) (t := 24) ?hr ?_; (case hd => rfl); (case hg => rfl); (case hr => first | (go_simp; done) | (go_simp; rfl)); intro gb396 hg w5 hbox hb; have BK396 := Az.mk (hbox); have GW396 := Az.mk ((by rw [hg]; exact (bwZ bw_21) : w.heap.size ≤ gb396)); have GE396 := Az.mk ((by rw [hg]; exact (bwZ bw_21) : w.heap.size ≤ gb396)); replace HB := Az.mk (bwT bw_21 hb); have NB395_396 := Az.mk ((by rw [hg]; exact Nat.ne_of_lt (blk_lt (g := gb395) (o := .cells #[.int .i64 a0_0, .int .i64 a0_1] 24 (0, 0)) (by (with_reducible repeat first | apply bkN | apply bkD | apply bkA); exact BK395.out)) : gb395 ≠ gb396)); have NB396_395 := Az.mk ((by rw [hg]; exact Nat.ne_of_gt (blk_lt (g := gb395) (o := .cells #[.int .i64 a0_0, .int .i64 a0_1] 24 (0, 0)) (by (with_reducible repeat first | apply bkN | apply bkD | apply bkA); exact BK395.out)) : gb396 ≠ gb395)); replace BK395 := Az.mk (bkB (g := gb395) (o := .cells #[.int .i64 a0_0, .int .i64 a0_1] 24 (0, 0)) (by (with_reducible repeat first | apply bkN | apply bkD | apply bkA); exact BK395.out) hb); clear hb hbox hg; have hnb6 := NB395_396.out; have hnc6 := NB396_395.out; have hcz7_0 : w5.cell? ⟨gb395, 0, none⟩ = some (.int .i64 a0_0) := (bkC BK395.out 0).trans rfl; have hcz7_1 : w5.cell? ⟨gb395, 1, none⟩ = some (.int .i64 a0_1) := (bkC BK395.out 1).trans rfl; have hfz7_0 := bkF BK395.out 0; have hfz7_1 := bkF BK395.out 1; have hcz8_0 : w5.cell? ⟨gb396, 0, none⟩ = some (.int .i64 a1_0) := (bkC BK396.out 0).trans rfl; have hcz8_1 : w5.cell? ⟨gb396, 1, none⟩ = some (.int .i64 a1_1) := (bkC BK396.out 1).trans rfl; have hfz8_0 := bkF BK396.out 0; have hfz8_1 := bkF BK396.out 1) | ((with_reducible refine gtC (f := 85) rfl ?_); refine goesL_ (some 16) rfl rfl Try.func85 (by kernel_rfl) rfl #[.int .i64 (wrap64 ((wrap64 (a0_0 * a1_1)) - (wrap64 (a0_1 * a1_0))))] rfl ln_21 ?_; (with_reducible refine (impl_size.calls (wrap64 ((wrap64 (a0_0 * a1_1)) - (wrap64 (a0_1 * a1_0)))) t397 _ A3.out).mono ?_); rintro e w9 ⟨rfl, hb⟩; refine ⟨_, rfl, ?_⟩; replace BK395 := Az.mk (bkB (g := gb395) (o := .cells #[.int .i64 a0_0, .int .i64 a0_1] 24 (0, 0)) (by (with_reducible repeat first | apply bkN | apply bkD | apply bkA); exact BK395.out) hb); replace BK396 := Az.mk (bkB (g := gb396) (o := .cells #[.int .i64 a1_0, .int .i64 a1_1] 24 (0, 0)) (by (with_reducible repeat first | apply bkN | apply bkD | apply bkA); exact BK396.out) hb); replace HB := Az.mk (bwT bw_21 hb); (try clear hb)))
 go_ret
 exact ⟨by first | rfl | (simp [eWn, eWs] <;> rfl) | (simp [*, eWn, eWs] <;> rfl), bw_21⟩

end Go.Proofs.Ytjmgbaphlhimhaa.P
