-- By this session's driver (wip/tools/mk.py) of the kit's print program, over several statements at once. Not trusted: Lean checks it.
import Derived.Test.YtigcjehokbgclaaQWZip
import Derived.Test.YtigcjehokbgclaaQPx0
namespace Go.Proofs.Ytigcjehokbgclaa.P
open Go.RowKit Go.Proofs.YtigcjehokbgclaaW.PrintWords Go.Proofs.YtigcjehokbgclaaW.PrintLast Go.Proofs.YtigcjehokbgclaaW.PrintMore
attribute [local go_sem] max2_int min2_int max_two min_two max_three min_three max_four min_four   -- for this text's walks alone
set_option linter.unusedVariables false
set_option linter.unusedSimpArgs false
theorem bw_17 {n : Nat} {v v' : World} (h : Below n v v' := by repeat (first | (with_reducible first | exact HB.out | apply bwA | apply pbN | apply bwD | refine bwS ?_ GE436.out) | exact HB.out)) : Below n v v' := h

/-! ### spec_l13Turn: function 66 -/
def spec_l13Turn.f (a0 : Int) : Option (Int × Int × Int × Int) := if a0 = 82 then (some (1, 1, 0, 1)) else (if a0 = 76 then (some (1, 0, 1, 1)) else (if a0 = 114 then (some (1, (-1), 0, 1)) else (if a0 = 108 then (some (1, 0, (-1), 1)) else (some (0, 0, 0, 0)))))
set_option maxHeartbeats 8000000 in
set_option maxRecDepth 100000 in
theorem spec_l13Turn.calls (a0 : Int) (r1 : Int) (r2 : Int) (r3 : Int) (r4 : Int) (w : World) (h : spec_l13Turn.f a0 = some (r1, r2, r3, r4)) :
  Calls Try.prog 66 #[.int .u8 a0] w fun e w' => e = .returned (.agg #[.int .i64 r1, .int .i64 r2, .int .i64 r3, .int .i64 r4]) ∧ Below w.heap.size w w' := by
 have hu41 := Try.underlying41
 have HB := Az.mk (Below.refl w.heap.size w)
 have H : (if a0 = 82 then (some (1, 1, 0, 1)) else (if a0 = 76 then (some (1, 0, 1, 1)) else (if a0 = 114 then (some (1, (-1), 0, 1)) else (if a0 = 108 then (some (1, 0, (-1), 1)) else (some (0, 0, 0, 0)))))) = some (r1, r2, r3, r4) := h
 clear h
 by_cases c2 : a0 = 82
 ·rw [if_pos c2] at H
  have c2b0 : (a0 == 82) = true := beq_iff_eq.mpr c2
  have c2b1 : (a0 != 82) = false := bne_eq_false_iff_eq.mpr c2
  clear c2
  simp only [Option.some.injEq, Prod.mk.injEq] at H
  obtain ⟨rfl, rfl, rfl, rfl⟩ := H
  go_enter Try.func66, Try.ntmps66
  go_wp2_with (first | ((with_reducible refine gtD (N := 2) rfl ?_); refine bx (N := 2) (cs := #[.int .i64 0, .int .i64 0, .int .i64 0, .int .i64 0]) (t := 41) ?_; intro gb436 hg w3 hbox hb; have BK436 := Az.mk (hbox); have GW436 := gwz hg bw_17; have GE436 := gwz hg bw_17; replace HB := Az.mk (bwT bw_17 hb); clear hb hbox hg; obtain ⟨hcz4_0, hcz4_1, hcz4_2, hcz4_3, hfz4_0, hfz4_1, hfz4_2, hfz4_3⟩ := bq4 BK436))
  refine bodyPost_ret (results_cell_row rfl _ _ gb436 41 #[.int .i64 1, .int .i64 1, .int .i64 0, .int .i64 1] (0, 0) _ rfl bkv Try.underlying41 rfl (by kernel_rfl)) rfl ?_
  exact ⟨rq1, bw_17⟩
 rw [if_neg c2] at H
 have c2b0 : (a0 == 82) = false := beq_eq_false_iff_ne.mpr c2
 have c2b1 : (a0 != 82) = true := bne_iff_ne.mpr c2
 by_cases c5 : a0 = 76
 ·rw [if_pos c5] at H
  have c5b0 : (a0 == 76) = true := beq_iff_eq.mpr c5
  have c5b1 : (a0 != 76) = false := bne_eq_false_iff_eq.mpr c5
  clear c5
  simp only [Option.some.injEq, Prod.mk.injEq] at H
  obtain ⟨rfl, rfl, rfl, rfl⟩ := H
  go_enter Try.func66, Try.ntmps66
  go_wp2_with (first | ((with_reducible refine gtD (N := 2) rfl ?_); refine bx (N := 2) (cs := #[.int .i64 0, .int .i64 0, .int .i64 0, .int .i64 0]) (t := 41) ?_; intro gb436 hg w6 hbox hb; have BK436 := Az.mk (hbox); have GW436 := gwz hg bw_17; have GE436 := gwz hg bw_17; replace HB := Az.mk (bwT bw_17 hb); clear hb hbox hg; obtain ⟨hcz7_0, hcz7_1, hcz7_2, hcz7_3, hfz7_0, hfz7_1, hfz7_2, hfz7_3⟩ := bq4 BK436))
  refine bodyPost_ret (results_cell_row rfl _ _ gb436 41 #[.int .i64 1, .int .i64 0, .int .i64 1, .int .i64 1] (0, 0) _ rfl bkv Try.underlying41 rfl (by kernel_rfl)) rfl ?_
  exact ⟨rq1, bw_17⟩
 rw [if_neg c5] at H
 have c5b0 : (a0 == 76) = false := beq_eq_false_iff_ne.mpr c5
 have c5b1 : (a0 != 76) = true := bne_iff_ne.mpr c5
 by_cases c8 : a0 = 114
 ·rw [if_pos c8] at H
  have c8b0 : (a0 == 114) = true := beq_iff_eq.mpr c8
  have c8b1 : (a0 != 114) = false := bne_eq_false_iff_eq.mpr c8
  clear c8
  simp only [Option.some.injEq, Prod.mk.injEq] at H
  obtain ⟨rfl, rfl, rfl, rfl⟩ := H
  go_enter Try.func66, Try.ntmps66
  go_wp2_with (first | ((with_reducible refine gtD (N := 2) rfl ?_); refine bx (N := 2) (cs := #[.int .i64 0, .int .i64 0, .int .i64 0, .int .i64 0]) (t := 41) ?_; intro gb436 hg w9 hbox hb; have BK436 := Az.mk (hbox); have GW436 := gwz hg bw_17; have GE436 := gwz hg bw_17; replace HB := Az.mk (bwT bw_17 hb); clear hb hbox hg; obtain ⟨hcz10_0, hcz10_1, hcz10_2, hcz10_3, hfz10_0, hfz10_1, hfz10_2, hfz10_3⟩ := bq4 BK436))
  refine bodyPost_ret (results_cell_row rfl _ _ gb436 41 #[.int .i64 1, .int .i64 (-1), .int .i64 0, .int .i64 1] (0, 0) _ rfl bkv Try.underlying41 rfl (by kernel_rfl)) rfl ?_
  exact ⟨rq1, bw_17⟩
 rw [if_neg c8] at H
 have c8b0 : (a0 == 114) = false := beq_eq_false_iff_ne.mpr c8
 have c8b1 : (a0 != 114) = true := bne_iff_ne.mpr c8
 by_cases c11 : a0 = 108
 rotate_left
 ·rw [if_neg c11] at H
  have c11b0 : (a0 == 108) = false := beq_eq_false_iff_ne.mpr c11
  have c11b1 : (a0 != 108) = true := bne_iff_ne.mpr c11
  simp only [Option.some.injEq, Prod.mk.injEq] at H
  obtain ⟨rfl, rfl, rfl, rfl⟩ := H
  go_enter Try.func66, Try.ntmps66
  go_wp2_with (first | ((with_reducible refine gtD (N := 2) rfl ?_); refine bx (N := 2) (cs := #[.int .i64 0, .int .i64 0, .int .i64 0, .int .i64 0]) (t := 41) ?_; intro gb436 hg w14 hbox hb; have BK436 := Az.mk (hbox); have GW436 := gwz hg bw_17; have GE436 := gwz hg bw_17; replace HB := Az.mk (bwT bw_17 hb); clear hb hbox hg; obtain ⟨hcz15_0, hcz15_1, hcz15_2, hcz15_3, hfz15_0, hfz15_1, hfz15_2, hfz15_3⟩ := bq4 BK436))
  refine bodyPost_ret (results_cell_row rfl _ _ gb436 41 #[.int .i64 0, .int .i64 0, .int .i64 0, .int .i64 0] (0, 0) _ rfl bkv Try.underlying41 rfl (by kernel_rfl)) rfl ?_
  exact ⟨rq1, bw_17⟩
 rw [if_pos c11] at H
 have c11b0 : (a0 == 108) = true := beq_iff_eq.mpr c11
 have c11b1 : (a0 != 108) = false := bne_eq_false_iff_eq.mpr c11
 clear c11
 simp only [Option.some.injEq, Prod.mk.injEq] at H
 obtain ⟨rfl, rfl, rfl, rfl⟩ := H
 go_enter Try.func66, Try.ntmps66
 go_wp2_with (first | ((with_reducible refine gtD (N := 2) rfl ?_); refine bx (N := 2) (cs := #[.int .i64 0, .int .i64 0, .int .i64 0, .int .i64 0]) (t := 41) ?_; intro gb436 hg w12 hbox hb; have BK436 := Az.mk (hbox); have GW436 := gwz hg bw_17; have GE436 := gwz hg bw_17; replace HB := Az.mk (bwT bw_17 hb); clear hb hbox hg; obtain ⟨hcz13_0, hcz13_1, hcz13_2, hcz13_3, hfz13_0, hfz13_1, hfz13_2, hfz13_3⟩ := bq4 BK436))
 refine bodyPost_ret (results_cell_row rfl _ _ gb436 41 #[.int .i64 1, .int .i64 0, .int .i64 (-1), .int .i64 1] (0, 0) _ rfl bkv Try.underlying41 rfl (by kernel_rfl)) rfl ?_
 exact ⟨rq1, bw_17⟩

end Go.Proofs.Ytigcjehokbgclaa.P
