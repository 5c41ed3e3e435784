-- By this session's driver (wip/tools/mk.py) of the kit's print program, over several statements at once. Not trusted: Lean checks it.
import Derived.Test.YtigcjehokbgclaaQWZip
import Derived.Test.YtigcjehokbgclaaQPx0
import Derived.Test.YtigcjehokbgclaaQPx2
import Derived.Test.YtigcjehokbgclaaQPx5
namespace Go.Proofs.Ytigcjehokbgclaa.P
open Go.RowKit Go.Proofs.YtigcjehokbgclaaW.PrintWords Go.Proofs.YtigcjehokbgclaaW.PrintLast Go.Proofs.YtigcjehokbgclaaW.PrintMore
attribute [local go_sem] max2_int min2_int max_two min_two max_three min_three max_four min_four   -- for this text's walks alone
set_option linter.unusedVariables false
set_option linter.unusedSimpArgs false
theorem bw_21 {n : Nat} {v v' : World} (h : Below n v v' := by repeat (first | (with_reducible first | exact HB.out | apply bwA | apply pbN | apply bwD | refine bwS ?_ GE534.out) | exact HB.out)) : Below n v v' := h

/-! ### spec_l14Small: function 48 -/
def spec_l14Small.f (k : Nat) (a0_0 : Int) (a0_1 : Int) : Option (Bool) := (spec_IsSlope.f k a0_0 a0_1).bind fun t535 => (if t535 = true then ((spec_l1In.f a0_0 (-20) 20).bind fun t536 => (if t536 = true then (some (decide (a0_1 ≤ 20))) else (some false))) else (some false))
theorem spec_l14Small.mono : ∀ a0 a1 k, LeO (spec_l14Small.f k a0 a1) (spec_l14Small.f (k + 1) a0 a1) := by
 intro a0 a1 k
 unfold spec_l14Small.f
 exact mo_
instance spec_l14Small.mi {a0 a1 k} : MoO (spec_l14Small.f k a0 a1) (spec_l14Small.f (k + 1) a0 a1) := ⟨spec_l14Small.mono _ _ _⟩
set_option maxHeartbeats 8000000 in
set_option maxRecDepth 100000 in
theorem spec_l14Small.calls (k : Nat) (a0_0 : Int) (a0_1 : Int) (r : Bool) (w : World) (h : spec_l14Small.f k a0_0 a0_1 = some r) :
  Calls Try.prog 48 #[.agg #[.int .i64 a0_0, .int .i64 a0_1]] w fun e w' => e = .returned (.bool r) ∧ Below w.heap.size w w' := by
 have hu25 := Try.underlying25
 have HB := Az.mk (Below.refl w.heap.size w)
 have H : ((spec_IsSlope.f k a0_0 a0_1).bind fun t535 => (if t535 = true then ((spec_l1In.f a0_0 (-20) 20).bind fun t536 => (if t536 = true then (some (decide (a0_1 ≤ 20))) else (some false))) else (some false))) = some r := h
 clear h
 replace H := bez H
 obtain ⟨t535, A2, H⟩ := H
 try dsimp only at H
 by_cases c3 : t535 = true
 rotate_left
 ·replace c3 := Bool.eq_false_iff.mpr c3
  subst c3
  rw [if_neg (show ¬ (false = true) by decide)] at H
  obtain rfl := Option.some.inj H
  go_enter Try.func48, Try.ntmps48
  go_wp2_with (first | ((with_reducible refine gtD (N := 1) rfl ?_); refine bx (N := 1) (cs := #[.int .i64 a0_0, .int .i64 a0_1]) (t := 25) ?_; intro gb534 hg w14 hbox hb; have BK534 := Az.mk (hbox); have GW534 := gwz hg bw_21; have GE534 := gwz hg bw_21; replace HB := Az.mk (bwT bw_21 hb); clear hb hbox hg; obtain ⟨hcz15_0, hcz15_1, hfz15_0, hfz15_1⟩ := bq2 BK534) | ((with_reducible refine gtC (f := 22) rfl ?_); refine clz Try.func22 (some 4) #[.agg #[.int .i64 a0_0, .int .i64 a0_1]] ?_; (with_reducible refine (spec_IsSlope.calls k a0_0 a0_1 false _ A2.out).mono ?_); rintro e w16 ⟨rfl, hb⟩; refine ⟨_, rfl, ?_⟩; replace BK534 := bkz BK534 hb; replace HB := Az.mk (bwT bw_21 hb); (try clear hb)))
  go_ret
  exact ⟨rq1, bw_21⟩
 subst c3
 rw [if_pos rfl] at H
 replace H := bez H
 obtain ⟨t536, A4, H⟩ := H
 try dsimp only at H
 by_cases c5 : t536 = true
 ·subst c5
  rw [if_pos rfl] at H
  obtain rfl := Option.some.inj H
  go_enter Try.func48, Try.ntmps48
  go_wp2_with (first | ((with_reducible refine gtD (N := 1) rfl ?_); refine bx (N := 1) (cs := #[.int .i64 a0_0, .int .i64 a0_1]) (t := 25) ?_; intro gb534 hg w6 hbox hb; have BK534 := Az.mk (hbox); have GW534 := gwz hg bw_21; have GE534 := gwz hg bw_21; replace HB := Az.mk (bwT bw_21 hb); clear hb hbox hg; obtain ⟨hcz7_0, hcz7_1, hfz7_0, hfz7_1⟩ := bq2 BK534) | ((with_reducible refine gtC (f := 22) rfl ?_); refine clz Try.func22 (some 4) #[.agg #[.int .i64 a0_0, .int .i64 a0_1]] ?_; (with_reducible refine (spec_IsSlope.calls k a0_0 a0_1 true _ A2.out).mono ?_); rintro e w8 ⟨rfl, hb⟩; refine ⟨_, rfl, ?_⟩; replace BK534 := bkz BK534 hb; replace HB := Az.mk (bwT bw_21 hb); (try clear hb); obtain ⟨hcz9_0, hcz9_1, hfz9_0, hfz9_1⟩ := bq2 BK534) | (go_at_call 40; (with_reducible refine (spec_l1In.calls a0_0 (-20) 20 true _ A4.out).mono ?_); rintro e w' ⟨rfl, ⟨nd, rfl⟩⟩))
  go_ret
  exact ⟨rq1, bw_21⟩
 replace c5 := Bool.eq_false_iff.mpr c5
 subst c5
 rw [if_neg (show ¬ (false = true) by decide)] at H
 obtain rfl := Option.some.inj H
 go_enter Try.func48, Try.ntmps48
 go_wp2_with (first | ((with_reducible refine gtD (N := 1) rfl ?_); refine bx (N := 1) (cs := #[.int .i64 a0_0, .int .i64 a0_1]) (t := 25) ?_; intro gb534 hg w10 hbox hb; have BK534 := Az.mk (hbox); have GW534 := gwz hg bw_21; have GE534 := gwz hg bw_21; replace HB := Az.mk (bwT bw_21 hb); clear hb hbox hg; obtain ⟨hcz11_0, hcz11_1, hfz11_0, hfz11_1⟩ := bq2 BK534) | ((with_reducible refine gtC (f := 22) rfl ?_); refine clz Try.func22 (some 4) #[.agg #[.int .i64 a0_0, .int .i64 a0_1]] ?_; (with_reducible refine (spec_IsSlope.calls k a0_0 a0_1 true _ A2.out).mono ?_); rintro e w12 ⟨rfl, hb⟩; refine ⟨_, rfl, ?_⟩; replace BK534 := bkz BK534 hb; replace HB := Az.mk (bwT bw_21 hb); (try clear hb); obtain ⟨hcz13_0, hcz13_1, hfz13_0, hfz13_1⟩ := bq2 BK534) | (go_at_call 40; (with_reducible refine (spec_l1In.calls a0_0 (-20) 20 false _ A4.out).mono ?_); rintro e w' ⟨rfl, ⟨nd, rfl⟩⟩))
 go_ret
 exact ⟨rq1, bw_21⟩

end Go.Proofs.Ytigcjehokbgclaa.P
